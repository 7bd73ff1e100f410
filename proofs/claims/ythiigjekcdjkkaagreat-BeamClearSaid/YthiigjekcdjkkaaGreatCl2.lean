/-
 The statement beamClear_said, part 2 of 5: Short, MapK, Watch, Passes, Keys, MapR, RangeG, Grow, Nest, WMaps, NestS, Frozen, MarkD, Marks, WBounds, PassG, Drop, Spot, First, Line, Wrap, Goes, OpenW, Wheres, Follow, OpenM, LineR, WLe, Ends5, Can, False, Sim, Told, Clear, MoreL, Snow, Twin, Ahead5, Drive.
 Conditions: none.
-/
import Derived.Test.YthiigjekcdjkkaaGreatCl1
import Derived.WideKeyRuns
namespace Go.Proofs.YthiigjekcdjkkaaGreat
section
open Go.RowKit
set_option linter.unusedVariables false
/-- an operation that hands v to its slot d -/
structure SE (E:eu) (ops:Array Oper) (o:Oper) (D:List Deferred) (L:List (Nat×Value)) (C:List aD) (v:Value) (d:Nat):Prop where
 h:SD E ops o D L C v
 o:o.dst=some d
 n:Nat.blt d E.n=true
theorem rS {E:eu} {ops:Array Oper} {Q:cZ} {o:Oper} {rest:List Oper} {D:List Deferred} {L:List (Nat×Value)} {C:List aD} {v:Value} {d:Nat}
 (h:SE E ops o D L C v d) (k:RJ E ops Q rest D ((d,v)::L) C):RJ E ops Q (o::rest) D L C:=Gq h.h h.o h.n k
theorem dS {E:eu} {ops:Array Oper} {F:List (Nat×Value)→Prop} {o:Oper} {rest:List Oper} {D:List Deferred} {L:List (Nat×Value)} {C:List aD} {v:Value} {d:Nat}
 (h:SE E ops o D L C v d) (k:DJ E ops D C F rest ((d,v)::L)):DJ E ops D C F (o::rest) L:=GS h.h h.o h.n k
theorem eS {E:eu} {ops:Array Oper} {D:List Deferred} {C' C1:List aD} {F:List (Nat×Value)→Prop} {bs:List Bool} {o:Oper} {l rest:List Oper} {L:List (Nat×Value)} {v:Value} {d:Nat}
 (hl:l=o::rest) (h:SE E ops o D L C' v d) (k:oJ E ops D C' C1 F bs rest ((d,v)::L)):oJ E ops D C' C1 F (false::bs) l L:=Ed h.h hl h.o h.n k
theorem fS {E:eu} {ops:Array Oper} {D:List Deferred} {C' C1:List aD} {F:List (Nat×Value)→Prop} {bs:List Bool} {o:Oper} {l rest:List Oper} {L:List (Nat×Value)} {v:Value} {d:Nat}
 (hl:l=o::rest) (h:SE E ops o D L C1 v d) (k:oJ E ops D C' C1 F bs rest ((d,v)::L)):oJ E ops D C' C1 F (true::bs) l L:=Ep h.h hl h.o h.n k
def gB (n:Nat) (ops:Array Oper) (L:List (Nat×Value)) (d:Nat) (g:Option (Nat×Bool)):Bool:=iD ops L g&&Nat.blt d n
theorem AX {n:Nat} {ops:Array Oper} {L:List (Nat×Value)} {d:Nat} {g:Option (Nat×Bool)} (h:gB n ops L d g=true):iD ops L g=true:=by
 unfold gB at h; rw [Bool.and_eq_true] at h; exact h.1
theorem Bh {n:Nat} {ops:Array Oper} {L:List (Nat×Value)} {d:Nat} {g:Option (Nat×Bool)} (h:gB n ops L d g=true):Nat.blt d n=true:=by
 unfold gB at h; rw [Bool.and_eq_true] at h; exact h.2
def vF (n:Nat) (ops:Array Oper) (L:List (Nat×Value)) (d:Nat) (g:Option (Nat×Bool)) (x:Operand):Option Value:=match gB n ops L d g with
 |true=>ev L x
 |false=>none
def bF (n:Nat) (ops:Array Oper) (L:List (Nat×Value)) (d:Nat) (g:Option (Nat×Bool)) (x y:Operand):Option (Value×Value):=match gB n ops L d g with
 |true=>match ev L x,ev L y with
  |some u,some v=>some (u,v)
  |_,_=>none
 |false=>none
def pF (n:Nat) (ops:Array Oper) (L:List (Nat×Value)) (d:Nat) (g:Option (Nat×Bool)) (c x y:Operand):Option Value:=match gB n ops L d g with
 |true=>match ev L c with
  |some (.bool true)=>ev L x
  |some (.bool false)=>ev L y
  |_=>none
 |false=>none
def xF (n:Nat) (ops:Array Oper) (L:List (Nat×Value)) (d:Nat) (g:Option (Nat×Bool)) (x:Operand) (i:Nat):Option Value:=match vF n ops L d g x with
 |some (.tuple vs)=>vs.toList[i]?
 |_=>none
def uF (n:Nat) (ops:Array Oper) (L:List (Nat×Value)) (d:Nat) (g:Option (Nat×Bool)) (xs ys:List Operand):Option (List Value×List Value):=match gB n ops L d g with
 |true=>match evs L xs,evs L ys with
  |some u,some v=>some (u,v)
  |_,_=>none
 |false=>none
def cF (n:Nat) (ops:Array Oper) (L:List (Nat×Value)) (d:Nat) (g:Option (Nat×Bool)) (fop:Operand) (xs:List Operand):Option (FuncId×List Value):=match gB n ops L d g with
 |true=>match ev L fop,evs L xs with
  |some (.func (.func f) fi ca),some vs=>some (f,fi.toList++vs++ca.toList)
  |_,_=>none
 |false=>none
theorem fQ {n:Nat} {ops:Array Oper} {L:List (Nat×Value)} {d:Nat} {g:Option (Nat×Bool)} {x:Operand} {v:Value} (h:vF n ops L d g x=some v):iD ops L g=true∧Nat.blt d n=true∧ev L x=some v:=by
 unfold vF at h
 split at h
 ·rename_i hb; exact ⟨AX hb,Bh hb,h⟩
 ·cases h
theorem pg {n:Nat} {ops:Array Oper} {L:List (Nat×Value)} {d:Nat} {g:Option (Nat×Bool)} {x y:Operand} {u v:Value} (h:bF n ops L d g x y=some (u,v)):iD ops L g=true∧Nat.blt d n=true∧ev L x=some u∧ev L y=some v:=by
 unfold bF at h
 split at h
 ·rename_i hb
  split at h
  ·rename_i hx hy; cases h; exact ⟨AX hb,Bh hb,hx,hy⟩
  ·cases h
 ·cases h
theorem B8 {n:Nat} {ops:Array Oper} {L:List (Nat×Value)} {d:Nat} {g:Option (Nat×Bool)} {x y:List Operand} {u v:List Value} (h:uF n ops L d g x y=some (u,v)):iD ops L g=true∧Nat.blt d n=true∧evs L x=some u∧evs L y=some v:=by
 unfold uF at h
 split at h
 ·rename_i hb
  split at h
  ·rename_i hx hy; cases h; exact ⟨AX hb,Bh hb,hx,hy⟩
  ·cases h
 ·cases h
section
variable {E:eu} {ops:Array Oper} {Q:cZ} {rest:List Oper} {D:List Deferred} {L:List (Nat×Value)} {C:List aD}
variable {d:Nat} {ty:TypeId} {ps:String} {af:Array Edge} {g:Option (Nat×Bool)}
theorem SX {o:Oper} {v:Value} (h:SD E ops o D L C v) (ho:o.dst=some d) (hd:Nat.blt d E.n=true):SE E ops o D L C v d:=⟨h,ho,hd⟩
theorem MV {x:Operand} {v:Value} (h:vF E.n ops L d g x=some v):SE E ops ⟨some d,.move x,ty,ps,af,g⟩ D L C v d:=by
 obtain ⟨h1,h2,h3⟩:=fQ h; exact ⟨Au h1 h3,rfl,h2⟩
theorem AG {x:Operand} {v:Value} (h:vF E.n ops L d g x=some v):SE E ops ⟨some d,.assign x,ty,ps,af,g⟩ D L C v d:=by
 obtain ⟨h1,h2,h3⟩:=fQ h; exact ⟨xn h1 h3,rfl,h2⟩
theorem OX {op:Op} (h:(zA ops L g&&Nat.blt d E.n)=true):SE E ops ⟨some d,op,ty,ps,af,g⟩ D L C undef d:=by
 rw [Bool.and_eq_true] at h; exact ⟨CN h.1,rfl,h.2⟩
theorem NT {xt:TypeId} {x:Operand} {b:Bool} (h:vF E.n ops L d g x=some (.bool b)):SE E ops ⟨some d,.unOp .not xt x,ty,ps,af,g⟩ D L C (.bool !b) d:=by
 obtain ⟨h1,h2,h3⟩:=fQ h; exact ⟨CG h1 h3,rfl,h2⟩
theorem NG {xt:TypeId} {x:Operand} {n:Int} (h:vF E.n ops L d g x=some (.int .i64 n)) (hb:mC (-n)):SE E ops ⟨some d,.unOp .neg xt x,ty,ps,af,g⟩ D L C (.int .i64 (-n)) d:=by
 obtain ⟨h1,h2,h3⟩:=fQ h; exact ⟨CO h1 h3 hb,rfl,h2⟩
theorem PK {c x y:Operand} {v:Value} (h:pF E.n ops L d g c x y=some v):SE E ops ⟨some d,.pick c x y,ty,ps,af,g⟩ D L C v d:=by
 unfold pF at h
 split at h
 ·rename_i hb
  split at h
  ·rename_i hc; exact ⟨wM (AX hb) hc h,rfl,Bh hb⟩
  ·rename_i hc; exact ⟨wH (AX hb) hc h,rfl,Bh hb⟩
  ·cases h
 ·cases h
theorem EX {x:Operand} {i:Nat} {v:Value} (h:xF E.n ops L d g x i=some v):SE E ops ⟨some d,.extract x i,ty,ps,af,g⟩ D L C v d:=by
 unfold xF at h
 split at h
 ·rename_i vs hv
  obtain ⟨h1,h2,h3⟩:=fQ hv
  exact ⟨u3 (vs:=vs.toList) h1 (by simpa using h3) h,rfl,h2⟩
 ·cases h
theorem LN {x:Operand} {t e:TypeId} {A:Option Addr} {n c:Nat} (h:vF E.n ops L d g x=some (.slice A n c)) (ht:E.P.underlying t=some (.slice e)):
 SE E ops ⟨some d,.call {callee:= .builtin .len,args:= #[x],argTypes:= #[t]},ty,ps,af,g⟩ D L C (.int .i64 n) d:=by
 obtain ⟨h1,h2,h3⟩:=fQ h; exact ⟨CK h1 h3 ht,rfl,h2⟩
theorem BI {op:BinOp} {xt yt:TypeId} {x y:Operand} {u v r:Value} (h:bF E.n ops L d g x y=some (u,v)) (hb:fm E.P op xt x y u v r):SE E ops ⟨some d,.binOp op xt x y yt,ty,ps,af,g⟩ D L C r d:=by
 obtain ⟨h1,h2,h3,h4⟩:=pg h; exact ⟨gn h1 h3 h4 hb,rfl,h2⟩
theorem MN {x y:Operand} {ts:Array TypeId} {a b:Int} {k:IntKind} (h:bF E.n ops L d g x y=some (.int k a,.int k b)):
 SE E ops ⟨some d,.call {callee:= .builtin .min,args:= #[x,y],argTypes:=ts},ty,ps,af,g⟩ D L C (.int k (min a b)) d:=by
 obtain ⟨h1,h2,h3,h4⟩:=pg h; exact ⟨B5 h1 h3 h4,rfl,h2⟩
theorem MX {x y:Operand} {ts:Array TypeId} {a b:Int} {k:IntKind} (h:bF E.n ops L d g x y=some (.int k a,.int k b)):
 SE E ops ⟨some d,.call {callee:= .builtin .max,args:= #[x,y],argTypes:=ts},ty,ps,af,g⟩ D L C (.int k (max a b)) d:=by
 obtain ⟨h1,h2,h3,h4⟩:=pg h; exact ⟨BQ h1 h3 h4,rfl,h2⟩
theorem FA (o':Nat) {x:Operand} {b o s f k:Nat} (h:vF E.n ops L d g x=some (.pointer (some ⟨b,o,none⟩))) (hf:eV E.P s f=some k) (ho:o+k=o'):
 SE E ops ⟨some d,.fieldAddr s x f,ty,ps,af,g⟩ D L C (.pointer (some ⟨b,o',none⟩)) d:=by
 obtain ⟨h1,h2,h3⟩:=fQ h; exact ⟨Dj h1 h3 hf ho,rfl,h2⟩
theorem qP (k':Nat) {x:Operand} {A:Option Addr} {n sz:Nat} {es:List (List Value)} {k0 s f k:Nat} (h:vF E.n ops L d g x=some (.pointer (nP A k0))) (hR:nj C (rd A n sz es).holds) (hn:0<n*sz)
 (hf:eV E.P s f=some k) (ho:k0+k=k'):SE E ops ⟨some d,.fieldAddr s x f,ty,ps,af,g⟩ D L C (.pointer (nP A k')) d:=by
 obtain ⟨h1,h2,h3⟩:=fQ h; exact ⟨yX h1 h3 hR hn hf ho,rfl,h2⟩
theorem IA (k:Nat) {x ix:Operand} {A:Option Addr} {n c sz e t:Nat} {es:List (List Value)} {j:Int} (h:bF E.n ops L d g x ix=some (.slice A n c,.int .i64 j)) (hR:nj C (rd A n sz es).holds)
 (ht:tE E.P t=some (e,sz)) (hz:0<sz) (hj:j=(k:Int)) (hk:k<n):SE E ops ⟨some d,.indexAddr t x ix,ty,ps,af,g⟩ D L C (.pointer (nP A (k*sz))) d:=by
 obtain ⟨h1,h2,h3,h4⟩:=pg h; exact ⟨DD h1 h3 h4 hR ht hz hj hk,rfl,h2⟩
theorem ES (k o':Nat) {x ix:Operand} {b o n c sz e t:Nat} {j:Int} (h:bF E.n ops L d g x ix=some (.slice (some ⟨b,o,none⟩) n c,.int .i64 j))
 (ht:tE E.P t=some (e,sz)) (hj:j=(k:Int)) (hk:k<n) (ho:o+k*sz=o'):SE E ops ⟨some d,.indexAddr t x ix,ty,ps,af,g⟩ D L C (.pointer (some ⟨b,o',none⟩)) d:=by
 obtain ⟨h1,h2,h3,h4⟩:=pg h; exact ⟨Aq h1 h3 h4 ht hj hk ho,rfl,h2⟩
/-- the whole of a block, a part of it, one cell -/
theorem LW (i:Nat) {x:Operand} {b t tt n:Nat} {cs:List Value} (h:vF E.n ops L d g x=some (.pointer (some ⟨b,0,none⟩))) (ht:tK E.P t=some (true,n)) (hC:C[i]? =some (aU b tt cs)) (hn:cs.length=n):
 SE E ops ⟨some d,.load t x,ty,ps,af,g⟩ D L C (.agg cs.toArray) d:=by
 obtain ⟨h1,h2,h3⟩:=fQ h; exact ⟨qR h1 h3 ht (cd i hC (by simp)) hn,rfl,h2⟩
theorem G0 (i:Nat) {x:Operand} {b t tt n:Nat} {cs:List Value} (h:vF E.n ops L d g x=some (.pointer (some ⟨b,0,none⟩))) (ht:tK E.P t=some (true,n)) (hC:C[i]? =some (aU b tt cs).ro) (hn:cs.length=n):
 SE E ops ⟨some d,.load t x,ty,ps,af,g⟩ D L C (.agg cs.toArray) d:=by
 obtain ⟨h1,h2,h3⟩:=fQ h; exact ⟨qR h1 h3 ht (pT i hC (by simp)) hn,rfl,h2⟩
theorem LP (vs:List Value) (i:Nat) {x:Operand} {b o t tt n:Nat} {cs:List Value} (h:vF E.n ops L d g x=some (.pointer (some ⟨b,o,none⟩))) (ht:tK E.P t=some (true,n)) (hC:C[i]? =some (aU b tt cs)) (hv:(cs.drop o).take vs.length=vs) (hn:vs.length=n):
 SE E ops ⟨some d,.load t x,ty,ps,af,g⟩ D L C (.agg vs.toArray) d:=by
 obtain ⟨h1,h2,h3⟩:=fQ h; exact ⟨qR h1 h3 ht (cd i hC hv) hn,rfl,h2⟩
theorem G_ (vs:List Value) (i:Nat) {x:Operand} {b o t tt n:Nat} {cs:List Value} (h:vF E.n ops L d g x=some (.pointer (some ⟨b,o,none⟩))) (ht:tK E.P t=some (true,n)) (hC:C[i]? =some (aU b tt cs).ro) (hv:(cs.drop o).take vs.length=vs) (hn:vs.length=n):
 SE E ops ⟨some d,.load t x,ty,ps,af,g⟩ D L C (.agg vs.toArray) d:=by
 obtain ⟨h1,h2,h3⟩:=fQ h; exact ⟨qR h1 h3 ht (pT i hC hv) hn,rfl,h2⟩
theorem L1 (v:Value) (i:Nat) {x:Operand} {b o t tt n:Nat} {cs:List Value} (h:vF E.n ops L d g x=some (.pointer (some ⟨b,o,none⟩))) (ht:tK E.P t=some (false,n)) (hC:C[i]? =some (aU b tt cs)) (hv:(cs.drop o).take 1=[v]):
 SE E ops ⟨some d,.load t x,ty,ps,af,g⟩ D L C v d:=by
 obtain ⟨h1,h2,h3⟩:=fQ h; exact ⟨qO h1 h3 ht (cd i hC hv),rfl,h2⟩
theorem l9 (v:Value) (i:Nat) {x:Operand} {b o t tt n:Nat} {cs:List Value} (h:vF E.n ops L d g x=some (.pointer (some ⟨b,o,none⟩))) (ht:tK E.P t=some (false,n)) (hC:C[i]? =some (aU b tt cs).ro) (hv:(cs.drop o).take 1=[v]):
 SE E ops ⟨some d,.load t x,ty,ps,af,g⟩ D L C v d:=by
 obtain ⟨h1,h2,h3⟩:=fQ h; exact ⟨qO h1 h3 ht (pT i hC hv),rfl,h2⟩
theorem jc (i:Nat) {x:Operand} {b t tt n:Nat} {v:Value} (h:vF E.n ops L d g x=some (.pointer (some ⟨b,0,none⟩))) (ht:tK E.P t=some (false,n)) (hC:C[i]? =some (aU b tt [v])):
 SE E ops ⟨some d,.load t x,ty,ps,af,g⟩ D L C v d:=by
 obtain ⟨h1,h2,h3⟩:=fQ h; exact ⟨qO h1 h3 ht (cd i hC rfl),rfl,h2⟩
theorem rY (i:Nat) {x:Operand} {b t tt n:Nat} {v:Value} (h:vF E.n ops L d g x=some (.pointer (some ⟨b,0,none⟩))) (ht:tK E.P t=some (false,n)) (hC:C[i]? =some (aU b tt [v]).ro):
 SE E ops ⟨some d,.load t x,ty,ps,af,g⟩ D L C v d:=by
 obtain ⟨h1,h2,h3⟩:=fQ h; exact ⟨qO h1 h3 ht (pT i hC rfl),rfl,h2⟩
/-- what is read of a row -/
theorem ir (k o:Nat) (v:Value) {x:Operand} {A:Option Addr} {t m n sz:Nat} {es:List (List Value)} {e:List Value} (h:vF E.n ops L d g x=some (.pointer (nP A m))) {nn:Nat} (ht:tK E.P t=some (false,nn)) (hR:nj C (rd A n sz es).holds) (he:es[k]? =some e) (hm:m=k*sz+o) (hz:0<sz) (hv:(e.drop o).take 1=[v]):
 SE E ops ⟨some d,.load t x,ty,ps,af,g⟩ D L C v d:=by
 obtain ⟨h1,h2,h3⟩:=fQ h; exact ⟨qO h1 h3 ht (Bb hR he hm hz hv),rfl,h2⟩
theorem kE (k o:Nat) (vs:List Value) {x:Operand} {A:Option Addr} {t m n sz:Nat} {es:List (List Value)} {e:List Value} (h:vF E.n ops L d g x=some (.pointer (nP A m))) {nn:Nat} (ht:tK E.P t=some (true,nn)) (hR:nj C (rd A n sz es).holds) (he:es[k]? =some e) (hm:m=k*sz+o) (hz:0<sz) (hv:(e.drop o).take vs.length=vs) (hn:vs.length=nn):
 SE E ops ⟨some d,.load t x,ty,ps,af,g⟩ D L C (.agg vs.toArray) d:=by
 obtain ⟨h1,h2,h3⟩:=fQ h; exact ⟨qR h1 h3 ht (Bb hR he hm hz hv) hn,rfl,h2⟩
theorem CL {fop:Operand} {xs:Array Operand} {ts:Array TypeId} {f:FuncId} {args:List Value} {Cp:List aD} {v:Value} (c:dY E.P f args Cp v) (hC:i_ C Cp) (h:cF E.n ops L d g fop xs.toList=some (f,args)):
 SE E ops ⟨some d,.call {callee:= .value fop,args:=xs,argTypes:=ts},ty,ps,af,g⟩ D L C v d:=by
 unfold cF at h
 split at h
 ·rename_i hb
  split at h
  ·rename_i hf hx; cases h; exact ⟨vJ (AX hb) hf hx rfl c hC,rfl,Bh hb⟩
  ·cases h
 ·cases h
theorem FU {fn:Fn} {xs ys:Array Operand} {us vs:List Value} (h:uF E.n ops L d g xs.toList ys.toList=some (us,vs)):SE E ops ⟨some d,.makeFunc fn xs ys,ty,ps,af,g⟩ D L C (.func fn us.toArray vs.toArray) d:=by
 obtain ⟨h1,h2,h3,h4⟩:=B8 h; exact ⟨As h1 h3 h4,rfl,h2⟩
theorem cX {fop:Operand} {xs:Array Operand} {ts:Array TypeId} {f:FuncId} {args:List Value} {Cp:List aD} {α:Type} {V:α→Value} {p:α→Prop} {N:α→List aD} (c:rM E.P f args Cp V p N) (hC:i_ C Cp)
 (h:cF E.n ops L d g fop xs.toList=some (f,args)) (k: ∀ x,p x→RJ E ops Q rest D ((d,V x)::L) (N x++C)):
 RJ E ops Q (⟨some d,.call {callee:= .value fop,args:=xs,argTypes:=ts},ty,ps,af,g⟩::rest) D L C:=by
 unfold cF at h
 split at h
 ·rename_i hb
  split at h
  ·rename_i hf hx; cases h; exact BK (AX hb) hf hx rfl c hC (Bh hb) k
  ·cases h
 ·cases h
/-- a box of a struct, of one cell -/
theorem gv {t:TypeId} {x:Operand} {cs:List Value} (h:vF E.n ops L d g x=some (.agg cs.toArray)) (k: ∀ b,RJ E ops Q rest D ((d,.pointer (some ⟨b,0,none⟩))::L) (aU b t cs::C)):
 RJ E ops Q (⟨some d,.box t x,ty,ps,af,g⟩::rest) D L C:=by
 obtain ⟨h1,h2,h3⟩:=fQ h; exact Bk h1 h3 rfl h2 k
theorem vY {t:TypeId} {x:Operand} {v:Value} (h:vF E.n ops L d g x=some v) (hv:v.cells.toList=[v]) (k: ∀ b,RJ E ops Q rest D ((d,.pointer (some ⟨b,0,none⟩))::L) (aU b t [v]::C)):
 RJ E ops Q (⟨some d,.box t x,ty,ps,af,g⟩::rest) D L C:=by
 obtain ⟨h1,h2,h3⟩:=fQ h; exact Bk h1 h3 hv h2 k
theorem AL {t:TypeId} {cs:List Value} (h:gB E.n ops L d g=true) (hz:tZ E.P t=some cs) (k: ∀ b,RJ E ops Q rest D ((d,.pointer (some ⟨b,0,none⟩))::L) (aU b t cs::C)):
 RJ E ops Q (⟨some d,.alloc t,ty,ps,af,g⟩::rest) D L C:=AB (AX h) hz (Bh h) k
/-- a store into the block at the place i of the state -/
def sF (ops:Array Oper) (L:List (Nat×Value)) (g:Option (Nat×Bool)) (x y:Operand):Option (Value×Value):=match iD ops L g with
 |true=>match ev L x,ev L y with
  |some u,some v=>some (u,v)
  |_,_=>none
 |false=>none
theorem va {ops:Array Oper} {L:List (Nat×Value)} {g:Option (Nat×Bool)} {x y:Operand} {u v:Value} (h:sF ops L g x y=some (u,v)):iD ops L g=true∧ev L x=some u∧ev L y=some v:=by
 unfold sF at h
 split at h
 ·rename_i hb
  split at h
  ·rename_i hx hy; cases h; exact ⟨hb,hx,hy⟩
  ·cases h
 ·cases h
theorem EK {t n b o tt:Nat} {x y:Operand} {v:Value} {cs cs':List Value} {C':List aD} (i:Nat) (h:sF ops L g x y=some (.pointer (some ⟨b,o,none⟩),v)) (ht:(tK E.P t).map (·.2)=some n) (hC:C[i]? =some (aU b tt cs))
 (hk:(v.cells.toList.length==n&&v.cells.toList.all Value.oneCell'&&Nat.ble (o+n) cs.length)=true) (hcs:cs.take o++v.cells.toList++cs.drop (o+n)=cs') (hC':C.set i (aU b tt cs')=C') (k:RJ E ops Q rest D L C'):
 RJ E ops Q (⟨none,.store t x y,ty,ps,af,g⟩::rest) D L C:=by
 obtain ⟨h1,h2,h3⟩:=va h
 simp only [Bool.and_eq_true,beq_iff_eq] at hk
 exact nU i h1 h2 h3 ht rfl hk.1.1 hk.1.2 hC hk.2 hcs hC' k
/-- a store of a whole block, by a struct, by one cell -/
theorem Bl {t n b tt:Nat} {x y:Operand} {cs cs':List Value} {C':List aD} (i:Nat) (h:sF ops L g x y=some (.pointer (some ⟨b,0,none⟩),.agg cs'.toArray)) (ht:(tK E.P t).map (·.2)=some n) (hC:C[i]? =some (aU b tt cs))
 (hk:(Nat.beq cs'.length n&&cs'.all Value.oneCell'&&Nat.beq n cs.length)=true) (hC':C.set i (aU b tt cs')=C') (k:RJ E ops Q rest D L C'):
 RJ E ops Q (⟨none,.store t x y,ty,ps,af,g⟩::rest) D L C:=by
 obtain ⟨h1,h2,h3⟩:=va h
 simp only [Bool.and_eq_true] at hk
 obtain ⟨⟨hk1,hk2⟩,hk3⟩:=hk
 have e1:=Nat.eq_of_beq_eq_true hk1
 have e3:=Nat.eq_of_beq_eq_true hk3
 exact nU i h1 h2 h3 ht rfl e1 hk2 hC (by rw [Nat.zero_add,e3]; exact Nat.ble_self_eq_true _) (by rw [Nat.zero_add,e3,List.take_zero,List.drop_length]; show []++cs'++[]=cs'; simp) hC' k
theorem Fx {t n b tt:Nat} {x y:Operand} {v u:Value} {C':List aD} (i:Nat) (h:sF ops L g x y=some (.pointer (some ⟨b,0,none⟩),v)) (ht:(tK E.P t).map (·.2)=some n) (hC:C[i]? =some (aU b tt [u]))
 (hv:v.cells.toList=[v]) (hk:(Nat.beq n 1&&v.oneCell')=true) (hC':C.set i (aU b tt [v])=C') (k:RJ E ops Q rest D L C'):
 RJ E ops Q (⟨none,.store t x y,ty,ps,af,g⟩::rest) D L C:=by
 obtain ⟨h1,h2,h3⟩:=va h
 rw [Bool.and_eq_true] at hk
 obtain ⟨hk1,hk2⟩:=hk
 have e1:=Nat.eq_of_beq_eq_true hk1
 subst e1
 exact nU i h1 h2 h3 ht hv rfl (by simp [hk2]) hC rfl rfl hC' k
theorem e7 {t n b tt:Nat} {x y:Operand} {cs cs':List Value} (h:sF ops L g x y=some (.pointer (some ⟨b,0,none⟩),.agg cs'.toArray)) (ht:(tK E.P t).map (·.2)=some n) (hk:(Nat.beq cs'.length n&&cs'.all Value.oneCell'&&Nat.beq n cs.length)=true) (k:RJ E ops Q rest D L (aU b tt cs'::C)):RJ E ops Q (⟨none,.store t x y,ty,ps,af,g⟩::rest) D L (aU b tt cs::C):=Bl 0 h ht rfl hk rfl k
theorem zH {t n b tt:Nat} {x y:Operand} {v u:Value} (h:sF ops L g x y=some (.pointer (some ⟨b,0,none⟩),v)) (ht:(tK E.P t).map (·.2)=some n) (hv:v.cells.toList=[v]) (hk:(Nat.beq n 1&&v.oneCell')=true) (k:RJ E ops Q rest D L (aU b tt [v]::C)):RJ E ops Q (⟨none,.store t x y,ty,ps,af,g⟩::rest) D L (aU b tt [u]::C):=Fx 0 h ht rfl hv hk rfl k
theorem G1 (cs':List Value) {t n b o tt:Nat} {x y:Operand} {v:Value} {cs:List Value} (h:sF ops L g x y=some (.pointer (some ⟨b,o,none⟩),v)) (ht:(tK E.P t).map (·.2)=some n) (hk:(v.cells.toList.length==n&&v.cells.toList.all Value.oneCell'&&Nat.ble (o+n) cs.length)=true) (hcs:cs.take o++v.cells.toList++cs.drop (o+n)=cs') (k:RJ E ops Q rest D L (aU b tt cs'::C)):RJ E ops Q (⟨none,.store t x y,ty,ps,af,g⟩::rest) D L (aU b tt cs::C):=EK 0 h ht rfl hk hcs rfl k
theorem oL {t n b tt:Nat} {x y:Operand} {cs cs':List Value} {A0:aD} (h:sF ops L g x y=some (.pointer (some ⟨b,0,none⟩),.agg cs'.toArray)) (ht:(tK E.P t).map (·.2)=some n) (hk:(Nat.beq cs'.length n&&cs'.all Value.oneCell'&&Nat.beq n cs.length)=true) (k:RJ E ops Q rest D L (A0::aU b tt cs'::C)):RJ E ops Q (⟨none,.store t x y,ty,ps,af,g⟩::rest) D L (A0::aU b tt cs::C):=Bl 1 h ht rfl hk rfl k
theorem GZ {t n b tt:Nat} {x y:Operand} {v u:Value} {A0:aD} (h:sF ops L g x y=some (.pointer (some ⟨b,0,none⟩),v)) (ht:(tK E.P t).map (·.2)=some n) (hv:v.cells.toList=[v]) (hk:(Nat.beq n 1&&v.oneCell')=true) (k:RJ E ops Q rest D L (A0::aU b tt [v]::C)):RJ E ops Q (⟨none,.store t x y,ty,ps,af,g⟩::rest) D L (A0::aU b tt [u]::C):=Fx 1 h ht rfl hv hk rfl k
theorem sL {t n b tt:Nat} {x y:Operand} {cs cs':List Value} {A0 A1:aD} (h:sF ops L g x y=some (.pointer (some ⟨b,0,none⟩),.agg cs'.toArray)) (ht:(tK E.P t).map (·.2)=some n) (hk:(Nat.beq cs'.length n&&cs'.all Value.oneCell'&&Nat.beq n cs.length)=true) (k:RJ E ops Q rest D L (A0::A1::aU b tt cs'::C)):RJ E ops Q (⟨none,.store t x y,ty,ps,af,g⟩::rest) D L (A0::A1::aU b tt cs::C):=Bl 2 h ht rfl hk rfl k
theorem G7 (cs':List Value) {t n b o tt:Nat} {x y:Operand} {v:Value} {cs:List Value} {A0 A1:aD} (h:sF ops L g x y=some (.pointer (some ⟨b,o,none⟩),v)) (ht:(tK E.P t).map (·.2)=some n) (hk:(v.cells.toList.length==n&&v.cells.toList.all Value.oneCell'&&Nat.ble (o+n) cs.length)=true) (hcs:cs.take o++v.cells.toList++cs.drop (o+n)=cs') (k:RJ E ops Q rest D L (A0::A1::aU b tt cs'::C)):RJ E ops Q (⟨none,.store t x y,ty,ps,af,g⟩::rest) D L (A0::A1::aU b tt cs::C):=EK 2 h ht rfl hk hcs rfl k
theorem By {t n b tt:Nat} {x y:Operand} {cs cs':List Value} {A0 A1 A2:aD} (h:sF ops L g x y=some (.pointer (some ⟨b,0,none⟩),.agg cs'.toArray)) (ht:(tK E.P t).map (·.2)=some n) (hk:(Nat.beq cs'.length n&&cs'.all Value.oneCell'&&Nat.beq n cs.length)=true) (k:RJ E ops Q rest D L (A0::A1::A2::aU b tt cs'::C)):RJ E ops Q (⟨none,.store t x y,ty,ps,af,g⟩::rest) D L (A0::A1::A2::aU b tt cs::C):=Bl 3 h ht rfl hk rfl k
theorem AV (cs':List Value) {t n b o tt:Nat} {x y:Operand} {v:Value} {cs:List Value} {A0 A1 A2:aD} (h:sF ops L g x y=some (.pointer (some ⟨b,o,none⟩),v)) (ht:(tK E.P t).map (·.2)=some n) (hk:(v.cells.toList.length==n&&v.cells.toList.all Value.oneCell'&&Nat.ble (o+n) cs.length)=true) (hcs:cs.take o++v.cells.toList++cs.drop (o+n)=cs') (k:RJ E ops Q rest D L (A0::A1::A2::aU b tt cs'::C)):RJ E ops Q (⟨none,.store t x y,ty,ps,af,g⟩::rest) D L (A0::A1::A2::aU b tt cs::C):=EK 3 h ht rfl hk hcs rfl k
theorem CU {t n b tt:Nat} {x y:Operand} {cs cs':List Value} {A0 A1 A2 A3:aD} (h:sF ops L g x y=some (.pointer (some ⟨b,0,none⟩),.agg cs'.toArray)) (ht:(tK E.P t).map (·.2)=some n) (hk:(Nat.beq cs'.length n&&cs'.all Value.oneCell'&&Nat.beq n cs.length)=true) (k:RJ E ops Q rest D L (A0::A1::A2::A3::aU b tt cs'::C)):RJ E ops Q (⟨none,.store t x y,ty,ps,af,g⟩::rest) D L (A0::A1::A2::A3::aU b tt cs::C):=Bl 4 h ht rfl hk rfl k
theorem AU {t n b tt:Nat} {x y:Operand} {cs cs':List Value} {A0 A1 A2 A3 A4:aD} (h:sF ops L g x y=some (.pointer (some ⟨b,0,none⟩),.agg cs'.toArray)) (ht:(tK E.P t).map (·.2)=some n) (hk:(Nat.beq cs'.length n&&cs'.all Value.oneCell'&&Nat.beq n cs.length)=true) (k:RJ E ops Q rest D L (A0::A1::A2::A3::A4::aU b tt cs'::C)):RJ E ops Q (⟨none,.store t x y,ty,ps,af,g⟩::rest) D L (A0::A1::A2::A3::A4::aU b tt cs::C):=Bl 5 h ht rfl hk rfl k
theorem Ha {t n b tt:Nat} {x y:Operand} {v u:Value} {A0 A1 A2 A3 A4 A5:aD} (h:sF ops L g x y=some (.pointer (some ⟨b,0,none⟩),v)) (ht:(tK E.P t).map (·.2)=some n) (hv:v.cells.toList=[v]) (hk:(Nat.beq n 1&&v.oneCell')=true) (k:RJ E ops Q rest D L (A0::A1::A2::A3::A4::A5::aU b tt [v]::C)):RJ E ops Q (⟨none,.store t x y,ty,ps,af,g⟩::rest) D L (A0::A1::A2::A3::A4::A5::aU b tt [u]::C):=Fx 6 h ht rfl hv hk rfl k
theorem He (cs':List Value) {t n b o tt:Nat} {x y:Operand} {v:Value} {cs:List Value} {A0 A1 A2 A3 A4 A5:aD} (h:sF ops L g x y=some (.pointer (some ⟨b,o,none⟩),v)) (ht:(tK E.P t).map (·.2)=some n) (hk:(v.cells.toList.length==n&&v.cells.toList.all Value.oneCell'&&Nat.ble (o+n) cs.length)=true) (hcs:cs.take o++v.cells.toList++cs.drop (o+n)=cs') (k:RJ E ops Q rest D L (A0::A1::A2::A3::A4::A5::aU b tt cs'::C)):RJ E ops Q (⟨none,.store t x y,ty,ps,af,g⟩::rest) D L (A0::A1::A2::A3::A4::A5::aU b tt cs::C):=EK 6 h ht rfl hk hcs rfl k
theorem EN {t n b tt:Nat} {x y:Operand} {cs cs':List Value} {A0 A1 A2 A3 A4 A5 A6 A7:aD} (h:sF ops L g x y=some (.pointer (some ⟨b,0,none⟩),.agg cs'.toArray)) (ht:(tK E.P t).map (·.2)=some n) (hk:(Nat.beq cs'.length n&&cs'.all Value.oneCell'&&Nat.beq n cs.length)=true) (k:RJ E ops Q rest D L (A0::A1::A2::A3::A4::A5::A6::A7::aU b tt cs'::C)):RJ E ops Q (⟨none,.store t x y,ty,ps,af,g⟩::rest) D L (A0::A1::A2::A3::A4::A5::A6::A7::aU b tt cs::C):=Bl 8 h ht rfl hk rfl k
theorem EO {t n b tt:Nat} {x y:Operand} {cs cs':List Value} {A0 A1 A2 A3 A4 A5 A6 A7 A8:aD} (h:sF ops L g x y=some (.pointer (some ⟨b,0,none⟩),.agg cs'.toArray)) (ht:(tK E.P t).map (·.2)=some n) (hk:(Nat.beq cs'.length n&&cs'.all Value.oneCell'&&Nat.beq n cs.length)=true) (k:RJ E ops Q rest D L (A0::A1::A2::A3::A4::A5::A6::A7::A8::aU b tt cs'::C)):RJ E ops Q (⟨none,.store t x y,ty,ps,af,g⟩::rest) D L (A0::A1::A2::A3::A4::A5::A6::A7::A8::aU b tt cs::C):=Bl 9 h ht rfl hk rfl k
end
section
variable {E:eu} {y:Code} {Q:cZ} {D:List Deferred} {L:List (Nat×Value)} {C:List aD}
theorem WS {id:Nat} {ops:Array Oper} (h: ∀ K:Act→World→Prop,(∀ D L C,WJ E y Q D L C→KJ E K D L C)→RJ E ops (Exit.then K Q) ops.toList D L C):WJ E (.seq (.region id ops false) y) Q D L C:=aw fun K hK=>aC (h K hK)
theorem RK {ops:Array Oper} {K:Act→World→Prop} {Q':cZ} (hK: ∀ D L C,WJ E y Q D L C→KJ E K D L C) (k:WJ E y Q D L C):RJ E ops (Exit.then K Q') [] D L C:=aX (aY (hK _ _ _ k))
theorem KK {K:Act→World→Prop} {Q':cZ} (hK: ∀ D L C,WJ E y Q D L C→KJ E K D L C) (k:WJ E y Q D L C):KJ E (Exit.then K Q' .normal) D L C:=aY (hK _ _ _ k)
theorem WK {K:Act→World→Prop} {Q':cZ} (hK: ∀ D L C,WJ E y Q D L C→KJ E K D L C) (k:WJ E y Q D L C):WJ E .skip (Exit.then K Q') D L C:=cH (aY (hK _ _ _ k))
end
theorem DT {p:Prop} [Decidable p] (h:decide p=true):p:=of_decide_eq_true h
theorem DF {p:Prop} [Decidable p] (h:decide p=false): ¬ p:=of_decide_eq_false h
theorem XT {p:Prop} [Decidable p] (h:(!decide p)=true): ¬ p:=by simpa using h
theorem XF {p:Prop} [Decidable p] (h:(!decide p)=false):p:=by simpa using h
/-- what a function hands back: one result, two, three, that lie in slots -/
theorem Q1 {E:eu} {fn:Func} {K:Act→World→Prop} {L:List (Nat×Value)} {C:List aD} {t:Nat} {u v:Value} (hQ: ∀ D L C,LJ E fn (xo E.w0 v) D L C→KJ E K D L C) (hS:E.S=rV) (hr:fn.results.toList=[.tmp t]) (hl:L.lookup t=some u) (e:u=v):KJ E K [] L C:=
 hQ _ _ _ (bD (vs:=[u]) (by rw [hr]; exact ⟨hl,trivial⟩) fun w hs=>eR e (by rw [hS] at hs; exact hs))
theorem Q2 {E:eu} {fn:Func} {K:Act→World→Prop} {L:List (Nat×Value)} {C:List aD} {t s:Nat} {u x v:Value} (hQ: ∀ D L C,LJ E fn (xo E.w0 v) D L C→KJ E K D L C) (hS:E.S=rV) (hr:fn.results.toList=[.tmp t,.tmp s]) (hl:L.lookup t=some u) (hm:L.lookup s=some x) (e:Value.tuple [u,x].toArray=v):KJ E K [] L C:=
 hQ _ _ _ (bD (vs:=[u,x]) (by rw [hr]; exact ⟨hl,hm,trivial⟩) fun w hs=>eR e (by rw [hS] at hs; exact hs))
theorem N1 {E:eu} {ops:Array Oper} {D:List Deferred} {C' C1:List aD} {F:List (Nat×Value)→List aD→Prop} {tb rem:List Nat} {n:Nat} {L:List (Nat×Value)} {C:List aD} (i:Nat)
 (h:th E ops D C' C1 F tb n (rem.filter (· != i)) i L C) (hm:rem.filter (fun i=>rem.all fun j=> !fD (ni ops) j i)=[i]:=by kernel_rfl):TN E ops D C' C1 F tb (n+1) rem L C:=kH [i] hm (gr h nx)
theorem NO {E:eu} {ops:Array Oper} {D:List Deferred} {C' C1:List aD} {F:List (Nat×Value)→List aD→Prop} {tb rem:List Nat} {n i:Nat} {L:List (Nat×Value)} {C:List aD} {o:Oper} (ho:ops[i]? =some o) (ht:tb.contains i=false) (rem':List Nat)
 (h: ∀ K:Act→World→Prop,(∀ L' C'',(∀ w,St E.S E.w0 C'' w→St E.S E.w0 C' w)→TN E ops D C' C1 F tb n rem' L' C''→KJ E K D L' C'')→RJ E ops (NQ K) [o] D L C) (hr:rem=rem':=by kernel_rfl):th E ops D C' C1 F tb n rem i L C:=FW ho hr ht h
theorem RN {E:eu} {ops:Array Oper} {K:Act→World→Prop} {D:List Deferred} {L:List (Nat×Value)} {C C':List aD} {X:List (Nat×Value)→List aD→Prop} (hT: ∀ L' C'',(∀ w,St E.S E.w0 C'' w→St E.S E.w0 C' w)→X L' C''→KJ E K D L' C'')
 (l:List Nat) (h1:decide l.Nodup=true) (h2:bB C l=C') (h:X L C):RJ E ops (NQ K) [] D L C:=aX (hT _ _ (fun w hs=>St.bB l h1 h2 hs) h)
theorem RD {E:eu} {ops:Array Oper} {K:Act→World→Prop} {D:List Deferred} {L:List (Nat×Value)} {C C':List aD} {X:List (Nat×Value)→List aD→Prop} (hT: ∀ L' C'',(∀ w,St E.S E.w0 C'' w→St E.S E.w0 C' w)→X L' C''→KJ E K D L' C'')
 (k:Nat) (h2:C.drop k=C') (h:X L C):RJ E ops (NQ K) [] D L C:=aX (hT _ _ (fun w hs=>h2▸hs.take (List.drop_sublist k C)) h)
theorem EJ {C:List aD} {A A' B B' D D':aD} (i j k:Nat) (h1:C[i]? =some A') (e1:A'.holds=A.holds) (h2:C[j]? =some B') (e2:B'.holds=B.holds) (h3:C[k]? =some D') (e3:D'.holds=D.holds):i_ C [A,B,D]:=ax i h1 e1 (ax j h2 e2 (ax k h3 e3 ar))
end
section
open Go.RowKit
set_option linter.unusedVariables false
set_option linter.unusedSectionVars false
/-- what is asked of keys -/
structure qX (P:Program) (kt:Nat) {K:Type} (kV:K→Value):Prop where
 check: ∀ (e:Bool) (x:K) (w:World),(Instr.checkKey e 10000 kt (kV x)).run P w= .ok () w
 find: ∀ (x:K) (w:World) (es:List MapEntry),(∀ e∈es,∃ k,e.key=kV k)→
  ((Instr.findKey kt (kV x) es).run P w= .ok none w∧ ∀ e∈es,e.key≠kV x)∨ ∃ j e,(Instr.findKey kt (kV x) es).run P w= .ok (some (j,e.val)) w∧es[j]? =some e∧e.key=kV x
 bits: ∀ x,Instr.sameBits 10000 (kV x) (kV x)=true
 inj: ∀ x y,kV x=kV y→x=y
section
variable {K:Type} [DecidableEq K] {kV:K→Value}
def dz {β:Type} (l:List (K×β)) (x:K) (y:β):List (K×β):=if (l.lookup x).isSome then l.map (fun p=>if p.1=x then (x,y) else p) else l++[(x,y)]
def cL {β:Type} (l:List (K×β)) (x:K):List (K×β):=l.filter fun p=> !decide (p.1=x)
def bu {β γ:Type} (f:β→γ) (l:List (K×β)):List (K×γ):=l.map fun p=>(p.1,f p.2)
theorem lS {β γ:Type} (f:β→γ) (x:K): ∀ l:List (K×β),(bu f l).lookup x=(l.lookup x).map f
 |[]=>rfl
 |p::l=>by
  obtain ⟨k,v⟩:=p
  have ih:=lS f x l
  by_cases h:x=k
  ·subst h; simp [bu,List.lookup]
  ·have:(x==k)=false:=by simpa using h
   simp only [bu,List.map_cons,List.lookup,this] at ih ⊢
   exact ih
theorem e9 {β γ:Type} (f:β→γ) (l:List (K×β)) (x:K) (y:β):bu f (dz l x y)=dz (bu f l) x (f y):=by
 unfold dz
 rw [lS,Option.isSome_map]
 split
 ·simp only [bu,List.map_map]
  refine List.map_congr_left fun p _=>?_
  simp only [Function.comp]
  split<;>rfl
 ·simp [bu]
theorem nB {β γ:Type} (f:β→γ) (l:List (K×β)) (x:K):bu f (cL l x)=cL (bu f l) x:=by
 unfold cL bu
 rw [List.filter_map]
 rfl
theorem fy {β:Type} {x:K}: ∀ {l:List (K×β)},l.lookup x=none↔ ∀ p∈l,p.1≠x
 |[]=>by simp
 |p::l=>by
  obtain ⟨k,v⟩:=p
  by_cases h:x=k
  ·subst h; simp [List.lookup]
  ·have hb:(x==k)=false:=by simpa using h
   simp only [List.lookup,hb,List.mem_cons,forall_eq_or_imp]
   rw [fy (l:=l)]
   exact ⟨fun q=>⟨fun e=>h e.symm,q⟩,fun q=>q.2⟩
theorem jt {β:Type} {x:K} {y:β}: ∀ {l:List (K×β)},(l.map (·.1)).Nodup→((x,y)∈l↔l.lookup x=some y)
 |[],_=>by simp
 |p::l,hn=>by
  obtain ⟨k,v⟩:=p
  simp only [List.map_cons,List.nodup_cons] at hn
  by_cases h:x=k
  ·subst h
   simp only [List.lookup,beq_self_eq_true,List.mem_cons,Prod.mk.injEq,true_and,Option.some.injEq]
   constructor
   ·rintro (e|e)
    ·exact e.symm
    ·exact absurd (List.mem_map.2 ⟨_,e,rfl⟩) hn.1
   ·intro e; exact .inl e.symm
  ·have hb:(x==k)=false:=by simpa using h
   simp only [List.lookup,hb,List.mem_cons,Prod.mk.injEq,h,false_and,false_or]
   exact jt hn.2
structure fU (kV:K→Value) (es:Array MapEntry) (c:Nat) (m:List (K×Value)):Prop where
 list:es.toList.map (fun (e:MapEntry)=>(e.key,e.val))=m.map (fun p=>(kV p.1,p.2))
 keys:(m.map (·.1)).Nodup
 v9: ∀ e∈es.toList,e.born<c
 born:(es.toList.map (·.born)).Nodup
def jr (kV:K→Value) (b:Nat) (m:List (K×Value)):aD where
 dL k:=k=b
 wf k:=k=b
 holds w:= ∃ es c,w.heap[b]? =some (.map es c)∧fU kV es c m
 wr:=true
 ig _ h:=h
 whole _ _ h:=h
 lt w h k hk:=by obtain ⟨es,c,he,_⟩:=h; exact hk▸da he
 jd w w' hk h:=by obtain ⟨es,c,he,hm⟩:=h; exact ⟨es,c,(hk b rfl).trans he,hm⟩
theorem fU.nil:fU kV #[] 0 []:=⟨rfl,List.nodup_nil,by simp,List.nodup_nil⟩
theorem fU.size {es:Array MapEntry} {c:Nat} {m:List (K×Value)} (h:fU kV es c m):es.size=m.length:=by
 have:=congrArg List.length h.list
 simpa using this
theorem uZ {P:Program} {kt:Nat} (hk:qX P kt kV) (x:K): ∀ (es:List MapEntry) (m:List (K×Value)),es.map (fun (e:MapEntry)=>(e.key,e.val))=m.map (fun p=>(kV p.1,p.2))→
 ((∀ e∈es,e.key≠kV x)→m.lookup x=none)∧ ∀ (j:Nat) (e:MapEntry),es[j]? =some e→e.key=kV x→m[j]? =some (x,e.val):=by
 intro es m h
 refine ⟨fun hn=>fy.2 fun p hp e=>?_,fun j e he hx=>?_⟩
 ·have:(kV p.1,p.2)∈es.map (fun (e:MapEntry)=>(e.key,e.val)):=by rw [h]; exact List.mem_map.2 ⟨p,hp,rfl⟩
  obtain ⟨z,hz,hze⟩:=List.mem_map.1 this
  simp only [Prod.mk.injEq] at hze
  exact hn z hz (by rw [hze.1,e])
 ·have h1:(es.map (fun (e:MapEntry)=>(e.key,e.val)))[j]? =some (e.key,e.val):=by rw [List.getElem?_map,he]; rfl
  rw [h,List.getElem?_map] at h1
  cases hm:m[j]? with
  |none=>simp [hm] at h1
  |some p=>
   simp only [hm,Option.map_some,Option.some.injEq,Prod.mk.injEq] at h1
   have:=hk.inj _ _ (h1.1.trans hx)
   obtain ⟨k,v⟩:=p
   simp only at this h1
   rw [this,h1.2]
theorem m_ {P:Program} {w:World} {kt:Nat} {x:K} {es:Array MapEntry} {c:Nat} {m:List (K×Value)} (hk:qX P kt kV) (h:fU kV es c m):
 ((Instr.findKey kt (kV x) es.toList).run P w= .ok none w∧m.lookup x=none)∨
 ∃ j v,(Instr.findKey kt (kV x) es.toList).run P w= .ok (some (j,v)) w∧m[j]? =some (x,v)∧m.lookup x=some v:=by
 obtain ⟨q1,q2⟩:=uZ hk x es.toList m h.list
 rcases hk.find x w es.toList (fun e he=>by
  have:(e.key,e.val)∈m.map (fun p=>(kV p.1,p.2)):=by rw [← h.list]; exact List.mem_map.2 ⟨e,he,rfl⟩
  obtain ⟨p,_,hp⟩:=List.mem_map.1 this
  simp only [Prod.mk.injEq] at hp
  exact ⟨p.1,hp.1.symm⟩) with ⟨h1,h2⟩|⟨j,e,h1,h2,h3⟩
 ·exact .inl ⟨h1,q1 h2⟩
 ·have:=q2 j e h2 h3
  exact .inr ⟨j,e.val,h1,this,(jt h.keys).1 (List.mem_of_getElem? this)⟩
theorem gY {P:Program} {w:World} {kt:Nat} {x:K} (hk:qX P kt kV) (e:Bool):(Instr.checkKey e 10000 kt (kV x)).run P w= .ok () w:=hk.check e x w
section
variable {E:eu} {ops:Array Oper} {Q:cZ} {rest:List Oper} {D:List Deferred} {L:List (Nat×Value)} {C:List aD}
variable {dst:Option Tmp} {d:Nat} {ty:TypeId} {ps:String} {af:Array Edge} {g:Option (Nat×Bool)}
theorem k3 {t:TypeId} (hg:iD ops L g=true) (hd:Nat.blt d E.n=true) (k: ∀ b,RJ E ops Q rest D ((d,.map (some b))::L) (jr kV b []::C)):RJ E ops Q (⟨some d,.makeMap t none,ty,ps,af,g⟩::rest) D L C:=by
 intro a w hfr hs
 have hd':d<E.n:=by rw [← Nat.blt_eq]; exact hd
 unfold nQ
 rw [if_pos (dg hfr hg)]
 refine fz (v:= .map (some w.heap.size)) (w':=w.alloc (.map #[] 0)) (by simp) ?_ ?_
 ·simp [execOp,Instr.makeMap,newObj,Sem.run]
 ·refine k _ _ _ (hfr.put hd' _) (hs.grow (cW.alloc no w _) (N:=[jr kV w.heap.size []]) ⟨fun A hA=>?_,fun A hA b hb=>?_,List.pairwise_singleton _ _⟩)
  ·simp at hA; subst hA; exact ⟨#[],0,heap_alloc_new w _,fU.nil⟩
  ·simp at hA; subst hA; exact Nat.le_of_eq (Eq.symm hb)
theorem fU.push {es:Array MapEntry} {c:Nat} {m:List (K×Value)} (h:fU kV es c m) {x:K} (hx:m.lookup x=none) (v:Value):fU kV (es.push {key:=kV x,val:=v,born:=c}) (c+1) (m++[(x,v)]):=by
 refine ⟨by simp [h.list],?_,?_,?_⟩
 ·rw [List.map_append,List.nodup_append]
  refine ⟨h.keys,by simp,fun a ha b hb=>?_⟩
  simp at hb; subst hb
  obtain ⟨p,hp,rfl⟩:=List.mem_map.1 ha
  exact fy.1 hx p hp
 ·intro e he
  simp only [Array.toList_push,List.mem_append,List.mem_singleton] at he
  rcases he with he|rfl
  ·exact Nat.lt_succ_of_lt (h.v9 e he)
  ·exact Nat.lt_succ_self _
 ·simp only [Array.toList_push,List.map_append,List.map_cons,List.map_nil]
  rw [List.nodup_append]
  refine ⟨h.born,by simp,fun a ha b hb=>?_⟩
  simp at hb; subst hb
  obtain ⟨p,hp,rfl⟩:=List.mem_map.1 ha
  exact Nat.ne_of_lt (h.v9 p hp)
theorem zZ {m:List (K×Value)} {j:Nat} {x:K} {v0 v:Value} (hn:(m.map (·.1)).Nodup) (hj:m[j]? =some (x,v0)):m.map (fun p=>if p.1=x then (x,v) else p)=m.set j (x,v):=by
 refine List.ext_getElem? fun i=>?_
 rw [List.getElem?_map,List.getElem?_set]
 by_cases e:j=i
 ·subst e
  have hl:=(List.getElem?_eq_some_iff.1 hj).1
  rw [hj]; simp [hl]
 ·rw [if_neg e]
  cases hi:m[i]? with
  |none=>rfl
  |some p=>
   simp only [Option.map_some]
   rw [if_neg]
   intro hp
   have h1:(m.map (·.1))[i]? =some x:=by rw [List.getElem?_map,hi]; simp [hp]
   have h2:(m.map (·.1))[j]? =some x:=by rw [List.getElem?_map,hj]; rfl
   have hil:=(List.getElem?_eq_some_iff.1 h1).1
   exact e (((List.getElem?_inj hil hn).1 (h1.trans h2.symm)).symm)
theorem fU.set {es:Array MapEntry} {c:Nat} {m:List (K×Value)} (h:fU kV es c m) {x:K} {j:Nat} {v0:Value} (hj:m[j]? =some (x,v0)) (hx:m.lookup x=some v0) (v:Value):
 fU kV (es.modify j fun e=>{e with key:=kV x,val:=v}) c (dz m x v):=by
 have e1:dz m x v=m.set j (x,v):=by unfold dz; rw [hx]; simpa using zZ h.keys hj
 have hl:=(List.getElem?_eq_some_iff.1 hj).1
 have hsz:=h.size
 have hje:j<es.size:=by omega
 have e2:(es.modify j fun e=>{e with key:=kV x,val:=v}).toList=es.toList.set j {(es[j]) with key:=kV x,val:=v}:=by
  refine List.ext_getElem? fun i=>?_
  rw [Array.getElem?_toList,Array.getElem?_modify,List.getElem?_set]
  by_cases e:j=i
  ·subst e; simp [hje]
  ·simp [e]
 have e3:(es.toList.set j {(es[j]) with key:=kV x,val:=v}).map (·.born)=es.toList.map (·.born):=by
  rw [List.map_set]
  refine List.ext_getElem? fun i=>?_
  rw [List.getElem?_set]
  by_cases e:j=i
  ·subst e; simp [hje]
  ·rw [if_neg e]
 refine ⟨?_,?_,?_,?_⟩
 ·rw [e2,e1,List.map_set,List.map_set,h.list]
 ·rw [e1,List.map_set]
  have:(m.map (·.1)).set j x=m.map (·.1):=by
   refine List.ext_getElem? fun i=>?_
   rw [List.getElem?_set]
   by_cases e:j=i
   ·subst e; simp [hl]; simpa using (congrArg Prod.fst ((List.getElem?_eq_some_iff.1 hj).2)).symm
   ·rw [if_neg e]
  simp only [this]
  exact h.keys
 ·intro e he
  rw [e2] at he
  have hb:e.born∈(es.toList.set j {(es[j]) with key:=kV x,val:=v}).map (·.born):=List.mem_map.2 ⟨e,he,rfl⟩
  rw [e3] at hb
  obtain ⟨e',he',hq⟩:=List.mem_map.1 hb
  rw [← hq]; exact h.v9 e' he'
 ·rw [e2,e3]; exact h.born
/-- m[x] = y -/
theorem g8 {t kt et:TypeId} {xm xk xv:Operand} {b:Nat} {x:K} {v:Value} {m m':List (K×Value)} {C':List aD} (i:Nat) (hg:iD ops L g=true) (hm:ev L xm=some (.map (some b))) (hk:ev L xk=some (kV x)) (hv:ev L xv=some v)
 (ht:E.P.underlying t=some (.map kt et)) (hkt:qX E.P kt kV) (hC:C[i]? =some (jr kV b m)) (hm':dz m x v=m') (hC':C.set i (jr kV b m')=C') (k:RJ E ops Q rest D L C'):
 RJ E ops Q (⟨none,.mapUpdate t xm xk xv,ty,ps,af,g⟩::rest) D L C:=by
 subst hm' hC'
 intro a w hfr hs
 unfold nQ
 rw [if_pos (dg hfr hg)]
 obtain ⟨es,c,he,hi⟩:=hs.holds _ (List.mem_of_getElem? hC)
 have hget:(getObj b).run E.P w= .ok (.map es c) w:=MapKept.run_getObj_map he
 rcases m_ (P:=E.P) (w:=w) (x:=x) hkt hi with ⟨h1,h2⟩|⟨j,v0,h1,h2,h3⟩
 ·refine ng (w':={w with heap:=w.heap.setIfInBounds b (.map (es.push {key:=kV x,val:=v,born:=c}) (c+1))}) (by simp) ?_ ?_
  ·simp [execOp,hfr.ev hm,hfr.ev hk,hfr.ev hv,Instr.mapUpdate,run_underlying ht,hget,gY hkt,h1,MapKept.run_setObj_map _ he]
  ·refine k _ _ ⟨hfr.defers,hfr.size,hfr.at_⟩ (hs.uG (b:=b) i hC rfl rfl (jS _) (fun _ h=>h) ⟨_,_,lg he,?_⟩)
   have:dz m x v=m++[(x,v)]:=by unfold dz; rw [h2]; rfl
   rw [this]; exact hi.push h2 v
 ·have hsz:=hi.size
  have hje:j<es.size:=by have:=(List.getElem?_eq_some_iff.1 h2).1; omega
  have hkey:(es[j]).key=kV x:=by
   have:=congrArg (fun l=>l[j]?) hi.list
   simp [hje,h2] at this
   exact this.1
  refine ng (w':={w with heap:=w.heap.setIfInBounds b (.map (es.modify j fun e=>{e with key:=kV x,val:=v}) c)}) (by simp) ?_ ?_
  ·simp [execOp,hfr.ev hm,hfr.ev hk,hfr.ev hv,Instr.mapUpdate,run_underlying ht,hget,gY hkt,h1,MapKept.run_setObj_map _ he,Instr.keyThatStays,hje,hkey,hkt.bits x]
  ·exact k _ _ ⟨hfr.defers,hfr.size,hfr.at_⟩ (hs.uG (b:=b) i hC rfl rfl (jS _) (fun _ h=>h) ⟨_,_,lg he,hi.set h2 h3 v⟩)
theorem fU.del {es:Array MapEntry} {c:Nat} {m:List (K×Value)} (h:fU kV es c m) {x:K} {j:Nat} {v0:Value} (hj:m[j]? =some (x,v0)):fU kV (es.eraseIdxIfInBounds j) c (cL m x):=by
 have hl:=(List.getElem?_eq_some_iff.1 hj).1
 have hsz:=h.size
 have hje:j<es.size:=by omega
 have e1:(es.eraseIdxIfInBounds j).toList=es.toList.eraseIdx j:=by simp [Array.eraseIdxIfInBounds,hje]
 have e2:cL m x=m.eraseIdx j:=by
  have hn:=h.keys
  clear h hsz hje e1
  induction m generalizing j with
  |nil=>simp at hj
  |cons p m ih=>
   obtain ⟨k,v⟩:=p
   simp only [List.map_cons,List.nodup_cons] at hn
   cases j with
   |zero=>
    simp at hj
    obtain ⟨rfl,rfl⟩:=hj
    simp only [cL,List.eraseIdx_zero,List.tail_cons]
    rw [List.filter_cons_of_neg (by simp)]
    refine List.filter_eq_self.2 fun p hp=>?_
    have:p.1≠k:=fun e=>hn.1 (List.mem_map.2 ⟨p,hp,e⟩)
    simpa using this
   |succ j=>
    simp only [List.getElem?_cons_succ] at hj
    have hne:k≠x:=fun e=>hn.1 (List.mem_map.2 ⟨_,List.mem_of_getElem? hj,e.symm⟩)
    simp only [cL,List.eraseIdx_cons_succ] at ih ⊢
    rw [List.filter_cons_of_pos (by simpa using hne),ih hj (by simpa using (List.getElem?_eq_some_iff.1 hj).1) hn.2]
 have sub:(es.eraseIdxIfInBounds j).toList.Sublist es.toList:=by rw [e1]; exact List.eraseIdx_sublist _ _
 refine ⟨?_,?_,fun e he=>h.v9 e (sub.subset he),h.born.sublist (sub.map _)⟩
 ·rw [e1,e2,ChangeMaps.map_eraseIdx,ChangeMaps.map_eraseIdx,h.list]
 ·rw [e2]; exact h.keys.sublist ((List.eraseIdx_sublist _ _).map _)
theorem vq {m:List (K×Value)} {x:K} (h:m.lookup x=none):cL m x=m:=List.filter_eq_self.2 fun p hp=>by simpa using fy.1 h p hp
/-- y, ok := m[x] -/
theorem yp {t kt et:TypeId} {xm xk:Operand} {b:Nat} {x:K} {z:Value} {m:List (K×Value)} (hg:iD ops L g=true) (hm:ev L xm=some (.map (some b))) (hk:ev L xk=some (kV x))
 (ht:E.P.underlying t=some (.map kt et)) (hkt:qX E.P kt kV) (hz:tV E.P et=some z) (hC:nj C (jr kV b m).holds):
 SD E ops ⟨dst,.lookup t xm xk true,ty,ps,af,g⟩ D L C (.tuple [(m.lookup x).getD z,.bool (m.lookup x).isSome].toArray):=
 dF hg (by simp) fun a w hfr hs=>by
  obtain ⟨es,c,he,hi⟩:=hs.has hC
  have hget:(getObj b).run E.P w= .ok (.map es c) w:=MapKept.run_getObj_map he
  rcases m_ (P:=E.P) (w:=w) (x:=x) hkt hi with ⟨h1,h2⟩|⟨j,v0,h1,h2,h3⟩
  ·simp [execOp,Instr.lookup,hfr.ev hm,hfr.ev hk,run_underlying ht,hget,gY hkt,h1,h2,BO hz]
  ·simp [execOp,Instr.lookup,hfr.ev hm,hfr.ev hk,run_underlying ht,hget,gY hkt,h1,h3]
theorem qW {β:Type} {t kt et:TypeId} {xm xk:Operand} {b:Nat} {x:K} {f:β→Value} {z:β} {l:List (K×β)} (hg:iD ops L g=true) (hm:ev L xm=some (.map (some b))) (hk:ev L xk=some (kV x))
 (ht:E.P.underlying t=some (.map kt et)) (hkt:qX E.P kt kV) (hz:tV E.P et=some (f z)) (hC:nj C (jr kV b (bu f l)).holds):
 SD E ops ⟨dst,.lookup t xm xk true,ty,ps,af,g⟩ D L C (.tuple [f ((l.lookup x).getD z),.bool (l.lookup x).isSome].toArray):=by
 have:=yp (dst:=dst) (ty:=ty) (ps:=ps) (af:=af) (D:=D) hg hm hk ht hkt hz hC
 rw [lS] at this
 have e1:((l.lookup x).map f).getD (f z)=f ((l.lookup x).getD z):=by cases l.lookup x<;>rfl
 rw [e1,Option.isSome_map] at this
 exact this
end
theorem iH {β:Type} {x:K} {y:β} {l:List (K×β)} (h:(x,y)∈l):(cL l x).length<l.length:=by
 unfold cL
 exact List.length_filter_lt_length_iff_exists.2 ⟨_,h,by simp⟩
theorem rQ {β:Type} {x:K} {p:K×β} {l:List (K×β)}:p∈cL l x↔p∈l∧p.1≠x:=by simp [cL]
/-- an iterator over a map: what is left; what came last -/
def pM (kV:K→Value) (r b:Nat) (m left:List (K×Value)) (cur:Option (K×Value)):aD where
 dL k:=k=r∨k=b
 wf k:=k=r∨k=b
 holds w:=r≠b∧ ∃ (es:Array MapEntry) (c since:Nat) (seen:Array Nat) (st:Nat),w.heap[b]? =some (.map es c)∧fU kV es c m∧w.heap[r]? =some (.mapIter (some b) since seen st)∧(∀ e∈es.toList,e.born<since)∧since≤st∧since≤c∧
  (leftOf es seen).toList.map (fun (e:MapEntry)=>(e.key,e.val))=left.map (fun p=>(kV p.1,p.2))∧
  ∀ p,cur=some p→ ∃ (e:MapEntry) (seen0:Array Nat),e∈es.toList∧seen=seen0.push e.born∧st=c∧e.key=kV p.1∧e.val=p.2
 wr:=true
 ig _ h:=h
 whole _ _ h:=h
 lt w h k hk:=by
  obtain ⟨_,es,c,since,seen,st,h1,_,h2,_⟩:=h
  rcases hk with rfl|rfl
  ·exact da h2
  ·exact da h1
 jd w w' hk h:=by
  obtain ⟨hne,es,c,since,seen,st,h1,h2,h3,h4⟩:=h
  exact ⟨hne,es,c,since,seen,st,(hk b (.inr rfl)).trans h1,h2,(hk r (.inl rfl)).trans h3,h4⟩
theorem q6 {r b:Nat} {m left:List (K×Value)} {cur:Option (K×Value)}:(∀ w,(pM kV r b m left cur).holds w→(pM kV r b m left none).holds w)∧(∀ k,(pM kV r b m left none).dL k→(pM kV r b m left cur).dL k)∧ ∀ k,(pM kV r b m left none).wf k→(pM kV r b m left cur).wf k:=
 ⟨fun w h=>by
  obtain ⟨hne,es,c,since,seen,st,h1,h2,h3,h4,h5,h5',h6,_⟩:=h
  exact ⟨hne,es,c,since,seen,st,h1,h2,h3,h4,h5,h5',h6,fun p hp=>by cases hp⟩,fun _ h=>h,fun _ h=>h⟩
theorem xV {r b:Nat} {m left:List (K×Value)} {cur:Option (K×Value)}:(∀ w,(pM kV r b m left cur).holds w→(jr kV b m).holds w)∧(∀ k,(jr kV b m).dL k→(pM kV r b m left cur).dL k)∧ ∀ k,(jr kV b m).wf k→(pM kV r b m left cur).wf k:=
 ⟨fun w h=>by
  obtain ⟨hne,es,c,since,seen,st,h1,h2,_⟩:=h
  exact ⟨es,c,h1,h2⟩,fun _ h=> .inr h,fun _ h=> .inr h⟩
theorem um {es:Array MapEntry} {c:Nat} {m:List (K×Value)} (hinj: ∀ x y,kV x=kV y→x=y) (hi:fU kV es c m) {x y:MapEntry} (hx:x∈es.toList) (hy:y∈es.toList) (e:x.key=y.key):x=y:=by
 have hk:(es.toList.map (·.key))=(m.map (·.1)).map kV:=by
  have:=congrArg (List.map Prod.fst) hi.list
  simpa [Function.comp_def] using this
 have h:(es.toList.map (·.key)).Nodup:=by
  rw [hk,List.nodup_iff_pairwise_ne,List.pairwise_map]
  exact hi.keys.imp (fun hne he=>hne (hinj _ _ he))
 obtain ⟨i,hii⟩:=List.getElem?_of_mem hx
 obtain ⟨j,hj⟩:=List.getElem?_of_mem hy
 have h1:(es.toList.map (·.key))[i]? =some x.key:=by rw [List.getElem?_map,hii]; rfl
 have h2:(es.toList.map (·.key))[j]? =some x.key:=by rw [List.getElem?_map,hj,e]; rfl
 have h3:=(List.getElem?_inj (List.getElem?_eq_some_iff.1 h1).1 h).1 (h1.trans h2.symm)
 subst h3
 exact Option.some.inj (hii.symm.trans hj)
section
variable {E:eu} {ops:Array Oper} {Q:cZ} {rest:List Oper} {D:List Deferred} {L:List (Nat×Value)} {C:List aD}
variable {dst:Option Tmp} {d:Nat} {ty:TypeId} {ps:String} {af:Array Edge} {g:Option (Nat×Bool)}
theorem o1 {t kt et:TypeId} {xm:Operand} {b:Nat} {m:List (K×Value)} (i:Nat) (hg:iD ops L g=true) (hm:ev L xm=some (.map (some b))) (ht:E.P.underlying t=some (.map kt et)) (hC:C[i]? =some (jr kV b m)) (hd:Nat.blt d E.n=true)
 (k: ∀ r,RJ E ops Q rest D ((d,.pointer (some ⟨r,0,none⟩))::L) (C.set i (pM kV r b m m none))):RJ E ops Q (⟨some d,.range t xm,ty,ps,af,g⟩::rest) D L C:=by
 intro a w hfr hs
 have hd':d<E.n:=by rw [← Nat.blt_eq]; exact hd
 unfold nQ
 rw [if_pos (dg hfr hg)]
 obtain ⟨es,c,he,hi⟩:=hs.holds _ (List.mem_of_getElem? hC)
 have hbl:b<w.heap.size:=da he
 have hget:(getObj b).run E.P w= .ok (.map es c) w:=MapKept.run_getObj_map he
 refine fz (v:= .pointer (some ⟨w.heap.size,0,none⟩)) (w':=w.alloc (.mapIter (some b) c #[] c)) (by simp) ?_ ?_
 ·simp [execOp,Instr.range,hfr.ev hm,run_underlying ht,hget,newObj,Sem.run]
 ·refine k _ _ _ (hfr.put hd' _) (hs.mv i hC ⟨⟨by omega,es,c,c,#[],c,?_,hi,heap_alloc_new w _,hi.v9,Nat.le_refl _,Nat.le_refl _,?_,fun p hp=>by cases hp⟩,cW.alloc _ w _,fun q hq=>?_,fun q hq=>?_⟩)
  ·rw [Below.heap_alloc w _ b hbl]; exact he
  ·have:leftOf es #[]=es:=by unfold leftOf; exact Array.filter_eq_self.2 (by simp)
   rw [this]; exact hi.list
  ·rcases hq with rfl|rfl
   ·exact .inr (Nat.le_refl _)
   ·exact .inl rfl
  ·rcases hq with rfl|rfl
   ·exact .inr (Nat.le_refl _)
   ·exact .inl rfl
theorem qm {es:Array MapEntry} {c:Nat} {m left:List (K×Value)} {seen:Array Nat} (hinj: ∀ x y,kV x=kV y→x=y) (hi:fU kV es c m) (h:(leftOf es seen).toList.map (fun (e:MapEntry)=>(e.key,e.val))=left.map (fun p=>(kV p.1,p.2))):(left.map (·.1)).Nodup:=by
 have h1:((leftOf es seen).toList.map (·.key)).Sublist (es.toList.map (·.key)):=by
  unfold leftOf; rw [Array.toList_filter]; exact List.filter_sublist.map _
 have h2:(es.toList.map (·.key))=(m.map (·.1)).map kV:=by
  have:=congrArg (List.map Prod.fst) hi.list
  simpa [Function.comp_def] using this
 have h3:((leftOf es seen).toList.map (·.key))=(left.map (·.1)).map kV:=by
  have:=congrArg (List.map Prod.fst) h
  simpa [Function.comp_def] using this
 rw [h2,h3] at h1
 have h4:((m.map (·.1)).map kV).Nodup:=by
  rw [List.nodup_iff_pairwise_ne,List.pairwise_map]
  exact hi.keys.imp (fun hne he=>hne (hinj _ _ he))
 have h5:=h4.sublist h1
 rw [List.nodup_iff_pairwise_ne,List.pairwise_map] at h5
 rw [List.nodup_iff_pairwise_ne]
 exact h5.imp (fun hne he=>hne (by rw [he]))
theorem yD (hinj: ∀ x y,kV x=kV y→x=y) {xi:Operand} {r b:Nat} {m left:List (K×Value)} {cur:Option (K×Value)} (i:Nat) (hg:iD ops L g=true) (hm:ev L xi=some (.pointer (some ⟨r,0,none⟩))) (hC:C[i]? =some (pM kV r b m left cur)) (hd:Nat.blt d E.n=true)
 (k0:left=[]→RJ E ops Q rest D ((d,.tuple [.bool false].toArray)::L) C)
 (k1: ∀ x v,(x,v)∈left→(left.map (·.1)).Nodup→RJ E ops Q rest D ((d,.tuple [.bool true,kV x,v].toArray)::L) (C.set i (pM kV r b m (cL left x) (some (x,v))))):
 RJ E ops Q (⟨some d,.next xi false,ty,ps,af,g⟩::rest) D L C:=by
 intro a w hfr hs
 have hd':d<E.n:=by rw [← Nat.blt_eq]; exact hd
 unfold nQ
 rw [if_pos (dg hfr hg)]
 obtain ⟨hne,es,c,since,seen,st,h1,hi,h3,hold,hsc,hsc2,hleft,_⟩:=hs.holds _ (List.mem_of_getElem? hC)
 rcases run_next_at (P:=E.P) w ty r b since st seen es c h3 h1 hold hsc with ⟨h0,hr⟩|⟨e,he,w1,hw1,hr⟩
 ·refine fz (v:= .tuple #[.bool false]) (w':=w) (by simp) ?_ ?_
  ·simp [execOp,hfr.ev hm,hr]
  ·refine k0 ?_ _ _ (hfr.put hd' _) hs
   have:(leftOf es seen).toList=[]:=by rw [← List.length_eq_zero_iff,Array.length_toList]; exact h0
   rw [this] at hleft
   exact List.map_eq_nil_iff.1 hleft.symm
 ·have hmem:(e.key,e.val)∈left.map (fun p=>(kV p.1,p.2)):=by rw [← hleft]; exact List.mem_map.2 ⟨e,he,rfl⟩
  obtain ⟨p,hp,hpe⟩:=List.mem_map.1 hmem
  obtain ⟨x,v⟩:=p
  simp only [Prod.mk.injEq] at hpe
  obtain ⟨hk,hv⟩:=hpe
  refine fz (v:= .tuple #[.bool true,e.key,e.val]) (w':=ChangeMaps.setBlock w1 r (.mapIter (some b) since (seen.push e.born) c)) (by simp) ?_ ?_
  ·simp [execOp,hfr.ev hm,hr]
  ·rw [← hk,← hv]
   have hnd:=qm hinj hi hleft
   have hees:e∈es.toList:=by unfold leftOf at he; rw [Array.toList_filter] at he; exact (List.mem_filter.1 he).1
   have hcs:c=c:=rfl
   have hheap:w1.heap=w.heap:=by rcases hw1 with rfl|rfl<;>rfl
   refine k1 x v hp hnd _ _ (hfr.put hd' _) (hs.mv i hC ⟨⟨hne,es,c,since,seen.push e.born,c,?_,hi,?_,hold,hsc2,hsc2,?_,fun q hq=>?_⟩,?_,fun q hq=> .inl hq,fun q hq=> .inl hq⟩)
   ·show (w1.heap.setIfInBounds r _)[b]? =_
    rw [Array.getElem?_setIfInBounds_ne hne,hheap]; exact h1
   ·show (w1.heap.setIfInBounds r _)[r]? =_
    rw [Array.getElem?_setIfInBounds_self_of_lt (by rw [hheap]; exact da h3)]
   ·have hdk:leftOf es (seen.push e.born)=(leftOf es seen).filter (fun z=> !(z.born==e.born)):=by
     unfold leftOf
     rw [Array.filter_filter]
     congr 1
     funext z
     simp only [Array.contains_push,Bool.not_or]
     rw [Bool.and_comm]
    rw [hdk,Array.toList_filter]
    have key: ∀ (l:List MapEntry) (ll:List (K×Value)),(∀ z∈l,z∈es.toList)→l.map (fun (e:MapEntry)=>(e.key,e.val))=ll.map (fun p=>(kV p.1,p.2))→
     (l.filter (fun z=> !(z.born==e.born))).map (fun (e:MapEntry)=>(e.key,e.val))=(cL ll x).map (fun p=>(kV p.1,p.2)):=by
     intro l
     induction l with
     |nil=>intro ll _ h; cases ll with
      |nil=>rfl
      |cons p ll=>simp at h
     |cons z l ih=>
      intro ll hz h
      cases ll with
      |nil=>simp at h
      |cons p ll=>
       simp only [List.map_cons,List.cons.injEq,Prod.mk.injEq] at h
       have ih':=ih ll (fun y hy=>hz y (by simp [hy])) h.2
       have hiff:(z.born=e.born)↔(p.1=x):=by
        constructor
        ·intro hb
         have:z=e:=uE hi.born (hz z (by simp)) hees hb
         rw [this] at h
         have:=h.1.1.symm.trans hk.symm
         exact hinj _ _ this
        ·intro hx
         have hze:z.key=e.key:=by rw [h.1.1,hx,hk]
         rw [um hinj hi (hz z (by simp)) hees hze]
       unfold cL at ih' ⊢
       by_cases hx:p.1=x
       ·rw [List.filter_cons_of_neg (by simp [hiff.2 hx]),List.filter_cons_of_neg (by simp [hx])]; exact ih'
       ·rw [List.filter_cons_of_pos (by simpa using fun hb=>hx (hiff.1 hb)),List.filter_cons_of_pos (by simpa using hx)]
        simp only [List.map_cons,h.1.1,h.1.2,ih']
    exact key _ _ (fun z hz=>by unfold leftOf at hz; rw [Array.toList_filter] at hz; exact (List.mem_filter.1 hz).1) hleft
   ·cases hq
    exact ⟨e,seen,hees,rfl,rfl,hk.symm,hv.symm⟩
   ·refine ⟨?_,?_,?_,?_,fun q hq hn=>?_⟩
    ·rcases hw1 with rfl|rfl<;>rfl
    ·rcases hw1 with rfl|rfl<;>rfl
    ·rcases hw1 with rfl|rfl<;>rfl
    ·show w.heap.size≤(w1.heap.setIfInBounds r _).size
     simp [hheap]
    ·show (w1.heap.setIfInBounds r _)[q]? =_
     rw [Array.getElem?_setIfInBounds_ne (fun e=>hn (.inl e.symm)),hheap]
theorem nF {xi:Operand} {r b:Nat} {m left:List (K×Value)} {x:K} {v:Value} (i:Nat) (hg:iD ops L g=true) (hm:ev L xi=some (.pointer (some ⟨r,0,none⟩))) (hC:C[i]? =some (pM kV r b m left (some (x,v)))):
 SD E ops ⟨dst,.entry xi,ty,ps,af,g⟩ D L C (.tuple [kV x,v].toArray):=
 dF hg (by simp) fun a w hfr hs=>by
  obtain ⟨hne,es,c,since,seen,st,h1,hi,h3,hold,hsc,hsc2,hleft,hcur⟩:=hs.holds _ (List.mem_of_getElem? hC)
  obtain ⟨e,seen0,he,rfl,rfl,hk,hv⟩:=hcur _ rfl
  have:=run_entry_at (P:=E.P) w r b since seen0 es st e h3 h1 he hi.born
  simp [execOp,hfr.ev hm,this,hk,hv]
theorem nE (hinj: ∀ x y,kV x=kV y→x=y) {β:Type} {f:β→Value} {xi:Operand} {r b:Nat} {m:List (K×Value)} {ll:List (K×β)} {cur:Option (K×Value)} (i:Nat) (hg:iD ops L g=true) (hm:ev L xi=some (.pointer (some ⟨r,0,none⟩))) (hC:C[i]? =some (pM kV r b m (bu f ll) cur)) (hd:Nat.blt d E.n=true)
 (k0:ll=[]→RJ E ops Q rest D ((d,.tuple [.bool false].toArray)::L) C)
 (k1: ∀ x y,(x,y)∈ll→(ll.map (·.1)).Nodup→RJ E ops Q rest D ((d,.tuple [.bool true,kV x,f y].toArray)::L) (C.set i (pM kV r b m (bu f (cL ll x)) (some (x,f y))))):
 RJ E ops Q (⟨some d,.next xi false,ty,ps,af,g⟩::rest) D L C:=by
 refine yD hinj i hg hm hC hd (fun h=>k0 (List.map_eq_nil_iff.1 h)) (fun x v hxv hn=>?_)
 obtain ⟨p,hp,hpe⟩:=List.mem_map.1 hxv
 simp only [Prod.mk.injEq] at hpe
 obtain ⟨rfl,rfl⟩:=hpe
 have:=k1 p.1 p.2 hp (by simpa [bu,Function.comp_def] using hn)
 rwa [nB] at this
end
end
end
section
set_option linter.unusedVariables false
structure bg where
 Start:Int
 dw:Int
 np:List Int
 pG:List (List (Int×ab))
 aO:Int
 aZ:Int
 Cd:Int
def bg.n (w:bg):Nat:=w.np.length
def dI (s:Int):aq:=if s<0 then ⟨0,1⟩ else ⟨1,0⟩
def dc (a b:aq):aq:=⟨a.right+b.right,a.dn+b.dn⟩
def og (w:bg) (b:Nat):List (Int×ab):=(w.pG[b]?).getD []
def fK (w:bg) (b:Nat):List (Int×ab):=(-1,⟨w.Start,w.dw⟩)::og w b
def bU (w:bg) (b:Nat):Int:=(w.np[b]?).getD 0
def iE (w:bg) (b:Nat) (p:aq×Int) (o:Int×ab):Option (aq×Int):=if max (p.2+bU w b) o.2.Lo≤min o.2.Hi w.dw then some (dc p.1 (dI o.1),max (p.2+bU w b) o.2.Lo) else none
def fwd (w:bg):Nat→List (aq×Int)
 |0=>[(⟨0,0⟩,w.Start)]
 |b+1=>(fwd w b).flatMap fun p=>(fK w b).filterMap (iE w b p)
def kh (w:bg) (b:Nat) (p:aq×Int) (o:Int×ab):Option (aq×Int):=if o.2.Lo≤min p.2 o.2.Hi then some (dc p.1 (dI o.1),min p.2 o.2.Hi-bU w b) else none
def bwd (w:bg):Nat→List (aq×Int)
 |0=>[(⟨0,0⟩,w.dw)]
 |k+1=>(⟨0,0⟩,w.dw)::(bwd w k).flatMap fun p=>(fK w (w.n-(k+1))).filterMap (kh w (w.n-(k+1)) p)
def back (w:bg) (b:Nat):List (aq×Int):=bwd w (w.n-b)
def kj (w:bg) (t:aq):Bool:=decide (t.dn≤w.aO∧w.Cd-t.right≤w.aZ)
theorem ep {w:bg} {b:Nat} {q:aq×Int}:q∈fwd w (b+1)↔ ∃ p∈fwd w b,∃ o∈fK w b,iE w b p o=some q:=by
 simp only [fwd,List.mem_flatMap,List.mem_filterMap]
theorem pd {w:bg} {b:Nat} (h:w.n≤b):back w b=[(⟨0,0⟩,w.dw)]:=by
 unfold back; rw [Nat.sub_eq_zero_of_le h]; rfl
theorem lf {w:bg} {b:Nat} (h:b<w.n) {q:aq×Int}:q∈back w b↔q=(⟨0,0⟩,w.dw)∨ ∃ p∈back w (b+1),∃ o∈fK w b,kh w b p o=some q:=by
 unfold back
 have e:w.n-b=(w.n-(b+1))+1:=by omega
 rw [e]
 simp only [bwd,List.mem_cons,List.mem_flatMap,List.mem_filterMap]
 rw [show w.n-(w.n-(b+1)+1)=b by omega]
def nq (m c:List (aq×Int)):Prop:=(∀ t v,m.lookup t=some v→(t,v)∈c)∧ ∀ t y,(t,y)∈c→ ∃ v,m.lookup t=some v∧v≤y
def oj (m c:List (aq×Int)):Prop:=(∀ t v,m.lookup t=some v→(t,v)∈c)∧ ∀ t y,(t,y)∈c→ ∃ v,m.lookup t=some v∧y≤v
def pD (m c:List (aq×Int)):Prop:= ∀ t v,m.lookup t=some v→(t,v)∈c
theorem jJ {K β:Type} [DecidableEq K] {m:List (K×β)} {x t:K} {y:β}:(dz m x y).lookup t=if t=x then some y else m.lookup t:=by
 unfold dz
 by_cases hx:(m.lookup x).isSome
 ·rw [if_pos hx]
  have key: ∀ l:List (K×β),(l.lookup x).isSome∨True→(l.map (fun p=>if p.1=x then (x,y) else p)).lookup t=if t=x then (if (l.lookup x).isSome then some y else none) else l.lookup t:=by
   intro l _
   induction l with
   |nil=>simp
   |cons p l ih=>
    obtain ⟨k,v⟩:=p
    have ih:=ih (.inr trivial)
    by_cases hk:k=x
    ·subst hk
     by_cases ht:t=k
     ·subst ht; simp [List.lookup]
     ·have:(t==k)=false:=by simpa using ht
      simp only [List.map_cons,if_true,List.lookup,this,ih,if_neg ht]
    ·have hk':(x==k)=false:=by simpa using fun e=>hk e.symm
     by_cases ht:t=k
     ·subst ht; simp [List.lookup,hk]
     ·have h2:(t==k)=false:=by simpa using ht
      simp only [List.map_cons,if_neg hk,List.lookup,h2,ih,hk']
  rw [key m (.inr trivial)]
  by_cases ht:t=x
  ·subst ht
   rw [if_pos rfl,if_pos rfl,if_pos hx]
  ·rw [if_neg ht,if_neg ht]
 ·rw [if_neg hx]
  have hn:m.lookup x=none:=by cases h0:m.lookup x with
   |none=>rfl
   |some v=>exact absurd (by rw [h0]; rfl) hx
  by_cases ht:t=x
  ·subst ht
   rw [if_pos rfl]
   have:=fy.1 hn
   clear hn hx
   induction m with
   |nil=>simp
   |cons p m ih=>
    obtain ⟨k,v⟩:=p
    have hk:(t==k)=false:=by simpa using fun e=>this (k,v) (by simp) e.symm
    simp only [List.cons_append,List.lookup,hk]
    exact ih (fun q hq=>this q (List.mem_cons_of_mem _ hq))
  ·rw [if_neg ht]
   clear hn hx
   induction m with
   |nil=>
    have:(t==x)=false:=by simpa using ht
    simp [List.lookup,this]
   |cons p m ih=>
    obtain ⟨k,v⟩:=p
    by_cases hk:t=k
    ·subst hk; simp [List.lookup]
    ·have:(t==k)=false:=by simpa using hk
     simp only [List.cons_append,List.lookup,this]
     exact ih
/-- what a map is after a try -/
def lh (m:List (aq×Int)) (q:aq×Int):List (aq×Int):=match m.lookup q.1 with
 |none=>dz m q.1 q.2
 |some v=>if q.2<v then dz m q.1 q.2 else m
def kW (m:List (aq×Int)) (q:aq×Int):List (aq×Int):=match m.lookup q.1 with
 |none=>dz m q.1 q.2
 |some v=>if v<q.2 then dz m q.1 q.2 else m
theorem qu {m:List (aq×Int)} {q:aq×Int} {t:aq}:(lh m q).lookup t=if t=q.1 then some (match m.lookup q.1 with |none=>q.2|some v=>min q.2 v) else m.lookup t:=by
 unfold lh
 cases h:m.lookup q.1 with
 |none=>simp only; rw [jJ]
 |some v=>
  simp only
  split
  ·rename_i hlt
   rw [jJ,Int.min_eq_left (by omega)]
  ·rename_i hlt
   split
   ·rename_i e; subst e; rw [h,Int.min_eq_right (by omega)]
   ·rfl
theorem qZ {m:List (aq×Int)} {q:aq×Int} {t:aq}:(kW m q).lookup t=if t=q.1 then some (match m.lookup q.1 with |none=>q.2|some v=>max q.2 v) else m.lookup t:=by
 unfold kW
 cases h:m.lookup q.1 with
 |none=>simp only; rw [jJ]
 |some v=>
  simp only
  split
  ·rename_i hlt
   rw [jJ,Int.max_eq_left (by omega)]
  ·rename_i hlt
   split
   ·rename_i e; subst e; rw [h,Int.max_eq_right (by omega)]
   ·rfl
def qT (m m':List (aq×Int)):Prop:= ∀ t v,m.lookup t=some v→ ∃ v',m'.lookup t=some v'∧v'≤v
def qy (m m':List (aq×Int)):Prop:= ∀ t v,m.lookup t=some v→ ∃ v',m'.lookup t=some v'∧v≤v'
theorem qT.refl (m:List (aq×Int)):qT m m:=fun t v h=>⟨v,h,by omega⟩
theorem qy.refl (m:List (aq×Int)):qy m m:=fun t v h=>⟨v,h,by omega⟩
theorem pz {m:List (aq×Int)} {q:aq×Int}:qT m (lh m q):=fun t v h=>by
 rw [qu]
 split
 ·rename_i e; subst e; rw [h]; exact ⟨_,rfl,by simp only; omega⟩
 ·exact ⟨v,h,by omega⟩
theorem mc {m:List (aq×Int)} {q:aq×Int}:qy m (kW m q):=fun t v h=>by
 rw [qZ]
 split
 ·rename_i e; subst e; rw [h]; exact ⟨_,rfl,by simp only; omega⟩
 ·exact ⟨v,h,by omega⟩
theorem wF {m c:List (aq×Int)} {q:aq×Int} (h:pD m c) (hq:q∈c):pD (lh m q) c:=fun t v hv=>by
 rw [qu] at hv
 split at hv
 ·rename_i e
  subst e
  cases hm:m.lookup q.1 with
  |none=>simp only [hm,Option.some.injEq] at hv; subst hv; exact hq
  |some x=>
   simp only [hm,Option.some.injEq] at hv; subst hv
   rcases Int.lt_or_le q.2 x with q1|q1
   ·rw [Int.min_eq_left (by omega)]; exact hq
   ·rw [Int.min_eq_right (by omega)]; exact h _ _ hm
 ·exact h t v hv
theorem wa {m c:List (aq×Int)} {q:aq×Int} (h:pD m c) (hq:q∈c):pD (kW m q) c:=fun t v hv=>by
 rw [qZ] at hv
 split at hv
 ·rename_i e
  subst e
  cases hm:m.lookup q.1 with
  |none=>simp only [hm,Option.some.injEq] at hv; subst hv; exact hq
  |some x=>
   simp only [hm,Option.some.injEq] at hv; subst hv
   rcases Int.lt_or_le q.2 x with q1|q1
   ·rw [Int.max_eq_right (by omega)]; exact h _ _ hm
   ·rw [Int.max_eq_left (by omega)]; exact hq
 ·exact h t v hv
theorem wL {m:List (aq×Int)} {q:aq×Int}: ∃ v,(lh m q).lookup q.1=some v∧v≤q.2:=by
 rw [qu,if_pos rfl]
 refine ⟨_,rfl,?_⟩
 cases m.lookup q.1<;>simp only <;>omega
theorem wQ {m:List (aq×Int)} {q:aq×Int}: ∃ v,(kW m q).lookup q.1=some v∧q.2≤v:=by
 rw [qZ,if_pos rfl]
 refine ⟨_,rfl,?_⟩
 cases m.lookup q.1<;>simp only <;>omega
/-- all that comes of one entry, by some options, is held -/
def fX (w:bg) (b:Nat) (m:List (aq×Int)) (p:aq×Int) (os:List (Int×ab)):Prop:= ∀ o∈os,∀ q,iE w b p o=some q→ ∃ v,m.lookup q.1=some v∧v≤q.2
def fW (w:bg) (b:Nat) (m:List (aq×Int)) (p:aq×Int) (os:List (Int×ab)):Prop:= ∀ o∈os,∀ q,kh w b p o=some q→ ∃ v,m.lookup q.1=some v∧q.2≤v
theorem fX.lower {w:bg} {b:Nat} {m m':List (aq×Int)} {p:aq×Int} {os:List (Int×ab)} (h:fX w b m p os) (hl:qT m m'):fX w b m' p os:=fun o ho q hq=>by
 obtain ⟨v,h1,h2⟩:=h o ho q hq
 obtain ⟨v',h3,h4⟩:=hl _ _ h1
 exact ⟨v',h3,by omega⟩
theorem fW.upper {w:bg} {b:Nat} {m m':List (aq×Int)} {p:aq×Int} {os:List (Int×ab)} (h:fW w b m p os) (hl:qy m m'):fW w b m' p os:=fun o ho q hq=>by
 obtain ⟨v,h1,h2⟩:=h o ho q hq
 obtain ⟨v',h3,h4⟩:=hl _ _ h1
 exact ⟨v',h3,by omega⟩
theorem fX.sub {w:bg} {b:Nat} {m:List (aq×Int)} {p:aq×Int} {os os':List (Int×ab)} (h:fX w b m p os) (hs: ∀ o∈os',o∈os):fX w b m p os':=fun o ho=>h o (hs o ho)
theorem fW.sub {w:bg} {b:Nat} {m:List (aq×Int)} {p:aq×Int} {os os':List (Int×ab)} (h:fW w b m p os) (hs: ∀ o∈os',o∈os):fW w b m p os':=fun o ho=>h o (hs o ho)
theorem fX.add {w:bg} {b:Nat} {m m':List (aq×Int)} {p:aq×Int} {os:List (Int×ab)} {o:Int×ab} (h:fX w b m p os) (hl:qT m m') (hn: ∀ q,iE w b p o=some q→ ∃ v,m'.lookup q.1=some v∧v≤q.2):fX w b m' p (os++[o]):=fun o' ho q hq=>by
 rcases List.mem_append.1 ho with ho|ho
 ·exact h.lower hl o' ho q hq
 ·simp only [List.mem_singleton] at ho; subst ho; exact hn q hq
theorem fW.add {w:bg} {b:Nat} {m m':List (aq×Int)} {p:aq×Int} {os:List (Int×ab)} {o:Int×ab} (h:fW w b m p os) (hl:qy m m') (hn: ∀ q,kh w b p o=some q→ ∃ v,m'.lookup q.1=some v∧q.2≤v):fW w b m' p (os++[o]):=fun o' ho q hq=>by
 rcases List.mem_append.1 ho with ho|ho
 ·exact h.upper hl o' ho q hq
 ·simp only [List.mem_singleton] at ho; subst ho; exact hn q hq
theorem dE {m:List (aq×Int)} (hn:(m.map (·.1)).Nodup) {t:aq} {v:Int}:(t,v)∈m↔m.lookup t=some v:=jt hn
theorem kM {z t:aq} {x v:Int}:List.lookup t [(z,x)]=some v↔t=z∧v=x:=by
 by_cases e:t=z
 ·subst e; simp [List.lookup,eq_comm]
 ·have:(t==z)=false:=by simpa using e
  simp [List.lookup,this,e]
theorem xh {w:bg}:nq [(⟨0,0⟩,w.Start)] (fwd w 0):=by
 refine ⟨fun t v h=>?_,fun t y h=>?_⟩
 ·obtain ⟨rfl,rfl⟩:=kM.1 h
  simp [fwd]
 ·simp only [fwd,List.mem_singleton,Prod.mk.injEq] at h
  obtain ⟨rfl,rfl⟩:=h
  exact ⟨w.Start,kM.2 ⟨rfl,rfl⟩,Int.le_refl _⟩
theorem yx {w:bg} {b:Nat} {mb m:List (aq×Int)} (hn:(mb.map (·.1)).Nodup) (h:nq mb (fwd w b)) (hs:pD m (fwd w (b+1))) (hd: ∀ p∈mb,fX w b m p (fK w b)):nq m (fwd w (b+1)):=⟨hs,fun t y hy=>by
 obtain ⟨p,hp,o,ho,e⟩:=ep.1 hy
 obtain ⟨v,h1,h2⟩:=h.2 p.1 p.2 hp
 unfold iE at e
 split at e
 ·rename_i hle
  simp only [Option.some.injEq,Prod.mk.injEq] at e
  obtain ⟨v',h3,h4⟩:=hd (p.1,v) ((dE hn).2 h1) o ho (dc p.1 (dI o.1),max (v+bU w b) o.2.Lo) (by unfold iE; rw [if_pos (by simp only; omega)])
  simp only at h3 h4
  rw [e.1] at h3
  exact ⟨v',h3,by omega⟩
 ·cases e⟩
theorem yI {w:bg} {b:Nat} (hb:w.n≤b):oj [(⟨0,0⟩,w.dw)] (back w b):=by
 rw [pd hb]
 refine ⟨fun t v h=>?_,fun t y h=>?_⟩
 ·obtain ⟨rfl,rfl⟩:=kM.1 h
  simp
 ·simp only [List.mem_singleton,Prod.mk.injEq] at h
  obtain ⟨rfl,rfl⟩:=h
  exact ⟨w.dw,kM.2 ⟨rfl,rfl⟩,Int.le_refl _⟩
theorem yb {w:bg} {b:Nat} (hb:b<w.n) {mb m:List (aq×Int)} (hn:(mb.map (·.1)).Nodup) (h:oj mb (back w (b+1))) (hs:pD m (back w b)) (h0: ∃ v,m.lookup ⟨0,0⟩=some v∧w.dw≤v) (hd: ∀ p∈mb,fW w b m p (fK w b)):oj m (back w b):=⟨hs,fun t y hy=>by
 rcases (lf hb).1 hy with e|⟨p,hp,o,ho,e⟩
 ·simp only [Prod.mk.injEq] at e
  obtain ⟨rfl,rfl⟩:=e
  exact h0
 obtain ⟨v,h1,h2⟩:=h.2 p.1 p.2 hp
 unfold kh at e
 split at e
 ·rename_i hle
  simp only [Option.some.injEq,Prod.mk.injEq] at e
  obtain ⟨v',h3,h4⟩:=hd (p.1,v) ((dE hn).2 h1) o ho (dc p.1 (dI o.1),min v o.2.Hi-bU w b) (by unfold kh; rw [if_pos (by simp only; omega)])
  simp only at h3 h4
  rw [e.1] at h3
  exact ⟨v',h3,by omega⟩
 ·cases e⟩
end
section
set_option linter.unusedVariables false
def gQ (w:bg) (b:Nat) (p u:aq×Int) (o:Int×ab):ab:=⟨max (p.2+bU w b) o.2.Lo,min u.2 o.2.Hi⟩
def qp (p u:aq×Int) (o:Int×ab):aq:=dc (dc p.1 u.1) (dI o.1)
def jn (w:bg) (b:Nat) (p u:aq×Int) (o:Int×ab):Option (Int×ab):=if (gQ w b p u o).Lo≤(gQ w b p u o).Hi∧kj w (qp p u o)=true then some (o.1,gQ w b p u o) else none
def jE (w:bg) (b:Nat) (mf mb:List (aq×Int)):List (Int×ab):=(fK w b).flatMap fun o=>mf.flatMap fun p=>mb.filterMap fun u=>jn w b p u o
def dR (w:bg) (b:Nat):List (Int×ab):=jE w b (fwd w b) (back w (b+1))
theorem fo {w:bg} {b:Nat} {mf mb:List (aq×Int)} {q:Int×ab}:q∈jE w b mf mb↔ ∃ o∈fK w b,∃ p∈mf,∃ u∈mb,jn w b p u o=some q:=by
 simp only [jE,List.mem_flatMap,List.mem_filterMap]
theorem g3 {w:bg} {b:Nat} {p u:aq×Int} {o q:Int×ab}:jn w b p u o=some q↔(gQ w b p u o).Lo≤(gQ w b p u o).Hi∧kj w (qp p u o)=true∧q=(o.1,gQ w b p u o):=by
 unfold jn
 split
 ·rename_i h
  simp only [Option.some.injEq]
  exact ⟨fun e=>⟨h.1,h.2,e.symm⟩,fun e=>e.2.2.symm⟩
 ·rename_i h
  simp only [reduceCtorEq,false_iff]
  exact fun e=>h ⟨e.1,e.2.1⟩
theorem g9 {w:bg} {b:Nat} {mf mb:List (aq×Int)} {q:Int×ab} (h:q∈jE w b mf mb):q.2.Lo≤q.2.Hi:=by
 obtain ⟨o,_,p,_,u,_,e⟩:=fo.1 h
 obtain ⟨h1,_,rfl⟩:=g3.1 e
 exact h1
/-- what the maps tell is what all ways tell -/
theorem vr {w:bg} {b:Nat} {mf mb:List (aq×Int)} (hf:nq mf (fwd w b)) (hb:oj mb (back w (b+1))) (nf:(mf.map (·.1)).Nodup) (nb:(mb.map (·.1)).Nodup) {q:Int×ab} (h:q∈jE w b mf mb):q∈dR w b:=by
 obtain ⟨o,ho,p,hp,u,hu,e⟩:=fo.1 h
 exact fo.2 ⟨o,ho,p,hf.1 _ _ ((dE nf).1 hp),u,hb.1 _ _ ((dE nb).1 hu),e⟩
theorem uu {w:bg} {b:Nat} {mf mb:List (aq×Int)} (hf:nq mf (fwd w b)) (hb:oj mb (back w (b+1))) (nf:(mf.map (·.1)).Nodup) (nb:(mb.map (·.1)).Nodup) {q:Int×ab} (h:q∈dR w b): ∃ q'∈jE w b mf mb,q'.1=q.1∧q'.2.Lo≤q.2.Lo∧q.2.Hi≤q'.2.Hi:=by
 obtain ⟨o,ho,p,hp,u,hu,e⟩:=fo.1 h
 obtain ⟨h1,h2,rfl⟩:=g3.1 e
 obtain ⟨v,hv,hv2⟩:=hf.2 p.1 p.2 hp
 obtain ⟨y,hy,hy2⟩:=hb.2 u.1 u.2 hu
 simp only [gQ] at h1
 refine ⟨(o.1,gQ w b (p.1,v) (u.1,y) o),fo.2 ⟨o,ho,(p.1,v),(dE nf).2 hv,(u.1,y),(dE nb).2 hy,g3.2 ⟨?_,h2,rfl⟩⟩,rfl,?_,?_⟩
 ·simp only [gQ]; omega
 ·simp only [gQ]; omega
 ·simp only [gQ]; omega
def gT:ab:=⟨1,0⟩
def j8 (h x:ab):ab:=if h=gT then x else ⟨min x.Lo h.Lo,max x.Hi h.Hi⟩
def gG (l:List (Int×ab)):ab:=l.foldl (fun h q=>j8 h q.2) gT
structure nI (l:List (Int×ab)) (h:ab):Prop where
 le:h.Lo≤h.Hi
 lo: ∃ x∈l,x.2.Lo=h.Lo
 hi: ∃ x∈l,x.2.Hi=h.Hi
 all: ∀ x∈l,h.Lo≤x.2.Lo∧x.2.Hi≤h.Hi
def jA (l:List (Int×ab)) (h:ab):Prop:=(l=[]∧h=gT)∨nI l h
theorem nI.ne {l:List (Int×ab)} {h:ab} (hh:nI l h):h≠gT:=fun e=>by
 have:=hh.le; rw [e] at this; simp [gT] at this
theorem ud:jA [] gT:= .inl ⟨rfl,rfl⟩
theorem rT {l:List (Int×ab)} {h:ab} {q:Int×ab} (hh:jA l h) (hq:q.2.Lo≤q.2.Hi):jA (l++[q]) (j8 h q.2):=by
 right
 rcases hh with ⟨rfl,rfl⟩|hh
 ·unfold j8
  rw [if_pos rfl]
  exact ⟨hq,⟨q,by simp,rfl⟩,⟨q,by simp,rfl⟩,fun x hx=>by simp at hx; subst hx; exact ⟨Int.le_refl _,Int.le_refl _⟩⟩
 ·unfold j8
  rw [if_neg hh.ne]
  have h1:=hh.le
  obtain ⟨a,ha,ea⟩:=hh.lo
  obtain ⟨c,hc,ec⟩:=hh.hi
  refine ⟨by simp only; omega,?_,?_,fun x hx=>?_⟩
  ·rcases Int.lt_or_le q.2.Lo h.Lo with p|p
   ·exact ⟨q,by simp,by simp only; omega⟩
   ·exact ⟨a,by simp [ha],by simp only; omega⟩
  ·rcases Int.lt_or_le h.Hi q.2.Hi with p|p
   ·exact ⟨q,by simp,by simp only; omega⟩
   ·exact ⟨c,by simp [hc],by simp only; omega⟩
  ·rcases List.mem_append.1 hx with hx|hx
   ·have:=hh.all x hx; simp only; omega
   ·simp at hx; subst hx; simp only; omega
theorem sM {l:List (Int×ab)} (hl: ∀ q∈l,q.2.Lo≤q.2.Hi):jA l (gG l):=by
 have key: ∀ (r d:List (Int×ab)) (h:ab),(∀ q∈r,q.2.Lo≤q.2.Hi)→jA d h→jA (d++r) (r.foldl (fun h q=>j8 h q.2) h):=by
  intro r
  induction r with
  |nil=>intro d h _ hd; simpa using hd
  |cons q r ih=>
   intro d h hr hd
   have:=ih (d++[q]) (j8 h q.2) (fun x hx=>hr x (List.mem_cons_of_mem _ hx)) (rT hd (hr q (by simp)))
   simpa using this
 have:=key l [] gT hl ud
 rw [List.nil_append] at this
 exact this
def u2 (a b:List (Int×ab)):Prop:= ∀ x∈b,∃ y∈a,y.2.Lo≤x.2.Lo∧x.2.Hi≤y.2.Hi
theorem Ah {a b:List (Int×ab)} {h k:ab} (ha:jA a h) (hb:jA b k) (hab:u2 a b) (hba:u2 b a):h=k:=by
 rcases ha with ⟨rfl,rfl⟩|ha
 ·rcases hb with ⟨rfl,rfl⟩|hb
  ·rfl
  ·obtain ⟨x,hx,_⟩:=hb.lo
   obtain ⟨y,hy,_⟩:=hab x hx
   cases hy
 ·rcases hb with ⟨rfl,rfl⟩|hb
  ·obtain ⟨x,hx,_⟩:=ha.lo
   obtain ⟨y,hy,_⟩:=hba x hx
   cases hy
  ·have le: ∀ {a b:List (Int×ab)} {h k:ab},nI a h→nI b k→u2 a b→h.Lo≤k.Lo∧k.Hi≤h.Hi:=fun {a b h k} ha hb hab=>by
    obtain ⟨x,hx,ex⟩:=hb.lo
    obtain ⟨z,hz,ez⟩:=hb.hi
    obtain ⟨y,hy,ey⟩:=hab x hx
    obtain ⟨y',hy',ey'⟩:=hab z hz
    have h1:=ha.all y hy
    have h2:=ha.all y' hy'
    omega
   have h1:=le ha hb hab
   have h2:=le hb ha hba
   rw [ab.ext_iff]; omega
theorem o8 {w:bg} {b:Nat} {mf mb:List (aq×Int)} {l:List (Int×ab)} {h:ab} (hf:nq mf (fwd w b)) (hb:oj mb (back w (b+1))) (nf:(mf.map (·.1)).Nodup) (nb:(mb.map (·.1)).Nodup)
 (hl: ∀ q∈l,q∈jE w b mf mb) (hl2: ∀ q∈jE w b mf mb,q∈l) (hh:jA l h):h=gG (dR w b):=
 Ah hh (sM fun q hq=>g9 hq) (fun x hx=>by
  obtain ⟨q,hq,_,h1,h2⟩:=uu hf hb nf nb hx
  exact ⟨q,hl2 q hq,h1,h2⟩) (fun x hx=>⟨x,vr hf hb nf nb (hl x hx),Int.le_refl _,Int.le_refl _⟩)
def hG (w:bg) (m:List (aq×Int)):Bool:=m.any fun p=>kj w p.1
theorem uo {w:bg} {b:Nat} {m:List (aq×Int)} (h:nq m (fwd w b)) (nf:(m.map (·.1)).Nodup):hG w m=hG w (fwd w b):=by
 unfold hG
 rw [Bool.eq_iff_iff,List.any_eq_true,List.any_eq_true]
 constructor
 ·rintro ⟨p,hp,h2⟩
  exact ⟨p,h.1 _ _ ((dE nf).1 hp),h2⟩
 ·rintro ⟨p,hp,h2⟩
  obtain ⟨v,hv,_⟩:=h.2 p.1 p.2 hp
  exact ⟨(p.1,v),(dE nf).2 hv,h2⟩
def gu (w:bg) (k:Nat):List Int:=((List.range k).filter fun i=>hG w (fwd w i)).map fun (i:Nat)=>(i:Int)
def dJ (w:bg):List Int:=gu w (w.n+1)
theorem uU {w:bg} {k:Nat} (h:hG w (fwd w k)=true):gu w (k+1)=gu w k++[(k:Int)]:=by simp [gu,List.range_succ,h]
theorem wA {w:bg} {k:Nat} (h:hG w (fwd w k)=false):gu w (k+1)=gu w k:=by simp [gu,List.range_succ,h]
theorem nL {w:bg} {k:Nat}:(gu w k).length≤k:=by
 unfold gu
 rw [List.length_map]
 exact Nat.le_trans (List.length_filter_le _ _) (by simp)
end
section
open Go.RowKit
set_option linter.unusedVariables false
theorem wJ {P:Program} {t:Nat} {k:IntKind} (hu:P.underlying t=some (.int k)) (e:Bool) (n:Nat) (v:Value) (w:World):(Instr.checkKey e (n+1) t v).run P w= .ok () w:=by
 unfold Instr.checkKey
 simp only [Sem.run_bind,run_underlying hu,Result.andThen]
 cases v<;>rfl
theorem sI {P:Program} {kt:Nat} {l:List (Nat×Nat)} (hl:fL P kt=some l) (e:Bool) (n:Nat) (cs:Array Value) (w:World)
 (hf: ∀ p∈l,(∃ v,(part p.1 cs p.2).run P w= .ok v w)∧ ∃ k,P.underlying p.1=some (.int k)):(Instr.checkKey e (n+2) kt (.agg cs)).run P w= .ok () w:=by
 unfold fL at hl
 cases hu:P.underlying kt with
 |none=>simp [hu] at hl
 |some d=>
  cases d<;>simp [hu] at hl
  rename_i fs
  obtain ⟨hn,hl⟩:=hl
  rw [show n+2=(n+1)+1 from rfl,Instr.checkKey]
  simp only [Sem.run_bind,run_underlying hu,Result.andThen_ok]
  rw [← Array.forIn_toList]
  have hall: ∀ f∈fs.toList,(∃ v,(part f.type cs f.offset).run P w= .ok v w)∧ ∃ k,P.underlying f.type=some (.int k):=fun f hf'=>hf (f.type,f.offset) (by rw [← hl]; exact List.mem_map.2 ⟨f,hf',rfl⟩)
  have hnm: ∀ f∈fs.toList,f.name≠"_":=fun f hf'=>by
   obtain ⟨i,hi,rfl⟩:=List.getElem_of_mem hf'
   exact hn.1.1 i (by simpa using hi)
  clear hl hn hf
  generalize fs.toList=L at hall hnm
  induction L with
  |nil=>simp
  |cons f L ih=>
   obtain ⟨⟨v,hv⟩,k,hk⟩:=hall f (by simp)
   have hne:=hnm f (by simp)
   simp only [List.forIn_cons,Sem.run_bind,hne,ne_eq,not_false_eq_true,if_true,Result.andThen_ok,hv,wJ hk,Sem.run_pure]
   exact ih (fun y hy=>hall y (by simp [hy])) (fun y hy=>hnm y (by simp [hy]))
theorem tD {P:Program} {kt:Nat} {K:Type} [DecidableEq K] {kV:K→Value} (hw: ∀ (k:Value) (es:List MapEntry) (w:World),(Instr.findKey kt k es).run P w=(Instr.findAsking kt k es).run P w)
 (heq: ∀ x y w,(Op.equal kt (kV x) (kV y)).run P w= .ok (decide (x=y)) w) (inj: ∀ x y,kV x=kV y→x=y) (x:K) (w:World) (es:List MapEntry) (hk: ∀ e∈es,∃ k,e.key=kV k):
 ((Instr.findKey kt (kV x) es).run P w= .ok none w∧ ∀ e∈es,e.key≠kV x)∨ ∃ j e,(Instr.findKey kt (kV x) es).run P w= .ok (some (j,e.val)) w∧es[j]? =some e∧e.key=kV x:=by
 have key: ∀ (es:List MapEntry) (i:Nat),(∀ e∈es,∃ k,e.key=kV k)→((Instr.findAsking kt (kV x) es i).run P w= .ok none w∧ ∀ e∈es,e.key≠kV x)∨ ∃ j e,(Instr.findAsking kt (kV x) es i).run P w= .ok (some (i+j,e.val)) w∧es[j]? =some e∧e.key=kV x:=by
  intro es
  induction es with
  |nil=>intro i _; exact .inl ⟨by simp [Instr.findAsking],by simp⟩
  |cons e es ih=>
   intro i hall
   obtain ⟨k,hek⟩:=hall e (by simp)
   by_cases h:x=k
   ·refine .inr ⟨0,e,?_,rfl,by rw [hek,h]⟩
    subst h
    simp [Instr.findAsking,hek,heq]
   ·rcases ih (i+1) (fun y hy=>hall y (by simp [hy])) with ⟨h1,h2⟩|⟨j,e',h1,h2,h3⟩
    ·refine .inl ⟨by simp [Instr.findAsking,hek,heq,h,h1],fun y hy=>?_⟩
     rcases List.mem_cons.1 hy with rfl|hy
     ·rw [hek]; exact fun q=>h (inj _ _ q).symm
     ·exact h2 y hy
    ·exact .inr ⟨j+1,e',by simp [Instr.findAsking,hek,heq,h,h1]; omega,by simpa using h2,h3⟩
 rw [hw]
 rcases key es 0 hk with h|⟨j,e,h1,h2,h3⟩
 ·exact .inl h
 ·exact .inr ⟨j,e,by simpa using h1,h2,h3⟩
theorem ve {P:Program} {kt:Nat} {l:List (Nat×Nat)} (hl:fL P kt=some l) (k:Value) (es:List MapEntry) (w:World):(Instr.findKey kt k es).run P w=(Instr.findAsking kt k es).run P w:=by
 refine run_findKey_eq w ?_ k es
 unfold fL at hl
 cases hu:P.underlying kt with
 |none=>simp [hu] at hl
 |some d=>cases d<;>simp [hu] at hl ⊢
theorem z_ {P:Program} {kt:Nat} {K:Type} [DecidableEq K] {kV:K→Value} {l:List (Nat×Nat)} (hl:fL P kt=some l) (heq: ∀ x y w,(Op.equal kt (kV x) (kV y)).run P w= .ok (decide (x=y)) w) (inj: ∀ x y,kV x=kV y→x=y)
 (hb: ∀ x,Instr.sameBits 10000 (kV x) (kV x)=true) (hp: ∀ x w,∃ cs,kV x= .agg cs∧ ∀ p∈l,(∃ v,(part p.1 cs p.2).run P w= .ok v w)∧ ∃ k,P.underlying p.1=some (.int k)):qX P kt kV:=
 ⟨fun e x w=>by obtain ⟨cs,e1,e2⟩:=hp x w; rw [e1]; exact sI hl e 9998 cs w e2,fun x w es=>tD (ve hl) heq inj x w es,hb,inj⟩
end
section
open Go.RowKit
set_option linter.unusedVariables false
set_option linter.unusedSectionVars false
theorem jo {P:Program} {kt:Nat} (hk:P.underlying kt=some (.int .i64)):qX P kt (Value.int .i64):=by
 refine ⟨fun e x w=>wU hk e,fun x w es hall=>?_,fun x=>by simp [Instr.sameBits],fun x y h=>by injection h⟩
 have key: ∀ (es:List MapEntry) (i:Nat),(∀ e∈es,∃ k:Int,e.key= .int .i64 k)→(Instr.findNow (.int .i64) (.int .i64 x) es i=some none∧ ∀ e∈es,e.key≠ .int .i64 x)∨ ∃ j e,Instr.findNow (.int .i64) (.int .i64 x) es i=some (some (i+j,e.val))∧es[j]? =some e∧e.key= .int .i64 x:=by
  intro es
  induction es with
  |nil=>intro i _; exact .inl ⟨rfl,by simp⟩
  |cons e es ih=>
   intro i hall
   obtain ⟨k,hek⟩:=hall e (by simp)
   by_cases h:x=k
   ·subst h
    exact .inr ⟨0,e,by simp [Instr.findNow,Instr.sameNow,hek],rfl,hek⟩
   ·have hb:(x==k)=false:=by simpa using h
    rcases ih (i+1) (fun y hy=>hall y (by simp [hy])) with ⟨h1,h2⟩|⟨j,e',h1,h2,h3⟩
    ·refine .inl ⟨by simp [Instr.findNow,Instr.sameNow,hek,hb,h1],fun y hy=>?_⟩
     rcases List.mem_cons.1 hy with rfl|hy
     ·rw [hek]; intro q; injection q with _ q; exact h q.symm
     ·exact h2 y hy
    ·refine .inr ⟨j+1,e',?_,by simpa using h2,h3⟩
     simp only [Instr.findNow,Instr.sameNow,hek,hb,if_true,h1]
     simp; omega
 rcases key es 0 hall with ⟨h1,h2⟩|⟨j,e,h1,h2,h3⟩
 ·exact .inl ⟨MapKept.run_findKey hk h1,h2⟩
 ·exact .inr ⟨j,e,MapKept.run_findKey hk (by simpa using h1),h2,h3⟩
theorem St.AD {S:BS} {w0 w w':World} {C:List aD} {A N:aD} (h:St S w0 C w) (i:Nat) (hA:C[i]? =some A) (k:cW no w w') (hN:N.holds w') (hf: ∀ b,N.dL b→w.heap.size≤b∨A.dL b∧ ¬ A.wf b∧ ¬ N.wf b):St S w0 (N::C) w':=by
 have h':=h.same k
 have hmem:=List.mem_of_getElem? hA
 have hi:=(List.getElem?_eq_some_iff.1 hA).1
 have hget:C[i]=A:=(List.getElem?_eq_some_iff.1 hA).2
 refine ⟨h'.keeps,fun X hX=>?_,List.Pairwise.cons (fun X hX b hb hb'=>?_) h'.sep,fun X hX b hb=>?_,fun X hX b hb=>?_⟩
 ·rcases List.mem_cons.1 hX with rfl|hX
  ·exact hN
  ·exact h'.holds X hX
 ·rcases hf b hb with h1|⟨h1,h2,h3⟩
  ·have:=X.lt w (h.holds X hX) b hb'; omega
  ·refine ⟨h3,?_⟩
   obtain ⟨j,hj,hjX⟩:=List.mem_iff_getElem.1 hX
   by_cases e:j=i
   ·subst e; rw [← hjX,hget]; exact h2
   ·rcases Nat.lt_or_gt_of_ne e with hlt|hlt
    ·have:=List.pairwise_iff_getElem.1 h.sep j i hj hi hlt b (by rw [hjX]; exact hb') (by rw [hget]; exact h1)
     rw [← hjX]; exact this.1
    ·have:=List.pairwise_iff_getElem.1 h.sep i j hi hj hlt b (by rw [hget]; exact h1) (by rw [hjX]; exact hb')
     rw [← hjX]; exact this.2
 ·rcases List.mem_cons.1 hX with rfl|hX
  ·rcases hf b (X.ig b hb) with h1|⟨_,_,h3⟩
   ·exact .inl (Nat.le_trans h.keeps.size h1)
   ·exact absurd hb h3
  ·exact h'.own X hX b hb
 ·rcases List.mem_cons.1 hX with rfl|hX
  ·rcases hf b hb with h1|⟨h1,_,_⟩
   ·exact .inl (Nat.le_trans h.keeps.size h1)
   ·exact h.seen A hmem b h1
  ·exact h'.seen X hX b hb
section
variable {K:Type} [DecidableEq K] {kV:K→Value}
/-- an iterator over a map that is read alone -/
def nV (kV:K→Value) (r b:Nat) (m left:List (K×Value)) (cur:Option (K×Value)):aD where
 dL k:=k=r∨k=b
 wf k:=k=r
 holds w:=r≠b∧ ∃ (es:Array MapEntry) (c since:Nat) (seen:Array Nat) (st:Nat),w.heap[b]? =some (.map es c)∧fU kV es c m∧w.heap[r]? =some (.mapIter (some b) since seen st)∧(∀ e∈es.toList,e.born<since)∧since≤st∧since≤c∧
  (leftOf es seen).toList.map (fun (e:MapEntry)=>(e.key,e.val))=left.map (fun p=>(kV p.1,p.2))∧
  ∀ p,cur=some p→ ∃ (e:MapEntry) (seen0:Array Nat),e∈es.toList∧seen=seen0.push e.born∧st=c∧e.key=kV p.1∧e.val=p.2
 wr:=false
 ig _ h:= .inl h
 whole h:=by cases h
 lt w h k hk:=by
  obtain ⟨_,es,c,since,seen,st,h1,_,h2,_⟩:=h
  rcases hk with rfl|rfl
  ·exact da h2
  ·exact da h1
 jd w w' hk h:=by
  obtain ⟨hne,es,c,since,seen,st,h1,h2,h3,h4⟩:=h
  exact ⟨hne,es,c,since,seen,st,(hk b (.inr rfl)).trans h1,h2,(hk r (.inl rfl)).trans h3,h4⟩
theorem kL {r b:Nat} {m left:List (K×Value)} {cur:Option (K×Value)}:(∀ w,(nV kV r b m left cur).holds w→(nV kV r b m left none).holds w)∧(∀ k,(nV kV r b m left none).dL k→(nV kV r b m left cur).dL k)∧ ∀ k,(nV kV r b m left none).wf k→(nV kV r b m left cur).wf k:=
 ⟨fun w h=>by
  obtain ⟨hne,es,c,since,seen,st,h1,h2,h3,h4,h5,h5',h6,_⟩:=h
  exact ⟨hne,es,c,since,seen,st,h1,h2,h3,h4,h5,h5',h6,fun p hp=>by cases hp⟩,fun _ h=>h,fun _ h=>h⟩
section
variable {E:eu} {ops:Array Oper} {Q:cZ} {rest:List Oper} {D:List Deferred} {L:List (Nat×Value)} {C:List aD}
variable {dst:Option Tmp} {d:Nat} {ty:TypeId} {ps:String} {af:Array Edge} {g:Option (Nat×Bool)}
theorem lx {t kt et:TypeId} {xm:Operand} {b:Nat} {m:List (K×Value)} {A:aD} (i:Nat) (hg:iD ops L g=true) (hm:ev L xm=some (.map (some b))) (ht:E.P.underlying t=some (.map kt et)) (hA:C[i]? =some A) (hAf:A.dL b∧ ¬ A.wf b) (hC:nj C (jr kV b m).holds) (hd:Nat.blt d E.n=true)
 (k: ∀ r,RJ E ops Q rest D ((d,.pointer (some ⟨r,0,none⟩))::L) (nV kV r b m m none::C)):RJ E ops Q (⟨some d,.range t xm,ty,ps,af,g⟩::rest) D L C:=by
 intro a w hfr hs
 have hd':d<E.n:=by rw [← Nat.blt_eq]; exact hd
 unfold nQ
 rw [if_pos (dg hfr hg)]
 obtain ⟨es,c,he,hi⟩:=hs.has hC
 have hbl:b<w.heap.size:=da he
 have hget:(getObj b).run E.P w= .ok (.map es c) w:=MapKept.run_getObj_map he
 refine fz (v:= .pointer (some ⟨w.heap.size,0,none⟩)) (w':=w.alloc (.mapIter (some b) c #[] c)) (by simp) ?_ ?_
 ·simp [execOp,Instr.range,hfr.ev hm,run_underlying ht,hget,newObj,Sem.run]
 ·refine k _ _ _ (hfr.put hd' _) (hs.AD i hA (cW.alloc no w _) ⟨by omega,es,c,c,#[],c,?_,hi,heap_alloc_new w _,hi.v9,Nat.le_refl _,Nat.le_refl _,?_,fun p hp=>by cases hp⟩ (fun q hq=>?_))
  ·rw [Below.heap_alloc w _ b hbl]; exact he
  ·have:leftOf es #[]=es:=by unfold leftOf; exact Array.filter_eq_self.2 (by simp)
   rw [this]; exact hi.list
  ·rcases hq with rfl|rfl
   ·exact .inl (Nat.le_refl _)
   ·refine .inr ⟨hAf.1,hAf.2,fun (e:q=w.heap.size)=>by omega⟩
theorem wg (hinj: ∀ x y,kV x=kV y→x=y) {xi:Operand} {r b:Nat} {m left:List (K×Value)} {cur:Option (K×Value)} (i:Nat) (hg:iD ops L g=true) (hm:ev L xi=some (.pointer (some ⟨r,0,none⟩))) (hC:C[i]? =some (nV kV r b m left cur)) (hd:Nat.blt d E.n=true)
 (k0:left=[]→RJ E ops Q rest D ((d,.tuple [.bool false].toArray)::L) C)
 (k1: ∀ x v,(x,v)∈left→(left.map (·.1)).Nodup→RJ E ops Q rest D ((d,.tuple [.bool true,kV x,v].toArray)::L) (C.set i (nV kV r b m (cL left x) (some (x,v))))):
 RJ E ops Q (⟨some d,.next xi false,ty,ps,af,g⟩::rest) D L C:=by
 intro a w hfr hs
 have hd':d<E.n:=by rw [← Nat.blt_eq]; exact hd
 unfold nQ
 rw [if_pos (dg hfr hg)]
 obtain ⟨hne,es,c,since,seen,st,h1,hi,h3,hold,hsc,hsc2,hleft,_⟩:=hs.holds _ (List.mem_of_getElem? hC)
 rcases run_next_at (P:=E.P) w ty r b since st seen es c h3 h1 hold hsc with ⟨h0,hr⟩|⟨e,he,w1,hw1,hr⟩
 ·refine fz (v:= .tuple #[.bool false]) (w':=w) (by simp) ?_ ?_
  ·simp [execOp,hfr.ev hm,hr]
  ·refine k0 ?_ _ _ (hfr.put hd' _) hs
   have:(leftOf es seen).toList=[]:=by rw [← List.length_eq_zero_iff,Array.length_toList]; exact h0
   rw [this] at hleft
   exact List.map_eq_nil_iff.1 hleft.symm
 ·have hmem:(e.key,e.val)∈left.map (fun p=>(kV p.1,p.2)):=by rw [← hleft]; exact List.mem_map.2 ⟨e,he,rfl⟩
  obtain ⟨p,hp,hpe⟩:=List.mem_map.1 hmem
  obtain ⟨x,v⟩:=p
  simp only [Prod.mk.injEq] at hpe
  obtain ⟨hk,hv⟩:=hpe
  refine fz (v:= .tuple #[.bool true,e.key,e.val]) (w':=ChangeMaps.setBlock w1 r (.mapIter (some b) since (seen.push e.born) c)) (by simp) ?_ ?_
  ·simp [execOp,hfr.ev hm,hr]
  ·rw [← hk,← hv]
   have hnd:=qm hinj hi hleft
   have hees:e∈es.toList:=by unfold leftOf at he; rw [Array.toList_filter] at he; exact (List.mem_filter.1 he).1
   have hcs:c=c:=rfl
   have hheap:w1.heap=w.heap:=by rcases hw1 with rfl|rfl<;>rfl
   refine k1 x v hp hnd _ _ (hfr.put hd' _) (hs.mv i hC ⟨⟨hne,es,c,since,seen.push e.born,c,?_,hi,?_,hold,hsc2,hsc2,?_,fun q hq=>?_⟩,?_,fun q hq=> .inl hq,fun q hq=> .inl hq⟩)
   ·show (w1.heap.setIfInBounds r _)[b]? =_
    rw [Array.getElem?_setIfInBounds_ne hne,hheap]; exact h1
   ·show (w1.heap.setIfInBounds r _)[r]? =_
    rw [Array.getElem?_setIfInBounds_self_of_lt (by rw [hheap]; exact da h3)]
   ·have hdk:leftOf es (seen.push e.born)=(leftOf es seen).filter (fun z=> !(z.born==e.born)):=by
     unfold leftOf
     rw [Array.filter_filter]
     congr 1
     funext z
     simp only [Array.contains_push,Bool.not_or]
     rw [Bool.and_comm]
    rw [hdk,Array.toList_filter]
    have key: ∀ (l:List MapEntry) (ll:List (K×Value)),(∀ z∈l,z∈es.toList)→l.map (fun (e:MapEntry)=>(e.key,e.val))=ll.map (fun p=>(kV p.1,p.2))→
     (l.filter (fun z=> !(z.born==e.born))).map (fun (e:MapEntry)=>(e.key,e.val))=(cL ll x).map (fun p=>(kV p.1,p.2)):=by
     intro l
     induction l with
     |nil=>intro ll _ h; cases ll with
      |nil=>rfl
      |cons p ll=>simp at h
     |cons z l ih=>
      intro ll hz h
      cases ll with
      |nil=>simp at h
      |cons p ll=>
       simp only [List.map_cons,List.cons.injEq,Prod.mk.injEq] at h
       have ih':=ih ll (fun y hy=>hz y (by simp [hy])) h.2
       have hiff:(z.born=e.born)↔(p.1=x):=by
        constructor
        ·intro hb
         have:z=e:=uE hi.born (hz z (by simp)) hees hb
         rw [this] at h
         have:=h.1.1.symm.trans hk.symm
         exact hinj _ _ this
        ·intro hx
         have hze:z.key=e.key:=by rw [h.1.1,hx,hk]
         rw [um hinj hi (hz z (by simp)) hees hze]
       unfold cL at ih' ⊢
       by_cases hx:p.1=x
       ·rw [List.filter_cons_of_neg (by simp [hiff.2 hx]),List.filter_cons_of_neg (by simp [hx])]; exact ih'
       ·rw [List.filter_cons_of_pos (by simpa using fun hb=>hx (hiff.1 hb)),List.filter_cons_of_pos (by simpa using hx)]
        simp only [List.map_cons,h.1.1,h.1.2,ih']
    exact key _ _ (fun z hz=>by unfold leftOf at hz; rw [Array.toList_filter] at hz; exact (List.mem_filter.1 hz).1) hleft
   ·cases hq
    exact ⟨e,seen,hees,rfl,rfl,hk.symm,hv.symm⟩
   ·refine ⟨?_,?_,?_,?_,fun q hq hn=>?_⟩
    ·rcases hw1 with rfl|rfl<;>rfl
    ·rcases hw1 with rfl|rfl<;>rfl
    ·rcases hw1 with rfl|rfl<;>rfl
    ·show w.heap.size≤(w1.heap.setIfInBounds r _).size
     simp [hheap]
    ·show (w1.heap.setIfInBounds r _)[q]? =_
     rw [Array.getElem?_setIfInBounds_ne (fun e=>hn e.symm),hheap]
theorem kz {xi:Operand} {r b:Nat} {m left:List (K×Value)} {x:K} {v:Value} (i:Nat) (hg:iD ops L g=true) (hm:ev L xi=some (.pointer (some ⟨r,0,none⟩))) (hC:C[i]? =some (nV kV r b m left (some (x,v)))):
 SD E ops ⟨dst,.entry xi,ty,ps,af,g⟩ D L C (.tuple [kV x,v].toArray):=
 dF hg (by simp) fun a w hfr hs=>by
  obtain ⟨hne,es,c,since,seen,st,h1,hi,h3,hold,hsc,hsc2,hleft,hcur⟩:=hs.holds _ (List.mem_of_getElem? hC)
  obtain ⟨e,seen0,he,rfl,rfl,hk,hv⟩:=hcur _ rfl
  have:=run_entry_at (P:=E.P) w r b since seen0 es st e h3 h1 he hi.born
  simp [execOp,hfr.ev hm,this,hk,hv]
theorem ko (hinj: ∀ x y,kV x=kV y→x=y) {β:Type} {f:β→Value} {xi:Operand} {r b:Nat} {m:List (K×Value)} {ll:List (K×β)} {cur:Option (K×Value)} (i:Nat) (hg:iD ops L g=true) (hm:ev L xi=some (.pointer (some ⟨r,0,none⟩))) (hC:C[i]? =some (nV kV r b m (bu f ll) cur)) (hd:Nat.blt d E.n=true)
 (k0:ll=[]→RJ E ops Q rest D ((d,.tuple [.bool false].toArray)::L) C)
 (k1: ∀ x y,(x,y)∈ll→(ll.map (·.1)).Nodup→RJ E ops Q rest D ((d,.tuple [.bool true,kV x,f y].toArray)::L) (C.set i (nV kV r b m (bu f (cL ll x)) (some (x,f y))))):
 RJ E ops Q (⟨some d,.next xi false,ty,ps,af,g⟩::rest) D L C:=by
 refine wg hinj i hg hm hC hd (fun h=>k0 (List.map_eq_nil_iff.1 h)) (fun x v hxv hn=>?_)
 obtain ⟨p,hp,hpe⟩:=List.mem_map.1 hxv
 simp only [Prod.mk.injEq] at hpe
 obtain ⟨rfl,rfl⟩:=hpe
 have:=k1 p.1 p.2 hp (by simpa [bu,Function.comp_def] using hn)
 rwa [nB] at this
theorem rF {t kt et:TypeId} {xm xk xv:Operand} {b:Nat} {x:K} {v:Value} {m m':List (K×Value)} {C':List aD} (i:Nat) (hg:iD ops L g=true) (hm:ev L xm=some (.map (some b))) (hk:ev L xk=some (kV x)) (hv:ev L xv=some v)
 (ht:E.P.underlying t=some (.map kt et)) (hkt:qX E.P kt kV) (hC:C[i]? =some (jr kV b m)) (hm':dz m x v=m') (hC':C.set i (jr kV b m')=C') (k:RJ E ops Q rest D L C'):
 RJ E ops Q (⟨none,.insert t xm xk xv,ty,ps,af,g⟩::rest) D L C:=by
 subst hm' hC'
 intro a w hfr hs
 unfold nQ
 rw [if_pos (dg hfr hg)]
 obtain ⟨es,c,he,hi⟩:=hs.holds _ (List.mem_of_getElem? hC)
 have hget:(getObj b).run E.P w= .ok (.map es c) w:=MapKept.run_getObj_map he
 rcases m_ (P:=E.P) (w:=w) (x:=x) hkt hi with ⟨h1,h2⟩|⟨j,v0,h1,h2,h3⟩
 ·refine ng (w':={w with heap:=w.heap.setIfInBounds b (.map (es.push {key:=kV x,val:=v,born:=c}) (c+1))}) (by simp) ?_ ?_
  ·simp [execOp,hfr.ev hm,hfr.ev hk,hfr.ev hv,Instr.mapUpdate,run_underlying ht,hget,gY hkt,h1,MapKept.run_setObj_map _ he]
  ·refine k _ _ ⟨hfr.defers,hfr.size,hfr.at_⟩ (hs.uG (b:=b) i hC rfl rfl (jS _) (fun _ h=>h) ⟨_,_,lg he,?_⟩)
   have:dz m x v=m++[(x,v)]:=by unfold dz; rw [h2]; rfl
   rw [this]; exact hi.push h2 v
 ·have hsz:=hi.size
  have hje:j<es.size:=by have:=(List.getElem?_eq_some_iff.1 h2).1; omega
  have hkey:(es[j]).key=kV x:=by
   have:=congrArg (fun l=>l[j]?) hi.list
   simp [hje,h2] at this
   exact this.1
  refine ng (w':={w with heap:=w.heap.setIfInBounds b (.map (es.modify j fun e=>{e with key:=kV x,val:=v}) c)}) (by simp) ?_ ?_
  ·simp [execOp,hfr.ev hm,hfr.ev hk,hfr.ev hv,Instr.mapUpdate,run_underlying ht,hget,gY hkt,h1,MapKept.run_setObj_map _ he,Instr.keyThatStays,hje,hkey,hkt.bits x]
  ·exact k _ _ ⟨hfr.defers,hfr.size,hfr.at_⟩ (hs.uG (b:=b) i hC rfl rfl (jS _) (fun _ h=>h) ⟨_,_,lg he,hi.set h2 h3 v⟩)
end
end
end
section
open Go.RowKit
set_option linter.unusedVariables false
def FJ {σ:Type} (w0:World) (P:Program) (l:Nat) (step:σ→List Value→σ→Prop) (J:σ→aD→Prop) (Z:aD→Prop):Prop:=
 ∀ k x k' A w,step k x k'→J k A→w0.heap.size≤w.heap.size→A.holds w→YieldAt (Fw none) 0 P l x.toArray w fun e w'=>
  (e= .returned (.bool true)∧ ∃ B,J k' B∧Mv A B w w')∨(e= .returned (.bool false)∧ ∃ B,Z B∧Mv A B w w')
def xH {σ:Type} (J:σ→aD→Prop) (Z:aD→Prop) (fin:σ→Prop) (A0:aD) (w0:World) (e:Ending) (w':World):Prop:=
 ∃ v,e= .returned v∧((∃ s B,fin s∧J s B∧Mv A0 B w0 w')∨ ∃ B,Z B∧Mv A0 B w0 w')
structure AM {σ:Type} (P:Program) (f:FuncId) (fi ca:List Value) (Cp:List aD) (s0:σ) (step:σ→List Value→σ→Prop) (fin:σ→Prop):Prop where
 go:cu P f=true
 run: ∀ (l:Nat) (J:σ→aD→Prop) (Z:aD→Prop) (A0:aD) (w:World),FJ w P l step J Z→J s0 A0→A0.holds w→(∀ A∈Cp,A.holds w)→(∀ A∈Cp,uI A0 A.ro)→
  Calls P f (fi++Value.func (.yield l) #[] #[]::ca).toArray w (xH J Z fin A0 w)
theorem DU {σ:Type} {J:σ→aD→Prop} {Z:aD→Prop} {n:σ} {fin:σ→Prop} {A0 B:aD} {w0 w:World} {C:List aD} {v:Value} (i:Nat) (hC:C[i]? =some B) (hfin:fin n) (hJ:J n B) (hF:Fo A0 w0 B) (hs:St ⟨A0.wf,fun _=>True⟩ w0 C w):xH J Z fin A0 w0 (.returned v) w:=
 ⟨v,rfl,.inl ⟨n,B,hfin,hJ,hs.holds B (List.mem_of_getElem? hC),hs.keeps,fun b hb=>(hs.own B (List.mem_of_getElem? hC) b hb).symm,hF⟩⟩
theorem x_ {σ:Type} {J:σ→aD→Prop} {Z:aD→Prop} {fin:σ→Prop} {A0 B:aD} {w0 w:World} {C:List aD} {v:Value} (i:Nat) (hC:C[i]? =some B) (hJ:Z B) (hF:Fo A0 w0 B) (hs:St ⟨A0.wf,fun _=>True⟩ w0 C w):xH J Z fin A0 w0 (.returned v) w:=
 ⟨v,rfl,.inr ⟨B,hJ,hs.holds B (List.mem_of_getElem? hC),hs.keeps,fun b hb=>(hs.own B (List.mem_of_getElem? hC) b hb).symm,hF⟩⟩
theorem vw {σ:Type} {P:Program} {f:FuncId} {fn:Func} {c:Code} {fi ca:List Value} {Cp:List aD} {s0:σ} {step:σ→List Value→σ→Prop} {fin:σ→Prop} (hgo:cu P f=true) (hf:P.funcs[f]? =some fn) (hb:fn.body=some c) (hn:Nat.ble (fi.length+ca.length+1) fn.ntmps=true)
 (h: ∀ (l:Nat) (J:σ→aD→Prop) (Z:aD→Prop) (A0:aD) (w0:World) (Q:cZ),FJ w0 P l step J Z→J s0 A0→Fo A0 w0 A0→
  (∀ D L C,LJ ⟨P,none,fn.ntmps,⟨A0.wf,fun _=>True⟩,w0⟩ fn (xH J Z fin A0 w0) D L C→KJ ⟨P,none,fn.ntmps,⟨A0.wf,fun _=>True⟩,w0⟩ (Q .ret) D L C)→
  (∀ D L C,LJ ⟨P,none,fn.ntmps,⟨A0.wf,fun _=>True⟩,w0⟩ fn (xH J Z fin A0 w0) D L C→KJ ⟨P,none,fn.ntmps,⟨A0.wf,fun _=>True⟩,w0⟩ (Q .normal) D L C)→
  WJ ⟨P,none,fn.ntmps,⟨A0.wf,fun _=>True⟩,w0⟩ c Q [] (B0 (fi++Value.func (.yield l) #[] #[]::ca)) (A0::Cp.map aD.ro)):AM P f fi ca Cp s0 step fin:=by
 refine ⟨hgo,fun l J Z A0 w hY hJ hA hCp hsep=>?_⟩
 refine uM hf hb (by simpa [Nat.add_assoc] using hn) (h l J Z A0 w · hY hJ (fun b hb=> .inl hb)) ?_
 have h0:=oz hCp
 refine ⟨cW.refl _ _,fun A hA'=>?_,List.Pairwise.cons (fun B hB=>?_) h0.sep,fun A hA' b hb=>?_,fun _ _ _ _=> .inr trivial⟩
 ·rcases List.mem_cons.1 hA' with rfl|hA'
  ·exact hA
  ·exact h0.holds A hA'
 ·obtain ⟨B',hB',rfl⟩:=List.mem_map.1 hB
  exact hsep B' hB'
 ·rcases List.mem_cons.1 hA' with rfl|hA'
  ·exact .inr hb
  ·obtain ⟨B',hB',rfl⟩:=List.mem_map.1 hA'
   exact hb.elim
section
variable {E:eu} {ops:Array Oper} {Q:cZ} {rest:List Oper} {D:List Deferred} {L:List (Nat×Value)} {C:List aD}
variable {d:Nat} {ty:TypeId} {ps:String} {af:Array Edge} {g:Option (Nat×Bool)}
/-- a call of yield -/
theorem qf {σ:Type} {fop:Operand} {xs:Array Operand} {ts:Array TypeId} {l:Nat} {k k':σ} {vs:List Value} {step:σ→List Value→σ→Prop} {J:σ→aD→Prop} {Z:aD→Prop} {A0 A:aD} {w1:World} (i:Nat) (hw1:w1.heap.size≤E.w0.heap.size) (hY:FJ w1 E.P l step J Z) (hJ:J k A) (hF:Fo A0 w1 A) (hg:iD ops L g=true) (hf:ev L fop=some (.func (.yield l) #[] #[]))
 (hx:evs L xs.toList=some vs) (hk:step k vs k') (hC:C[i]? =some A) (hd:Nat.blt d E.n=true)
 (k1: ∀ B,J k' B→Fo A0 w1 B→RJ E ops Q rest D ((d,.bool true)::L) (C.set i B))
 (k2: ∀ B,Z B→Fo A0 w1 B→RJ E ops Q rest D ((d,.bool false)::L) (C.set i B)):
 RJ E ops Q (⟨some d,.call {callee:= .value fop,args:=xs,argTypes:=ts},ty,ps,af,g⟩::rest) D L C:=by
 intro a w hfr hs
 have hd':d<E.n:=by rw [← Nat.blt_eq]; exact hd
 unfold nQ
 rw [if_pos (dg hfr hg)]
 have h1:xs.map a.eval=vs.toArray:=by
  have:=hfr.evs hx
  apply Array.ext'
  simp [this]
 obtain ⟨fn,tmps,assign,body,hy,hr⟩:=hY k vs k' A w hk hJ (Nat.le_trans hw1 hs.keeps.size) (hs.holds A (List.mem_of_getElem? hC))
 have hrun:(execOp a.eval ⟨some d,.call {callee:= .value fop,args:=xs,argTypes:=ts},ty,ps,af,g⟩).run E.P w= .ok (.round l fn tmps assign body) w:=by
  simp [execOp,resolve,hfr.ev hf,Deferred.ofValue,invoke,h1,hy]
 refine ⟨fun _ _=>trivial,?_⟩
 rw [Oper.semAt_eq _ _ _ (by simp),hrun]
 refine ⟨fun h=>by simp at h,?_⟩
 have hfo: ∀ (B:aD) (w':World),Mv A B w w'→Fo A0 w1 B:=fun B w' m b hb=>by
  rcases m.dL b hb with h2|h2
  ·exact hF b h2
  ·exact .inr (Nat.le_trans hw1 (Nat.le_trans hs.keeps.size h2))
 have hr':RoundIn (Fw E.r) 0 E.P l fn tmps assign body w _:=hr
 refine hr'.mono fun e w' he=>?_
 rcases he with ⟨rfl,B,hB,m⟩|⟨rfl,B,hB,m⟩
 ·exact k1 B hB (hfo B w' m) _ _ (hfr.put hd' _) (hs.mv i hC m)
 ·exact k2 B hB (hfo B w' m) _ _ (hfr.put hd' _) (hs.mv i hC m)
end
theorem kT {σ:Type} {E:eu} {Q:cZ} {D:List Deferred} {L L0:List (Nat×Value)} {C F:List aD} {g:Operand} {ps:Array Tmp} {assign body:Code} {f:FuncId} {fi ca:List Value} {Cp:List aD} {s0:σ} {step:σ→List Value→σ→Prop} {fin_:σ→Prop} {ι κ:Type}
 (inv:σ→ι→Prop) (Ci:σ→ι→List aD) (invx:Code→κ→Prop) (Cx:Code→κ→List aD) (isJ isF:List Nat) (y0:ι)
 (hr:E.r=none) (hg:ev L g=some (.func (.func f) fi.toArray ca.toArray)) (hs:AM E.P f fi ca Cp s0 step fin_)
 (hnd:decide (isJ++isF).Nodup=true) (hJ:bB C isJ=Ci s0 y0) (hF:bB C isF=F) (h0:inv s0 y0) (hCp: ∀ A∈Cp,∃ B∈F,zG B A)
 (hps: ∀ k x k',step k x k'→x.length=ps.size) (hpn:ps.toList.all (fun t=>Nat.blt t E.n)=true) (hL:an L L0)
 (round: ∀ (k:σ) (x:List Value) (k':σ) (y:ι) (l:Nat) (ra rb:Loop) (S:BS) (w0:World) (K:Act→World→Prop) (Qr:cZ),E.w0.heap.size≤w0.heap.size→step k x k'→inv k y→
  (∀ L' C',WJ ⟨E.P,some l,E.n,S,w0⟩ body Qr [] L' (g5 l (.loop rb)::C')→KJ ⟨E.P,some l,E.n,S,w0⟩ K [] L' (g5 l (.loop ra)::C'))→
  (∀ y' L' C',inv k' y'→(∀ w,St S w0 C' w→St S w0 (g5 l (.loop rb)::Ci k' y') w)→KJ ⟨E.P,some l,E.n,S,w0⟩ (Qr .normal) [] L' C')→
  (∀ id z L' C',invx (.exit id) z→(∀ w,St S w0 C' w→St S w0 (g5 l (.loop rb)::Cx (.exit id) z) w)→KJ ⟨E.P,some l,E.n,S,w0⟩ (Qr (.exit id)) [] L' C')→
  (∀ z L' C',invx .ret z→(∀ w,St S w0 C' w→St S w0 (g5 l (.loop rb)::Cx .ret z) w)→KJ ⟨E.P,some l,E.n,S,w0⟩ (Qr .ret) [] L' C')→
  WJ ⟨E.P,some l,E.n,S,w0⟩ assign (Exit.then K (fun _ _ _=>False)) [] (tI ps.toList x L0) (g5 l (.loop ra)::Ci k y))
 (fin: ∀ r s y,fin_ s→inv s y→KJ E (Q .normal) (iG r::D) L0 (g5 r (.deferred (some []))::(F++Ci s y)))
 (finx: ∀ r id z,invx (.exit id) z→KJ E (Q (.exit id)) (iG r::D) L0 (g5 r (.deferred (some []))::(F++Cx (.exit id) z)))
 (finr: ∀ r z,invx .ret z→KJ E (Q .ret) (iG r::D) L0 (g5 r (.deferred (some []))::(F++Cx .ret z))):WJ E (.rangeFunc g ps assign body) Q D L C:=by
 intro a w hf hst
 refine wpIn_rangeFunc fun fn _=>?_
 show ∃ l iG w₁ d w₁' f args w₂,(Instr.enterLoop fn a.tmps ps assign body E.r).run E.P w= .ok (l,iG) w₁∧_
 rw [hr]
 obtain ⟨rec,hrec⟩: ∃ rec:LoopState→Option Code→Loop,rec=fun st pe=>{state:=st,pending:=pe,fn,tmps:=a.tmps,params:=ps,assign,body,defers:=w.heap.size}:=⟨_,rfl⟩
 obtain ⟨W1,hW1⟩: ∃ W1,(w.alloc (.deferred (some []))).alloc (.loop (rec .ready none))=W1:=⟨_,rfl⟩
 have hev:a.eval g= .func (.func f) fi.toArray ca.toArray:=hf.ev hg
 have hent:(Instr.enterLoop fn a.tmps ps assign body none).run E.P w= .ok (w.heap.size+1,[iG w.heap.size]) W1:=by
  rw [← hW1,hrec]; exact run_enterLoop_outer _ _ _ _ _
 -- the state with the record and the block
 have hst1:St E.S E.w0 ((g5 (w.heap.size+1) (.loop (rec .ready none))::Ci s0 y0)++(g5 w.heap.size (.deferred (some []))::F)) W1:=by
  have h1:St E.S E.w0 (Ci s0 y0++F) w:=St.bB (isJ++isF) hnd (by have h1:=hJ; have h2:=hF; unfold Go.Proofs.YthiigjekcdjkkaaGreat.bB at h1 h2 ⊢; rw [List.filterMap_append,h1,h2]) hst
  have hn:zP w W1 [g5 (w.heap.size+1) (.loop (rec .ready none)),g5 w.heap.size (.deferred (some []))]:=by
   refine ⟨fun A hA=>?_,fun A hA b hb=>?_,?_⟩
   ·rcases List.mem_cons.1 hA with rfl|hA
    ·show W1.heap[w.heap.size+1]? =_
     rw [← hW1]; have:=World.alloc_heap_new (w.alloc (.deferred (some []))) (.loop (rec .ready none)); rwa [World.size_alloc] at this
    ·simp only [List.mem_singleton] at hA; subst hA
     show W1.heap[w.heap.size]? =_
     rw [← hW1]; exact (Below.heap_alloc _ _ _ (by simp)).trans (World.alloc_heap_new w _)
   ·rcases List.mem_cons.1 hA with rfl|hA
    ·have:b=w.heap.size+1:=hb
     omega
    ·simp only [List.mem_singleton] at hA; subst hA
     have:b=w.heap.size:=hb
     omega
   ·refine List.Pairwise.cons (fun B hB b h1 h2=>?_) (List.pairwise_singleton _ _)
    simp only [List.mem_singleton] at hB; subst hB
    have e1:b=w.heap.size+1:=h1
    have e2:b=w.heap.size:=h2
    omega
  have hk:cW no w W1:=by rw [← hW1]; exact (cW.alloc no w _).trans (cW.alloc no _ _)
  have h2:=h1.grow hk hn
  refine h2.perm ?_
  simp only [List.cons_append,List.nil_append]
  exact List.Perm.cons _ (List.perm_middle.symm)
 have hb1:=hst1.pI
 obtain ⟨hs1,hs2⟩:=List.pairwise_cons.1 hb1.sep
 have hA0:=hb1.holds _ (List.mem_cons_self ..)
 let J:σ→aD→Prop:=fun k A=> ∃ y,inv k y∧A=bw (g5 (w.heap.size+1) (.loop (rec .ready none))::Ci k y)
 let Z:aD→Prop:=fun A=> ∃ c z,(c= .ret∨ ∃ id,c= .exit id)∧invx c z∧A=bw (g5 (w.heap.size+1) (.loop (rec .done (some c)))::Cx c z)
 refine ⟨w.heap.size+1,[iG w.heap.size],W1,{target:= .fn (.func f) ca.toArray,args:=fi.toArray++ #[.func (.yield (w.heap.size+1)) #[] #[]]},W1,f,
  (fi++Value.func (.yield (w.heap.size+1)) #[] #[]::ca).toArray,W1,hent,?_,fun _ _=>trivial,?_,fun h=>by simp at h,?_⟩
 ·simp only [resolve,hev]
  simp [Deferred.ofValue,Act.eval]
 ·have:fi.toArray++ #[Value.func (.yield (w.heap.size+1)) #[] #[]]++ca.toArray=(fi++Value.func (.yield (w.heap.size+1)) #[] #[]::ca).toArray:=by simp
  simp [invoke,ly hs.go]
 ·refine (mB E.r (hs.run (w.heap.size+1) J Z _ W1 ?_ ⟨y0,h0,rfl⟩ hA0 ?_ ?_)).mono ?_
  ·-- a round
   rintro k x k' A W hx ⟨y,hy,rfl⟩ hWs hA
   have hl:W.heap[w.heap.size+1]? =some (.loop (rec .ready none)):=hA.1 _ (List.mem_cons_self ..)
   have hyl:=run_yield (P:=E.P) (args:=x.toArray) hl (by rw [hrec]; simpa using hps k x k' hx)
   rw [hrec] at hyl
   refine ⟨fn,_,assign,body,hyl,roundIn_of_wpIn trivial ?_⟩
   let A:aD:=bw (g5 (w.heap.size+1) (.loop (rec .ready none))::Ci k y)
   have hfr:Fr E.n [] (tI ps.toList x L0) {tmps:=(ps.zip x.toArray).foldl (fun tmps (t,a)=>tmps.setIfInBounds t a) a.tmps,defers:=[]}:=by
    have h1:=zh ps.toList x L0 a.tmps (fun t ht=>by have:=List.all_eq_true.1 hpn t ht; rwa [Nat.blt_eq] at this) ⟨rfl,hf.size,fun t v hv=>hf.at_ t v (hL t v hv)⟩
    rw [← Array.foldl_toList]
    simpa using h1
   have hbusy: ∀ (c:Option Code) (b:Bool),({rec .busy none with state:=if b then .ready else .done,pending:=c}:Loop)=rec (if b then .ready else .done) c:=fun c b=>by rw [hrec]
   have hend: ∀ (c:Option Code) (w1:World) (C':List aD) (S:BS),St S W (g5 (w.heap.size+1) (.loop (rec .busy none))::C') w1→
    ∃ w2,(Instr.endRound (w.heap.size+1) c).run E.P w1= .ok (.bool c.isNone) w2∧St S W (g5 (w.heap.size+1) (.loop (rec (if c.isNone then .ready else .done) c))::C') w2:=fun c w1 C' S hs1=>by
    have hl1:w1.heap[w.heap.size+1]? =some (.loop (rec .busy none)):=hs1.holds _ (List.mem_cons_self ..)
    refine ⟨_,run_endRound c hl1,?_⟩
    have:=hs1.uG (b:=w.heap.size+1) (A':=g5 (w.heap.size+1) (.loop (rec (if c.isNone then .ready else .done) c))) 0 rfl rfl rfl (gl _) (fun _ h=>h) (World.putObj_heap_same (da hl1))
    rw [hbusy]
    exact this
   refine round k x k' y (w.heap.size+1) (rec .ready none) (rec .busy none) ⟨A.wf,A.dL⟩ W _ (roundPost E.P (w.heap.size+1) (fun e w'=>(e= .returned (.bool true)∧ ∃ B,J k' B∧Mv A B W w')∨(e= .returned (.bool false)∧ ∃ B,Z B∧Mv A B W w'))) (Nat.le_trans (Nat.le_trans hst.keeps.size (by rw [← hW1]; simp; omega)) hWs) hx hy ?_ ?_ ?_ ?_ _ _ hfr (St.vW hA)
   ·intro L' C' hW a1 w1 hf1 hs1
    have hl1:w1.heap[w.heap.size+1]? =some (.loop (rec .ready none)):=hs1.holds _ (List.mem_cons_self ..)
    refine ⟨_,run_beginRound hl1 (by rw [hrec]),hW _ _ hf1 ?_⟩
    have:=hs1.uG (b:=w.heap.size+1) (A':=g5 (w.heap.size+1) (.loop (rec .busy none))) 0 rfl rfl rfl (gl _) (fun _ h=>h) (World.putObj_heap_same (da hl1))
    have e:({rec .ready none with state:= .busy}:Loop)=rec .busy none:=by rw [hrec]
    rw [e]; exact this
   ·intro y' L' C' hy' hC' a1 w1 hf1 hs1
    obtain ⟨w2,e1,e2⟩:=hend none w1 _ _ (hC' _ hs1)
    exact ⟨_,w2,e1,.inl ⟨rfl,_,⟨y',hy',rfl⟩,Mv.of e2⟩⟩
   ·intro id z L' C' hz hC' a1 w1 hf1 hs1
    obtain ⟨w2,e1,e2⟩:=hend (some (.exit id)) w1 _ _ (hC' _ hs1)
    exact ⟨_,w2,e1,.inr ⟨rfl,_,⟨_,z,.inr ⟨id,rfl⟩,hz,rfl⟩,Mv.of e2⟩⟩
   ·intro z L' C' hz hC' a1 w1 hf1 hs1
    obtain ⟨w2,e1,e2⟩:=hend (some .ret) w1 _ _ (hC' _ hs1)
    exact ⟨_,w2,e1,.inr ⟨rfl,_,⟨_,z,.inl rfl,hz,rfl⟩,Mv.of e2⟩⟩
  ·intro A hA
   obtain ⟨B,hB,hc⟩:=hCp A hA
   exact hc.holds _ (hb1.holds B (List.mem_cons_of_mem _ (List.mem_cons_of_mem _ hB)))
  ·intro A hA b hb hb'
   obtain ⟨B,hB,hc⟩:=hCp A hA
   exact ⟨(hs1 B (List.mem_cons_of_mem _ hB) b hb (hc.dL b hb')).1,fun h=>h⟩
  ·rintro e w' ⟨v,rfl,hh⟩
   have hfin:Fr E.n (iG w.heap.size::D) L0 {a with defers:=[iG w.heap.size]++a.defers}:=⟨by simp [hf.defers],hf.size,fun t v hv=>hf.at_ t v (hL t v hv)⟩
   have hleave: ∀ (st:LoopState) (c:Option Code) (C':List aD),st≠ .busy→Mv (bw (g5 (w.heap.size+1) (.loop (rec .ready none))::Ci s0 y0)) (bw (g5 (w.heap.size+1) (.loop (rec st c))::C')) W1 w'→
    ∃ w2,(Instr.endLoop (w.heap.size+1)).run E.P w'= .ok c w2∧St E.S E.w0 (g5 w.heap.size (.deferred (some []))::(F++C')) w2:=fun st c C' hne m=>by
    have h1:=(hb1.mv 0 rfl m).jW
    have h1':St E.S E.w0 ((g5 (w.heap.size+1) (.loop (rec st c))::C')++(g5 w.heap.size (.deferred (some []))::F)) w':=h1
    have hl1:w'.heap[w.heap.size+1]? =some (.loop (rec st c)):=h1'.holds (g5 (w.heap.size+1) (.loop (rec st c))) (by simp)
    refine ⟨_,by have:=run_endLoop (P:=E.P) hl1 (by rw [hrec]; exact hne); rw [this,hrec],?_⟩
    have h2:=h1'.uG (b:=w.heap.size+1) (A':=g5 (w.heap.size+1) (.loop {rec st c with state:= .exhausted})) 0 rfl rfl rfl (gl _) (fun _ h=>h) (World.putObj_heap_same (da hl1))
    have h3:St E.S E.w0 (C'++(g5 w.heap.size (.deferred (some []))::F)) _:=h2.take (List.sublist_cons_self _ _)
    rw [hrec] at h3
    refine h3.perm ?_
    exact (List.perm_append_comm).trans (by simp)
   rcases hh with ⟨s,B,hfs,⟨y,hy,rfl⟩,m⟩|⟨B,⟨c,z,hc,hz,rfl⟩,m⟩
   ·obtain ⟨w2,e1,e2⟩:=hleave .ready none _ (by simp) m
    exact ⟨none,w2,e1,fin w.heap.size s y hfs hy _ _ hfin e2⟩
   ·obtain ⟨w2,e1,e2⟩:=hleave .done (some c) _ (by simp) m
    refine ⟨some c,w2,e1,?_⟩
    rcases hc with rfl|⟨id,rfl⟩
    ·exact wpIn_ret (finr w.heap.size z hz _ _ hfin e2)
    ·exact wpIn_exit (finx w.heap.size id z hz _ _ hfin e2)
end
section
open Go.RowKit
set_option linter.unusedVariables false
section
variable {E:eu} {ops:Array Oper} {Q:cZ} {rest:List Oper} {D:List Deferred} {L:List (Nat×Value)} {C:List aD}
variable {d:Nat} {ty:TypeId} {ps:String} {af:Array Edge} {g:Option (Nat×Bool)}
theorem Ao {P:Program} {t e sz:Nat} (h:tE P t=some (e,sz)) (w:World):P.underlying t=some (.slice e)∧(sizeOf e).run P w= .ok sz w:=by
 unfold tE at h
 split at h
 ·rename_i e' hu
  split at h
  ·rename_i i hi
   cases h
   exact ⟨hu,by simp [sizeOf,typeInfo,hi]⟩
  ·cases h
 ·cases h
theorem vt {P:Program} {t e:Nat} (h:P.underlying t=some (.slice e)):P.underlying t=some (.slice (P.elem t)):=by
 rw [h]; simp [Program.elem,h]
theorem Ay {P:Program} {t e:Nat} (h:P.underlying t=some (.slice e)):P.elem t=e:=by simp [Program.elem,h]
/-- s[:k] -/
theorem G8 (k:Nat) {x hi:Operand} {t e sz n c:Nat} {A:Option Addr} {j:Int} (h:bF E.n ops L d g x hi=some (.slice A n c,.int .i64 j)) (ht:tE E.P t=some (e,sz)) (hj:j=(k:Int)) (hk:k≤c):
 SE E ops ⟨some d,.slice t x none (some hi) none,ty,ps,af,g⟩ D L C (.slice A k c) d:=by
 obtain ⟨h1,h2,h3,h4⟩:=pg h
 subst hj
 refine ⟨dF h1 (by simp) fun a w hfr hs=>?_,rfl,h2⟩
 obtain ⟨hu,hz⟩:=Ao ht w
 have hr:=run_slice_h (P:=E.P) w t A n c (vt hu) .i64 (k:Int) (by omega) (by omega)
 rw [Ay hu,hz] at hr
 have e0:(if c=0 then A else A.map (·.add (0*sz)))=A:=by
  split
  ·rfl
  ·cases A with
   |none=>rfl
   |some ad=>simp [Addr.add]
 simp only [Result.andThen,Int.toNat_natCast,sliced,e0,Nat.sub_zero] at hr
 have hs2:=run_sliceAt_slice (P:=E.P) w t (.slice A n c) none (some (.int .i64 (k:Int))) none (vt hu)
 simp [execOp,hfr.ev h3,hfr.ev h4,hs2,hr]
end
end
section
open Go.RowKit
set_option linter.unusedVariables false
/-- where a row lies, and its capacity -/
abbrev RA:=Option Addr×Nat
/-- what is asked of memory by all elements -/
def aP {M A:Type} (f:M→A→List aD):List M→List A→List aD
 |m::ms,a::asl=>f m a++aP f ms asl
 |_,_=>[]
theorem fg {M A:Type} {f:M→A→List aD}: ∀ {ms:List M} {asl:List A} {k:Nat} {m:M} {a:A} {X:aD},ms[k]? =some m→asl[k]? =some a→X∈f m a→X∈aP f ms asl
 |[],_,k,m,a,X,h,_,_=>by simp at h
 |_::_,[],k,m,a,X,_,h,_=>by simp at h
 |x::ms,y::asl,0,m,a,X,h,h2,hX=>by
  simp at h h2; subst h h2
  exact List.mem_append_left _ hX
 |x::ms,y::asl,k+1,m,a,X,h,h2,hX=>List.mem_append_right _ (fg (ms:=ms) (asl:=asl) (k:=k) (by simpa using h) (by simpa using h2) hX)
theorem my {M A:Type} {f:M→A→List aD}: ∀ {ms:List M} {asl:List A} {X:aD},X∈aP f ms asl→ ∃ (k:Nat) (m:M) (a:A),ms[k]? =some m∧asl[k]? =some a∧X∈f m a
 |[],_,X,h=>by cases h
 |_::_,[],X,h=>by cases h
 |x::ms,y::asl,X,h=>by
  rcases List.mem_append.1 h with h|h
  ·exact ⟨0,x,y,rfl,rfl,h⟩
  ·obtain ⟨k,m,a,h1,h2,h3⟩:=my h
   exact ⟨k+1,m,a,by simpa using h1,by simpa using h2,h3⟩
theorem pH {M A:Type} {f:M→A→List aD}: ∀ {ms:List M} {asl:List A} {ns:List M} {bs:List A},ms.length=asl.length→aP f (ms++ns) (asl++bs)=aP f ms asl++aP f ns bs
 |[],[],ns,bs,_=>rfl
 |[],_::_,ns,bs,h=>by simp at h
 |_::_,[],ns,bs,h=>by simp at h
 |x::ms,y::asl,ns,bs,h=>by
  simp only [List.cons_append,aP,List.append_assoc]
  rw [pH (by simpa using h)]
theorem jH {M A β:Type} {f:M→A→β} {ms:List M} {asl:List A} {k:Nat} {m:M} {a:A} (h:ms[k]? =some m) (h2:asl[k]? =some a):(List.zipWith f ms asl)[k]? =some (f m a):=by
 rw [List.getElem?_zipWith,h,h2]
theorem jI {C L:List aD} {A:aD} (i:Nat) (hC:C[i]? =some (c_ L).ro) (hm:A∈L):nj C A.holds:=fun w hw=>hw _ (List.mem_of_getElem? hC) A hm
theorem eo {M A:Type} {f g:M→A→List aD} {ms:List M} {asl:List A} {C:List aD} (i:Nat) (hC:C[i]? =some (bw (aP g ms asl))) (h: ∀ m a w,(∀ X∈g m a,X.holds w)→ ∀ X∈f m a,X.holds w):nj C (c_ (aP f ms asl)).holds:=fun w hw X hX=>by
 have hb:=hw _ (List.mem_of_getElem? hC)
 obtain ⟨k,m,a,h1,h2,h3⟩:=my hX
 exact h m a w (fun Y hY=>hb.1 Y (fg h1 h2 hY)) X h3
/-- a row that is part of another one -/
theorem AK {C:List aD} {A:Option Addr} {n k sz:Nat} {es:List (List Value)} (hR:nj C (rd A n sz es).holds) (hk:k≤n):nj C (rd A k sz (es.take k)).holds:=fun w hw=>by
 obtain ⟨h1,h2,h3⟩:=hR w hw
 refine ⟨by rw [List.length_take,h1]; omega,fun x hx=>h2 x (List.mem_of_mem_take hx),fun hp=>?_⟩
 have hk0:0<k:=Nat.pos_of_mul_pos_right hp
 have hs:0<sz:=Nat.pos_of_mul_pos_left hp
 obtain ⟨ad,hA,hc2⟩:=h3 (Nat.mul_pos (by omega) hs)
 refine ⟨ad,hA,fun i e j v he hv=>hc2 i e j v ?_ hv⟩
 rw [List.getElem?_take] at he
 split at he
 ·exact he
 ·cases he
section
variable {E:eu} {ops:Array Oper} {Q:cZ} {rest:List Oper} {D:List Deferred} {L:List (Nat×Value)} {C:List aD}
variable {d:Nat} {ty:TypeId} {ps:String} {af:Array Edge} {g:Option (Nat×Bool)}
/-- an element of a slice that is the head of a row -/
theorem G9 (k:Nat) {x ix:Operand} {A:Option Addr} {n n' c sz e t:Nat} {es:List (List Value)} {j:Int} (h:bF E.n ops L d g x ix=some (.slice A n' c,.int .i64 j)) (hR:nj C (rd A n sz es).holds)
 (ht:tE E.P t=some (e,sz)) (hz:0<sz) (hj:j=(k:Int)) (hk:k<n') (hn:n'≤n):SE E ops ⟨some d,.indexAddr t x ix,ty,ps,af,g⟩ D L C (.pointer (nP A (k*sz))) d:=IA k h (AK hR hn) ht hz hj hk
end
theorem St.tie {S:BS} {w0 w:World} {C:List aD} {A:aD} {L L':List aD} (h:St S w0 (A::bw L::C) w) (e:L++[A]=L'):St S w0 (bw L'::C) w:=by
 subst e
 have h1:St S w0 (bw L::A::C) w:=h.perm (List.Perm.swap _ _ _)
 have h2:St S w0 (L++(A::C)) w:=h1.jW
 have h3:St S w0 ((L++[A])++C) w:=by simpa using h2
 exact h3.pI
theorem St.Cc {S:BS} {w0 w:World} {C:List aD} (h:St S w0 C w):St S w0 (bw []::C) w:=St.pI (C1:=[]) h
section
variable {E:eu} {Q:cZ} {D:List Deferred} {L:List (Nat×Value)} {C:List aD}
theorem pq {c:Code} (h:WJ E c Q D L (bw []::C)):WJ E c Q D L C:=fun a w hf hs=>h a w hf hs.Cc
theorem xN {ops:Array Oper} {rest:List Oper} (h:RJ E ops Q rest D L (bw []::C)):RJ E ops Q rest D L C:=fun a w hf hs=>h a w hf hs.Cc
theorem v7 {K:Act→World→Prop} {C1:List aD} {A:aD} {X X':List aD} (i j:Nat) (hn:decide (j::i::(List.range C.length).filter fun k=>k != i&&k != j).Nodup=true) (hC:bB C (j::i::(List.range C.length).filter fun k=>k != i&&k != j)=A::bw X::C1) (e:X++[A]=X')
 (h:KJ E K D L (bw X'::C1)):KJ E K D L C:=fun a w hf hs=>h a w hf ((St.bB _ hn hC hs).tie e)
theorem BB {ops:Array Oper} {rest:List Oper} {C1:List aD} {A:aD} {X X':List aD} (i j:Nat) (hn:decide (j::i::(List.range C.length).filter fun k=>k != i&&k != j).Nodup=true) (hC:bB C (j::i::(List.range C.length).filter fun k=>k != i&&k != j)=A::bw X::C1) (e:X++[A]=X')
 (h:RJ E ops Q rest D L (bw X'::C1)):RJ E ops Q rest D L C:=fun a w hf hs=>h a w hf ((St.bB _ hn hC hs).tie e)
end
end
section
open Go.RowKit
set_option linter.unusedVariables false
abbrev kr:ab→Value:=fun s=>Value.agg (ab.cells s).toArray
abbrev cg:aq→Value:=fun s=>Value.agg (aq.cells s).toArray
abbrev TM:=List (Int×ab)
abbrev FM:=List (aq×Int)
def cb {α:Type} (m:α) (b:Nat):List Value:=[Value.map (some b)]
def gJ (m:TM) (b:Nat):List aD:=[jr iV b (bu kr m)]
def e8 (m:FM) (b:Nat):List aD:=[jr cg b (bu iV m)]
theorem gF {M A:Type} {f:M→A→List aD}: ∀ (m:M) (a:A) (w:World),(∀ X∈f m a,X.holds w)→ ∀ X∈f m a,X.holds w:=fun _ _ _ h=>h
/-- untied -/
theorem vP {E:eu} {ops:Array Oper} {Q:cZ} {rest:List Oper} {D:List Deferred} {L:List (Nat×Value)} {C X C1:List aD} (i:Nat) (hn:decide (i::(List.range C.length).filter fun k=>k != i).Nodup=true) (hC:bB C (i::(List.range C.length).filter fun k=>k != i)=bw X::C1)
 (h:RJ E ops Q rest D L (X++C1)):RJ E ops Q rest D L C:=fun a w hf hs=>h a w hf (St.jW (St.bB _ hn hC hs))
end
section
open Go.RowKit
set_option linter.unusedVariables false
/-- a map, or nil -/
def oC (o:Option Nat):List Value:=[Value.map o]
theorem sG {α:Type}: ∀ {ms:List α} {asl:List Nat},ms.length=asl.length→List.zipWith cb ms asl=(asl.map some).map oC
 |[],[],_=>rfl
 |[],_::_,h=>by simp at h
 |_::_,[],h=>by simp at h
 |x::ms,y::asl,h=>by simp only [List.zipWith_cons_cons,List.map_cons,sG (ms:=ms) (asl:=asl) (by simpa using h)]; rfl
/-- what stands for all but one -/
def eQ {M A:Type} (f:M→A→List aD) (ms:List M) (asl:List A) (k:Nat):List aD:=aP f (ms.take k) (asl.take k)++aP f (ms.drop (k+1)) (asl.drop (k+1))
theorem mU {M A:Type} {f:M→A→List aD}: ∀ {ms:List M} {asl:List A} {k:Nat} {m:M} {a:A},ms[k]? =some m→asl[k]? =some a→(aP f ms asl).Perm (f m a++eQ f ms asl k)
 |[],_,k,m,a,h,_=>by simp at h
 |_::_,[],k,m,a,_,h=>by simp at h
 |x::ms,y::asl,0,m,a,h,h2=>by
  simp at h h2; subst h h2
  simp [eQ,aP]
 |x::ms,y::asl,k+1,m,a,h,h2=>by
  have ih:=mU (f:=f) (ms:=ms) (asl:=asl) (k:=k) (by simpa using h) (by simpa using h2)
  show (f x y++aP f ms asl).Perm (f m a++eQ f (x::ms) (y::asl) (k+1))
  have e:eQ f (x::ms) (y::asl) (k+1)=f x y++eQ f ms asl k:=by simp [eQ,aP,List.append_assoc]
  rw [e]
  refine (ih.append_left (f x y)).trans ?_
  rw [← List.append_assoc,← List.append_assoc]
  exact List.perm_append_comm.append_right _
theorem xf {M A:Type} {f:M→A→List aD} {ms:List M} {asl:List A} {k:Nat} {m':M}:eQ f (ms.set k m') asl k=eQ f ms asl k:=by
 unfold eQ
 rw [List.take_set_of_le (Nat.le_refl k),List.drop_set_of_lt (Nat.lt_succ_self k)]
theorem ph {S:BS} {w0 w:World} {C X Y:List aD} (hp:X.Perm Y) (h:St S w0 (bw X::C) w):St S w0 (bw Y::C) w:=by
 have h1:St S w0 (X++C) w:=h.jW
 exact (h1.perm (hp.append_right C)).pI
theorem St.out {M A:Type} {f:M→A→List aD} {S:BS} {w0 w:World} {C:List aD} {ms:List M} {asl:List A} {k:Nat} {m:M} {a:A} {X:aD} (hm:ms[k]? =some m) (ha:asl[k]? =some a) (hf:f m a=[X]) (h:St S w0 (bw (aP f ms asl)::C) w):St S w0 (X::bw (eQ f ms asl k)::C) w:=by
 have h1:=(ph (mU hm ha) h).jW
 rw [hf] at h1
 have h2:St S w0 (eQ f ms asl k++(X::C)) w:=h1.perm (List.perm_middle (a:=X) (l₁:=eQ f ms asl k) (l₂:=C)).symm
 exact h2.pI.perm (List.Perm.swap _ _ _)
theorem St.back {M A:Type} {f:M→A→List aD} {S:BS} {w0 w:World} {C:List aD} {ms:List M} {asl:List A} {k:Nat} {m':M} {a:A} {X:aD} (hk:k<ms.length) (ha:asl[k]? =some a) (hf:f m' a=[X]) (h:St S w0 (X::bw (eQ f ms asl k)::C) w):St S w0 (bw (aP f (ms.set k m') asl)::C) w:=by
 have h1:St S w0 (bw (eQ f ms asl k)::X::C) w:=h.perm (List.Perm.swap _ _ _)
 have h2:=h1.jW
 have h3:St S w0 ((f m' a++eQ f (ms.set k m') asl k)++C) w:=by
  rw [hf,xf]
  exact h2.perm (List.perm_middle (a:=X) (l₁:=eQ f ms asl k) (l₂:=C))
 exact ph (mU (List.getElem?_set_self hk) ha).symm h3.pI
section
variable {E:eu} {ops:Array Oper} {Q:cZ} {rest:List Oper} {D:List Deferred} {L:List (Nat×Value)} {C C1:List aD}
variable {M A:Type} {f:M→A→List aD} {ms:List M} {asl:List A} {k:Nat} {m:M} {a:A} {X:aD}
theorem sa {c:Code} (i:Nat) (hm:ms[k]? =some m) (ha:asl[k]? =some a) (hf:f m a=[X]) (hn:decide (i::(List.range C.length).filter fun k=>k != i).Nodup=true) (hC:bB C (i::(List.range C.length).filter fun k=>k != i)=bw (aP f ms asl)::C1)
 (h:WJ E c Q D L (X::bw (eQ f ms asl k)::C1)):WJ E c Q D L C:=fun a w hf' hs=>h a w hf' (St.out hm ha hf (St.bB _ hn hC hs))
theorem sJ {K:Act→World→Prop} (i j:Nat) (hk:k<ms.length) (ha:asl[k]? =some a) (hf:f m a=[X]) (hn:decide (j::i::(List.range C.length).filter fun k=>k != i&&k != j).Nodup=true) (hC:bB C (j::i::(List.range C.length).filter fun k=>k != i&&k != j)=X::bw (eQ f ms asl k)::C1)
 (h:KJ E K D L (bw (aP f (ms.set k m) asl)::C1)):KJ E K D L C:=fun a w hf' hs=>h a w hf' (St.back hk ha hf (St.bB _ hn hC hs))
end
end
section
open Go.RowKit
set_option linter.unusedVariables false
structure zt (S:BS) (w0:World) (X:aD) (C0:List aD) (w:World) (S':BS):Prop where
 st:St S w0 (X::C0) w
 w_: ∀ b,S'.w b↔ ∃ A∈C0,A.wf b
theorem u1 {A B:aD} (h:uI A B):uI A.ro B:=fun b h1 h2=>⟨fun h=>h,(h b h1 h2).2⟩
theorem zn {E:eu} {c:Code} {Q:cZ} {D:List Deferred} {L:List (Nat×Value)} {C C0:List aD} {X:aD} (i:Nat) (hn:decide (i::(List.range C.length).filter fun k=>k != i).Nodup=true) (hC:bB C (i::(List.range C.length).filter fun k=>k != i)=X::C0)
 (h: ∀ w S',zt E.S E.w0 X C0 w S'→WJ ⟨E.P,E.r,E.n,S',w⟩ c Q D L (X.ro::C0)):WJ E c Q D L C:=fun a w hf hs=>by
 have h0:=St.bB _ hn hC hs
 obtain ⟨p1,p2⟩:=List.pairwise_cons.1 h0.sep
 refine h w ⟨fun b=> ∃ A∈C0,A.wf b,fun _=>True⟩ ⟨h0,fun b=>Iff.rfl⟩ a w hf ⟨cW.refl _ _,fun A hA=>?_,List.Pairwise.cons (fun B hB=>u1 (p1 B hB)) p2,fun A hA b hb=>?_,fun A hA b hb=> .inr trivial⟩
 ·rcases List.mem_cons.1 hA with rfl|hA
  ·exact h0.holds X (List.mem_cons_self ..)
  ·exact h0.holds A (List.mem_cons_of_mem _ hA)
 ·rcases List.mem_cons.1 hA with rfl|hA
  ·exact hb.elim
  ·exact .inr ⟨A,hA,hb⟩
theorem BP {E:eu} {S':BS} {w:World} {K:Act→World→Prop} {D:List Deferred} {L:List (Nat×Value)} {C0 C1 C2:List aD} {X:aD} (hz:zt E.S E.w0 X C0 w S') (is:List Nat) (hn:decide is.Nodup=true) (hC:bB C2 is=C1) (hwr:C1.all (·.wr)=true)
 (h:KJ E K D L (X::C1)):KJ ⟨E.P,E.r,E.n,S',w⟩ K D L C2:=fun a w' hf hs=>by
 have h1:=St.bB is hn hC hs
 have h0:=hz.st
 obtain ⟨p1,p2⟩:=List.pairwise_cons.1 h0.sep
 have hno: ∀ b,X.dL b→ ¬ S'.w b:=fun b hb hw=>by
  obtain ⟨A,hA,hw⟩:=(hz.w_ b).1 hw
  exact (p1 A hA b hb (A.ig b hw)).2 hw
 have hown: ∀ b,S'.w b→E.w0.heap.size≤b∨E.S.w b:=fun b hb=>by
  obtain ⟨A,hA,hw⟩:=(hz.w_ b).1 hb
  exact h0.own A (List.mem_cons_of_mem _ hA) b hw
 have hfr: ∀ A∈C1,∀ b,A.dL b→w.heap.size≤b∨S'.w b:=fun A hA b hb=>h1.own A hA b (A.whole (List.all_eq_true.1 hwr A hA) b hb)
 refine h a w' hf ⟨?_,fun A hA=>?_,List.Pairwise.cons (fun B hB b hb hb'=>?_) h1.sep,fun A hA b hb=>?_,fun A hA b hb=>?_⟩
 ·refine ⟨h1.keeps.os.trans h0.keeps.os,h1.keeps.tape.trans h0.keeps.tape,h1.keeps.output.trans h0.keeps.output,Nat.le_trans h0.keeps.size h1.keeps.size,fun k hk hn'=>?_⟩
  refine (h1.keeps.block k (Nat.lt_of_lt_of_le hk h0.keeps.size) fun hw=>?_).trans (h0.keeps.block k hk hn')
  rcases hown k hw with q|q
  ·omega
  ·exact hn' q
 ·rcases List.mem_cons.1 hA with rfl|hA
  ·have hh:=h0.holds A (List.mem_cons_self ..)
   exact A.jd w w' (fun b hb=>h1.keeps.block b (A.lt w hh b hb) (hno b hb)) hh
  ·exact h1.holds A hA
 ·exfalso
  have hl:=X.lt w (h0.holds X (List.mem_cons_self ..)) b hb
  rcases hfr B hB b hb' with q|q
  ·omega
  ·exact hno b hb q
 ·rcases List.mem_cons.1 hA with rfl|hA
  ·exact h0.own A (List.mem_cons_self ..) b hb
  ·rcases h1.own A hA b hb with q|q
   ·exact .inl (Nat.le_trans h0.keeps.size q)
   ·exact hown b q
 ·rcases List.mem_cons.1 hA with rfl|hA
  ·exact h0.seen A (List.mem_cons_self ..) b hb
  ·rcases hfr A hA b hb with q|q
   ·exact .inl (Nat.le_trans h0.keeps.size q)
   ·obtain ⟨B,hB,hw⟩:=(hz.w_ b).1 q
    exact h0.seen B (List.mem_cons_of_mem _ hB) b (B.ig b hw)
/-- put back, as it was -/
theorem wV {M A:Type} {f:M→A→List aD} {S:BS} {w0 w:World} {C:List aD} {ms:List M} {asl:List A} {k:Nat} {m:M} {a:A} {X:aD} (hm:ms[k]? =some m) (ha:asl[k]? =some a) (hf:f m a=[X]) (h:St S w0 (X::bw (eQ f ms asl k)::C) w):St S w0 (bw (aP f ms asl)::C) w:=by
 have h1:St S w0 (bw (eQ f ms asl k)::X::C) w:=h.perm (List.Perm.swap _ _ _)
 have h3:St S w0 ((f m a++eQ f ms asl k)++C) w:=by
  rw [hf]
  exact h1.jW.perm (List.perm_middle (a:=X) (l₁:=eQ f ms asl k) (l₂:=C))
 exact ph (mU hm ha).symm h3.pI
theorem yS {E:eu} {K:Act→World→Prop} {D:List Deferred} {L:List (Nat×Value)} {C C1:List aD} {M A:Type} {f:M→A→List aD} {ms:List M} {asl:List A} {k:Nat} {m:M} {a:A} {X:aD} (i j:Nat) (hm:ms[k]? =some m) (ha:asl[k]? =some a) (hf:f m a=[X])
 (hn:decide (j::i::(List.range C.length).filter fun k=>k != i&&k != j).Nodup=true) (hC:bB C (j::i::(List.range C.length).filter fun k=>k != i&&k != j)=X::bw (eQ f ms asl k)::C1)
 (h:KJ E K D L (bw (aP f ms asl)::C1)):KJ E K D L C:=fun a w hf' hs=>h a w hf' (wV hm ha hf (St.bB _ hn hC hs))
theorem ry {M A:Type} {f:M→A→List aD} {ms:List M} {asl:List A} {m:M} {a:A} {X:aD} (hl:ms.length=asl.length) (hf:f m a=[X]):aP f ms asl++[X]=aP f (ms++[m]) (asl++[a]):=by
 rw [pH hl,← hf]; simp [aP]
theorem r_ {E:eu} {K:Act→World→Prop} {D:List Deferred} {L:List (Nat×Value)} {C C1:List aD} {M A:Type} {f:M→A→List aD} {ms:List M} {asl:List A} {m:M} {a:A} {X:aD} (i j:Nat) (hf:f m a=[X])
 (hn:decide (j::i::(List.range C.length).filter fun k=>k != i&&k != j).Nodup=true) (hC:bB C (j::i::(List.range C.length).filter fun k=>k != i&&k != j)=X::bw (aP f ms asl)::C1)
 (h:KJ E K D L (bw (aP f (m::ms) (a::asl))::C1)):KJ E K D L C:=fun b w hf' hs=>by
 have h0:=St.bB _ hn hC hs
 have h1:St E.S E.w0 (bw (aP f ms asl)::X::C1) w:=h0.perm (List.Perm.swap _ _ _)
 have h2:St E.S E.w0 (aP f (m::ms) (a::asl)++C1) w:=by
  show St E.S E.w0 ((f m a++aP f ms asl)++C1) w
  rw [hf]
  exact h1.jW.perm (List.perm_middle (a:=X) (l₁:=aP f ms asl) (l₂:=C1))
 exact h b w hf' h2.pI
end
section
open Go.RowKit
set_option linter.unusedVariables false
abbrev fu (r:Nat):aD:=g5 r (.deferred (some []))
theorem z7 (rs:List Nat):(bw (rs.map fu)).wr=true:=by
 show (rs.map fu).all (·.wr)=true
 rw [List.all_eq_true]
 intro X hX
 obtain ⟨r,_,rfl⟩:=List.mem_map.1 hX
 rfl
theorem mZ {E:eu} {c:Code} {Q:cZ} {D:List Deferred} {L:List (Nat×Value)} {C:List aD} {ι:Type} (Di:ι→List Deferred) (Li:ι→List (Nat×Value)) (Ci:ι→List aD) (μ:ι→Nat) (x0:ι)
 (hD:D=Di x0) (h0:an L (Li x0)) (hC: ∀ w,St E.S E.w0 C w→St E.S E.w0 (Ci x0) w)
 (round: ∀ x (J:Act→World→Prop),(∀ y D' L' C',D'=Di y→μ y<μ x→an L' (Li y)→(∀ w,St E.S E.w0 C' w→St E.S E.w0 (Ci y) w)→KJ E J D' L' C')→WJ E c (Exit.then J Q) (Di x) (Li x) (Ci x)):WJ E (.loop c) Q D L C:=by
 intro a w hf hs
 subst hD
 have hst: ∃ x,Fr E.n (Di x) (Li x) a∧St E.S E.w0 (Ci x) w:=⟨x0,hf.sub h0,hC w hs⟩
 clear hf hs
 have key: ∀ (m:Nat) (a:Act) (w:World),(∃ x,μ x=m∧Fr E.n (Di x) (Li x) a∧St E.S E.w0 (Ci x) w)→(Code.loop c).wpIn (Fw E.r) 0 E.P Q a w:=by
  intro m a w hx
  refine wpIn_loop (fun a w=> ∃ x,Fr E.n (Di x) (Li x) a∧St E.S E.w0 (Ci x) w) (fun a w=>leastOf fun k=> ∃ x,μ x=k∧Fr E.n (Di x) (Li x) a∧St E.S E.w0 (Ci x) w) (by obtain ⟨x,_,h⟩:=hx; exact ⟨x,h⟩) ?_
  intro a w hx
  have hex: ∃ k,∃ x,μ x=k∧Fr E.n (Di x) (Li x) a∧St E.S E.w0 (Ci x) w:=by obtain ⟨x,h⟩:=hx; exact ⟨_,x,rfl,h⟩
  obtain ⟨x,hxm,hxf,hxs⟩:=(leastOf_spec hex).1
  refine round x _ ?_ a w hxf hxs
  intro y D' L' C' hD hlt hsub hcc a' w' hf' hs'
  subst hD
  refine ⟨⟨y,hf'.sub hsub,hcc _ hs'⟩,?_⟩
  rw [← hxm]
  exact Nat.lt_of_le_of_lt ((leastOf_spec ⟨_,y,rfl,hf'.sub hsub,hcc _ hs'⟩).2 _ ⟨y,rfl,hf'.sub hsub,hcc _ hs'⟩) hlt
 obtain ⟨x,h⟩:=hst
 exact key _ a w ⟨x,rfl,h⟩
theorem St.Gj {S:BS} {w0 w:World} {C X:List aD} {A:aD} (h:St S w0 (A::bw X::C) w):St S w0 (bw (A::X)::C) w:=by
 have h1:St S w0 (bw X::A::C) w:=h.perm (List.Perm.swap _ _ _)
 have h2:St S w0 ((A::X)++C) w:=h1.jW.perm (List.perm_middle (a:=A) (l₁:=X) (l₂:=C))
 exact h2.pI
theorem qS {E:eu} {K:Act→World→Prop} {D:List Deferred} {L:List (Nat×Value)} {C C1 X:List aD} {A:aD} (i j:Nat) (hn:decide (j::i::(List.range C.length).filter fun k=>k != i&&k != j).Nodup=true) (hC:bB C (j::i::(List.range C.length).filter fun k=>k != i&&k != j)=A::bw X::C1)
 (h:KJ E K D L (bw (A::X)::C1)):KJ E K D L C:=fun a w hf hs=>h a w hf ((St.bB _ hn hC hs).Gj)
theorem BJ {E:eu} {K:Act→World→Prop} {D:List Deferred} {L:List (Nat×Value)} {C:List aD} (h:KJ E K D L (bw []::C)):KJ E K D L C:=fun a w hf hs=>h a w hf hs.Cc
theorem CQ {E:eu} {K:Act→World→Prop} {D:List Deferred} {L:List (Nat×Value)} (C1 C2:List aD) (h:KJ E K D L (bw C1::C2)):KJ E K D L (C1++C2):=fun a w hf hs=>h a w hf (St.pI hs)
theorem zU {E:eu} {fn:Func} {R:Ending→World→Prop} {D:List Deferred} {L:List (Nat×Value)} {C C1:List aD} {rs:List Nat} (i:Nat) (hn:decide (i::(List.range C.length).filter fun k=>k != i).Nodup=true) (hC:bB C (i::(List.range C.length).filter fun k=>k != i)=bw (rs.map fu)::C1)
 (h:LJ E fn R D L C1):LJ E fn R (rs.map iG++D) L C:=by
 have key: ∀ rs:List Nat,LJ E fn R (rs.map iG++D) L (bw (rs.map fu)::C1):=by
  intro rs
  induction rs with
  |nil=>exact fun a w hf hs=>h a w hf (hs.take (List.sublist_cons_self _ _))
  |cons r rs ih=>
   have h2:LJ E fn R (iG r::(rs.map iG++D)) L (fu r::bw (rs.map fu)::C1):=o2 0 rfl rfl (fun a w hf hs=>ih a w hf (hs.take (List.sublist_cons_self _ _)))
   intro a w hf hs
   refine h2 a w hf ?_
   have h3:St E.S E.w0 ((fu r::rs.map fu)++C1) w:=St.jW (C1:=fu r::rs.map fu) hs
   have h4:St E.S E.w0 (rs.map fu++(fu r::C1)) w:=h3.perm (List.perm_middle (a:=fu r) (l₁:=rs.map fu) (l₂:=C1)).symm
   exact h4.pI.perm (List.Perm.swap _ _ _)
 exact fun a w hf hs=>key rs a w hf (St.bB _ hn hC hs)
theorem qc {E:eu} {fn:Func} {R:Ending→World→Prop} {L:List (Nat×Value)} {C C1:List aD} {rs:List Nat} (i:Nat) (hn:decide (i::(List.range C.length).filter fun k=>k != i).Nodup=true) (hC:bB C (i::(List.range C.length).filter fun k=>k != i)=bw (rs.map fu)::C1)
 (h:LJ E fn R [] L C1):LJ E fn R (rs.map iG) L C:=by
 have:=zU (D:=[]) i hn hC h
 rwa [List.append_nil] at this
end
section
open Go.RowKit
set_option linter.unusedVariables false
theorem g4 (fs:List FM) (fb:List Nat):(bw (aP e8 fs fb)).wr=true:=by
 show (aP e8 fs fb).all (·.wr)=true
 rw [List.all_eq_true]
 intro X hX
 obtain ⟨k,m,a,_,_,h⟩:=my hX
 simp only [e8,List.mem_singleton] at h
 subst h; rfl
theorem ik (fs:List TM) (fb:List Nat):(bw (aP gJ fs fb)).wr=true:=by
 show (aP gJ fs fb).all (·.wr)=true
 rw [List.all_eq_true]
 intro X hX
 obtain ⟨k,m,a,_,_,h⟩:=my hX
 simp only [gJ,List.mem_singleton] at h
 subst h; rfl
end
section
set_option linter.unusedVariables false
def bL (ln:aG) (rd:aN) (e:List Int) (tms:List TM):bg:=⟨rd.Start,rd.dw,e,tms,ln.aO,ln.aZ,(rd.ae.n:Int)⟩
def Bz (o:Int×ab):List Value:=[.int .i64 o.1,.agg (ab.cells o.2).toArray]
structure xA (w:bg):Prop where
 n:w.n≤6
 times:w.pG.length=w.n
 now:0≤w.Start∧w.Start≤w.dw∧w.dw≤86400000
 least: ∀ x∈w.np,1≤x∧x≤500000000
 C9: ∀ t∈w.pG,∀ p∈t,(0≤p.1∧p.1≤10)∧0≤p.2.Lo∧p.2.Lo≤p.2.Hi∧p.2.Hi≤86400000
theorem xA.opt {w:bg} (h:xA w) {b:Nat} {o:Int×ab} (ho:o∈fK w b):(-1≤o.1∧o.1≤10)∧0≤o.2.Lo∧o.2.Lo≤o.2.Hi∧o.2.Hi≤86400000:=by
 unfold fK og at ho
 rcases List.mem_cons.1 ho with rfl|ho
 ·have:=h.now; simp only; omega
 ·cases ht:w.pG[b]? with
  |none=>simp [ht] at ho
  |some t=>
   rw [ht] at ho
   have:=h.C9 t (List.mem_of_getElem? ht) o ho
   omega
theorem xA.bU {w:bg} (h:xA w) (b:Nat):0≤bU w b∧bU w b≤500000000:=by
 unfold Go.Proofs.YthiigjekcdjkkaaGreat.bU
 cases ht:w.np[b]? with
 |none=>simp
 |some x=>have:=h.least x (List.mem_of_getElem? ht); simp only [Option.getD_some]; omega
theorem p_ (s:Int):(0≤(dI s).right∧0≤(dI s).dn)∧(dI s).right+(dI s).dn=1:=by unfold dI; split<;>simp
theorem xU {w:bg} (h:xA w): ∀ (b:Nat) p,p∈fwd w b→(0≤p.2∧p.2≤86400000)∧(0≤p.1.right∧0≤p.1.dn)∧p.1.right+p.1.dn=(b:Int):=by
 intro b
 induction b with
 |zero=>
  intro p hp
  simp only [fwd,List.mem_singleton] at hp
  subst hp
  have:=h.now; simp only; omega
 |succ b ih=>
  intro q hq
  obtain ⟨p,hp,o,ho,e⟩:=ep.1 hq
  have h1:=ih p hp
  have h2:=h.opt ho
  have h3:=h.bU b
  have h4:=h.now
  have h5:=p_ o.1
  unfold iE at e
  split at e
  ·simp only [Option.some.injEq] at e
   subst e
   simp only [dc]
   omega
  ·cases e
theorem Ev {w:bg} (h:xA w): ∀ (k:Nat) p,p∈bwd w k→(-(500000000*(k:Int))≤p.2∧p.2≤86400000)∧(0≤p.1.right∧0≤p.1.dn)∧p.1.right+p.1.dn≤(k:Int):=by
 intro k
 induction k with
 |zero=>
  intro p hp
  simp only [bwd,List.mem_singleton] at hp
  subst hp
  have:=h.now; simp only; omega
 |succ k ih=>
  intro q hq
  simp only [bwd,List.mem_cons,List.mem_flatMap,List.mem_filterMap] at hq
  rcases hq with rfl|⟨p,hp,o,ho,e⟩
  ·have:=h.now; simp only; omega
  ·have h1:=ih p hp
   have h2:=h.opt ho
   have h3:=h.bU (w.n-(k+1))
   have h4:=h.now
   have h5:=p_ o.1
   unfold kh at e
   split at e
   ·simp only [Option.some.injEq] at e
    subst e
    simp only [dc]
    omega
   ·cases e
theorem ya {w:bg} (h:xA w) {b:Nat} {p:aq×Int} (hp:p∈back w b):(-3000000000≤p.2∧p.2≤86400000)∧(0≤p.1.right∧0≤p.1.dn)∧p.1.right+p.1.dn≤6:=by
 have:=Ev h _ _ hp
 have:=h.n
 omega
theorem qM {w:bg} {b:Nat} {t:TM} (ht:w.pG[b]? =some t) {o:Int×ab}:o∈fK w b↔o=(-1,⟨w.Start,w.dw⟩)∨o∈t:=by
 unfold fK og; rw [ht]; simp
theorem iZ {K β:Type} [DecidableEq K] {l:List (K×β)} {x:K} {y:β} (hn:(l.map (·.1)).Nodup) (hm:(x,y)∈l) {o:K×β} (h:o∈l):o∈cL l x∨o=(x,y):=by
 by_cases e:o.1=x
 ·right
  obtain ⟨k,v⟩:=o
  simp only at e
  subst e
  have h1:=(jt hn).1 h
  have h2:=(jt hn).1 hm
  rw [h1] at h2
  cases h2; rfl
 ·exact .inl (rQ.2 ⟨h,e⟩)
theorem wh {K β:Type} [DecidableEq K] {t l ys:List (K×β)} {x:K} {y:β} (hn:(l.map (·.1)).Nodup) (hm:(x,y)∈l) (h: ∀ o∈t,o∈l∨o∈ys): ∀ o∈t,o∈cL l x∨o∈ys++[(x,y)]:=fun o ho=>by
 rcases h o ho with h|h
 ·rcases iZ hn hm h with h|h
  ·exact .inl h
  ·exact .inr (by simp [h])
 ·exact .inr (by simp [h])
theorem jw {K β:Type} [DecidableEq K] {t l:List (K×β)} {x:K} (h: ∀ o∈l,o∈t): ∀ o∈cL l x,o∈t:=fun o ho=>h o (rQ.1 ho).1
theorem xJ {w:bg} {m left:List (aq×Int)} (h: ∀ p∈m,p∈left∨kj w p.1=false) (h0:left=[]):hG w m=false:=by
 unfold hG
 rw [List.any_eq_false]
 intro p hp
 rcases h p hp with q|q
 ·rw [h0] at q; cases q
 ·simp [q]
theorem zQ {w:bg} {m:List (aq×Int)} {p:aq×Int} (hp:p∈m) (h:kj w p.1=true):hG w m=true:=List.any_eq_true.2 ⟨p,hp,h⟩
theorem xO {w:bg} {m left:List (aq×Int)} {t:aq} {v:Int} (hn:(left.map (·.1)).Nodup) (hm:(t,v)∈left) (h: ∀ p∈m,p∈left∨kj w p.1=false) (hf:kj w t=false): ∀ p∈m,p∈cL left t∨kj w p.1=false:=fun p hp=>by
 rcases h p hp with q|q
 ·rcases iZ hn hm q with q|q
  ·exact .inl q
  ·right; rw [q]; exact hf
 ·exact .inr q
/-- what the maps of a watch are -/
structure pE (w:bg) (fs:List (List (aq×Int))):Prop where
 len:fs.length=w.n+1
 min: ∀ (b:Nat) m,fs[b]? =some m→nq m (fwd w b)
 keys: ∀ (b:Nat) m,fs[b]? =some m→(m.map (·.1)).Nodup
structure nN (w:bg) (bs:List (List (aq×Int))):Prop where
 len:bs.length=w.n+1
 max: ∀ (b:Nat) m,bs[b]? =some m→oj m (back w b)
 keys: ∀ (b:Nat) m,bs[b]? =some m→(m.map (·.1)).Nodup
theorem pE.mem {w:bg} {fs:List (List (aq×Int))} (h:pE w fs) {b:Nat} {m:List (aq×Int)} (hm:fs[b]? =some m) {p:aq×Int} (hp:p∈m):p∈fwd w b:=(h.min b m hm).1 _ _ ((dE (h.keys b m hm)).1 hp)
theorem nN.mem {w:bg} {fs:List (List (aq×Int))} (h:nN w fs) {b:Nat} {m:List (aq×Int)} (hm:fs[b]? =some m) {p:aq×Int} (hp:p∈m):p∈back w b:=(h.max b m hm).1 _ _ ((dE (h.keys b m hm)).1 hp)
theorem w8 {w:bg} {b:Nat} {t l ys:List (Int×ab)} (ht:w.pG[b]? =some t) (h: ∀ o∈t,o∈l∨o∈ys) (h0:l=[]) (hs:(-1,(⟨w.Start,w.dw⟩:ab))∈ys): ∀ o∈fK w b,o∈ys:=fun o ho=>by
 rcases (qM ht).1 ho with rfl|ho
 ·exact hs
 ·rcases h o ho with q|q
  ·rw [h0] at q; cases q
  ·exact q
end
section
set_option linter.unusedVariables false
/-- by these options all is yielded -/
def iT (w:bg) (b:Nat) (mf mb:List (aq×Int)) (os ys:List (Int×ab)):Prop:= ∀ o∈os,∀ p∈mf,∀ u∈mb,∀ q,jn w b p u o=some q→q∈ys
def kf (w:bg) (b:Nat) (mf mb:List (aq×Int)) (o:Int×ab) (left:List (aq×Int)) (ys:List (Int×ab)):Prop:= ∀ p∈mf,p∈left∨ ∀ u∈mb,∀ q,jn w b p u o=some q→q∈ys
def j1 (w:bg) (b:Nat) (mb:List (aq×Int)) (o:Int×ab) (p:aq×Int) (left:List (aq×Int)) (ys:List (Int×ab)):Prop:= ∀ u∈mb,u∈left∨ ∀ q,jn w b p u o=some q→q∈ys
variable {w:bg} {b:Nat} {mf mb left:List (aq×Int)} {o x:Int×ab} {os ys:List (Int×ab)} {p u:aq×Int}
theorem iT.nil:iT w b mf mb [] ys:=fun o ho=>by cases ho
theorem iT.app (h:iT w b mf mb os ys):iT w b mf mb os (ys++[x]):=fun o ho p hp u hu q e=>List.mem_append_left _ (h o ho p hp u hu q e)
theorem kf.app (h:kf w b mf mb o left ys):kf w b mf mb o left (ys++[x]):=fun p hp=>(h p hp).imp id fun h u hu q e=>List.mem_append_left _ (h u hu q e)
theorem kf.start:kf w b mf mb o mf ys:=fun p hp=> .inl hp
theorem j1.start:j1 w b mb o p mb ys:=fun p hp=> .inl hp
theorem j1.skip {t:aq} {v:Int} (hn:(left.map (·.1)).Nodup) (hm:(t,v)∈left) (h:j1 w b mb o p left ys) (he:jn w b p (t,v) o=none):j1 w b mb o p (cL left t) ys:=fun u hu=>by
 rcases h u hu with q|q
 ·rcases iZ hn hm q with q|q
  ·exact .inl q
  ·right; intro z hz; rw [q,he] at hz; cases hz
 ·exact .inr q
theorem j1.Gu {t:aq} {v:Int} (hn:(left.map (·.1)).Nodup) (hm:(t,v)∈left) (h:j1 w b mb o p left ys) (he:jn w b p (t,v) o=some x):j1 w b mb o p (cL left t) (ys++[x]):=fun u hu=>by
 rcases h u hu with q|q
 ·rcases iZ hn hm q with q|q
  ·exact .inl q
  ·right; intro z hz; rw [q,he] at hz; cases hz; simp
 ·right; intro z hz; exact List.mem_append_left _ (q z hz)
theorem kf.next {t:aq} {v:Int} {l2:List (aq×Int)} (hn:(left.map (·.1)).Nodup) (hm:(t,v)∈left) (h:kf w b mf mb o left ys) (hq:j1 w b mb o (t,v) l2 ys) (h0:l2=[]):kf w b mf mb o (cL left t) ys:=fun p hp=>by
 rcases h p hp with q|q
 ·rcases iZ hn hm q with q|q
  ·exact .inl q
  ·right; intro u hu z hz; subst q
   rcases hq u hu with q|q
   ·rw [h0] at q; cases q
   ·exact q z hz
 ·exact .inr q
theorem iT.next (h:iT w b mf mb os ys) (hp:kf w b mf mb o left ys) (h0:left=[]):iT w b mf mb (os++[o]) ys:=fun o' ho p hp' u hu q e=>by
 rcases List.mem_append.1 ho with ho|ho
 ·exact h o' ho p hp' u hu q e
 ·simp only [List.mem_singleton] at ho; subst ho
  rcases hp p hp' with z|z
  ·rw [h0] at z; cases z
  ·exact z u hu q e
theorem iT.fin (h:iT w b mf mb os ys) (ho: ∀ o∈fK w b,o∈os): ∀ q∈jE w b mf mb,q∈ys:=fun q hq=>by
 obtain ⟨o,h1,p,h2,u,h3,e⟩:=fo.1 hq
 exact h o (ho o h1) p h2 u h3 q e
theorem w4 (h:max (p.2+bU w b) o.2.Lo≤min u.2 o.2.Hi) (h2:kj w (dc (dc p.1 u.1) (dI o.1))=true):jn w b p u o=some (o.1,⟨max (p.2+bU w b) o.2.Lo,min u.2 o.2.Hi⟩):=by
 unfold jn gQ qp; rw [if_pos ⟨h,h2⟩]
theorem ze (h: ¬ max (p.2+bU w b) o.2.Lo≤min u.2 o.2.Hi):jn w b p u o=none:=by
 unfold jn gQ; rw [if_neg (fun q=>h q.1)]
theorem rZ (h2:kj w (dc (dc p.1 u.1) (dI o.1))=false):jn w b p u o=none:=by
 unfold jn qp; rw [if_neg (fun q=>by rw [h2] at q; exact absurd q.2 (by decide))]
theorem jX {v:Int} (h:w.np[b]? =some v):bU w b=v:=by unfold bU; rw [h]; rfl
theorem uz {t q:aq} {v z y:Int} (hy:w.np[b]? =some y) (h:max (v+y) o.2.Lo≤min z o.2.Hi) (h2:kj w (dc (dc t q) (dI o.1))=true):jn w b (t,v) (q,z) o=some (o.1,⟨max (v+y) o.2.Lo,min z o.2.Hi⟩):=by
 have e:=jX hy
 subst e
 exact w4 h h2
theorem rK {t q:aq} {v z y:Int} (hy:w.np[b]? =some y) (h: ¬ max (v+y) o.2.Lo≤min z o.2.Hi):jn w b (t,v) (q,z) o=none:=by
 have e:=jX hy
 subst e
 exact ze h
theorem kx {m:List (aq×Int)} {k:aq} {y:Int} (h:(m.map (·.1)).Nodup):((dz m k y).map (·.1)).Nodup:=by
 unfold dz
 by_cases hx:(m.lookup k).isSome
 ·rw [if_pos hx,List.map_map]
  have e:m.map ((fun p=>p.1)∘fun p=>if p.1=k then (k,y) else p)=m.map (·.1):=by
   apply List.map_congr_left
   intro p _
   simp only [Function.comp]
   split
   ·rename_i e; exact e.symm
   ·rfl
  rw [e]; exact h
 ·rw [if_neg hx,List.map_append,List.nodup_append]
  refine ⟨h,by simp,?_⟩
  intro a ha c hc
  simp only [List.map_cons,List.map_nil,List.mem_singleton] at hc
  rw [hc]
  obtain ⟨p,hp,rfl⟩:=List.mem_map.1 ha
  have hn:m.lookup k=none:=by cases h0:m.lookup k with
   |none=>rfl
   |some v=>exact absurd (by rw [h0]; rfl) hx
  exact fy.1 hn p hp
theorem tu {m:List (aq×Int)} {q:aq×Int} (h:(m.map (·.1)).Nodup):((lh m q).map (·.1)).Nodup:=by
 unfold lh; split
 ·exact kx h
 ·split
  ·exact kx h
  ·exact h
theorem uj {m:List (aq×Int)} {q:aq×Int} (h:(m.map (·.1)).Nodup):((kW m q).map (·.1)).Nodup:=by
 unfold kW; split
 ·exact kx h
 ·split
  ·exact kx h
  ·exact h
/-- a map of the first times, on its way -/
structure qk (w:bg) (b:Nat) (m:List (aq×Int)):Prop where
 snd:pD m (fwd w (b+1))
 keys:(m.map (·.1)).Nodup
structure pO (w:bg) (b:Nat) (m:List (aq×Int)):Prop where
 snd:pD m (back w b)
 keys:(m.map (·.1)).Nodup
 zero: ∃ v,m.lookup ⟨0,0⟩=some v∧w.dw≤v
theorem yM (h:max (p.2+bU w b) o.2.Lo≤min o.2.Hi w.dw):iE w b p o=some (dc p.1 (dI o.1),max (p.2+bU w b) o.2.Lo):=by unfold iE; rw [if_pos h]
theorem Al (h: ¬ max (p.2+bU w b) o.2.Lo≤min o.2.Hi w.dw):iE w b p o=none:=by unfold iE; rw [if_neg h]
theorem yo (h:o.2.Lo≤min p.2 o.2.Hi):kh w b p o=some (dc p.1 (dI o.1),min p.2 o.2.Hi-bU w b):=by unfold kh; rw [if_pos h]
theorem pW (h: ¬ o.2.Lo≤min p.2 o.2.Hi):kh w b p o=none:=by unfold kh; rw [if_neg h]
theorem qk.start:qk w b []:=⟨fun t v h=>by simp at h,List.nodup_nil⟩
theorem qk.add {m:List (aq×Int)} {q:aq×Int} (h:qk w b m) (hp:p∈fwd w b) (ho:o∈fK w b) (he:iE w b p o=some q):qk w b (lh m q):=⟨wF h.snd (ep.2 ⟨p,hp,o,ho,he⟩),tu h.keys⟩
theorem pO.start (hb:b<w.n):pO w b [(⟨0,0⟩,w.dw)]:=⟨fun t v h=>by
 obtain ⟨rfl,rfl⟩:=kM.1 h
 exact (lf hb).2 (.inl rfl),by simp,w.dw,kM.2 ⟨rfl,rfl⟩,Int.le_refl _⟩
theorem pO.add {m:List (aq×Int)} {q:aq×Int} (hb:b<w.n) (h:pO w b m) (hp:p∈back w (b+1)) (ho:o∈fK w b) (he:kh w b p o=some q):pO w b (kW m q):=⟨wa h.snd ((lf hb).2 (.inr ⟨p,hp,o,ho,he⟩)),uj h.keys,by
 obtain ⟨v,h1,h2⟩:=h.zero
 obtain ⟨v',h3,h4⟩:=mc (q:=q) _ _ h1
 exact ⟨v',h3,by omega⟩⟩
theorem fX.none_ {m:List (aq×Int)} (h:fX w b m p os) (he:iE w b p o=none):fX w b m p (os++[o]):=h.add (qT.refl _) fun q hq=>by rw [he] at hq; cases hq
theorem fX.zi {m:List (aq×Int)} {q:aq×Int} (h:fX w b m p os) (he:iE w b p o=some q):fX w b (lh m q) p (os++[o]):=h.add pz fun q' hq=>by rw [he] at hq; cases hq; exact wL
theorem fW.none_ {m:List (aq×Int)} (h:fW w b m p os) (he:kh w b p o=none):fW w b m p (os++[o]):=h.add (qy.refl _) fun q hq=>by rw [he] at hq; cases hq
theorem fW.zi {m:List (aq×Int)} {q:aq×Int} (h:fW w b m p os) (he:kh w b p o=some q):fW w b (kW m q) p (os++[o]):=h.add mc fun q' hq=>by rw [he] at hq; cases hq; exact wQ
/-- what of a map of the beam before is used already -/
def gS (w:bg) (b:Nat) (mb m left:List (aq×Int)):Prop:= ∀ p∈mb,p∈left∨fX w b m p (fK w b)
def gL (w:bg) (b:Nat) (mb m left:List (aq×Int)):Prop:= ∀ p∈mb,p∈left∨fW w b m p (fK w b)
theorem gS.start {m:List (aq×Int)}:gS w b mb m mb:=fun p hp=> .inl hp
theorem gL.start {m:List (aq×Int)}:gL w b mb m mb:=fun p hp=> .inl hp
theorem gS.lower {m m':List (aq×Int)} (h:gS w b mb m left) (hl:qT m m'):gS w b mb m' left:=fun p hp=>(h p hp).imp id fun h=>h.lower hl
theorem gL.upper {m m':List (aq×Int)} (h:gL w b mb m left) (hl:qy m m'):gL w b mb m' left:=fun p hp=>(h p hp).imp id fun h=>h.upper hl
theorem gS.next {m:List (aq×Int)} {t:aq} {v:Int} (hn:(left.map (·.1)).Nodup) (hm:(t,v)∈left) (h:gS w b mb m left) (hd:fX w b m (t,v) os) (ho: ∀ o∈fK w b,o∈os):gS w b mb m (cL left t):=fun p hp=>by
 rcases h p hp with q|q
 ·rcases iZ hn hm q with q|q
  ·exact .inl q
  ·right; rw [q]; exact hd.sub ho
 ·exact .inr q
theorem gL.next {m:List (aq×Int)} {t:aq} {v:Int} (hn:(left.map (·.1)).Nodup) (hm:(t,v)∈left) (h:gL w b mb m left) (hd:fW w b m (t,v) os) (ho: ∀ o∈fK w b,o∈os):gL w b mb m (cL left t):=fun p hp=>by
 rcases h p hp with q|q
 ·rcases iZ hn hm q with q|q
  ·exact .inl q
  ·right; rw [q]; exact hd.sub ho
 ·exact .inr q
theorem gS.fin {m:List (aq×Int)} (h:gS w b mb m left) (h0:left=[]): ∀ p∈mb,fX w b m p (fK w b):=fun p hp=>by
 rcases h p hp with q|q
 ·rw [h0] at q; cases q
 ·exact q
theorem gL.fin {m:List (aq×Int)} (h:gL w b mb m left) (h0:left=[]): ∀ p∈mb,fW w b m p (fK w b):=fun p hp=>by
 rcases h p hp with q|q
 ·rw [h0] at q; cases q
 ·exact q
end
section
set_option linter.unusedVariables false
def fZ (a b:ab):ab:=⟨a.Lo+b.Lo,a.Hi+b.Hi⟩
def gP:ab:=⟨0,0⟩
def fR (a:ab) (l:List ab):ab:=l.foldl fZ a
def iS (z:ab):Prop:=(-1000000000≤z.Lo∧z.Lo≤1000000000)∧ -1000000000≤z.Hi∧z.Hi≤1000000000
theorem rR {a:ab} {l:List ab} {i:Nat} {z:ab} (h:l[i]? =some z):fR a (l.take (i+1))=fZ (fR a (l.take i)) z:=by
 rw [List.take_add_one,h]; unfold fR; simp
theorem CE {a:ab} {l:List ab} (ha:iS a) (hl: ∀ z∈l,iS z): ∀ i:Nat,(-1000000000-1000000000*(i:Int)≤(fR a (l.take i)).Lo∧(fR a (l.take i)).Lo≤1000000000+1000000000*(i:Int))∧ -1000000000-1000000000*(i:Int)≤(fR a (l.take i)).Hi∧(fR a (l.take i)).Hi≤1000000000+1000000000*(i:Int):=by
 intro i
 induction i with
 |zero=>unfold iS at ha; simp [fR]; omega
 |succ i ih=>
  cases h:l[i]? with
  |none=>rw [List.take_add_one,h]; simp only [Option.toList_none,List.append_nil]; omega
  |some z=>
   have hz:=hl z (List.mem_of_getElem? h)
   unfold iS at hz
   rw [rR h]
   simp only [fZ]
   omega
theorem za {a:ab} {l:List ab} {i:Nat} (h:l.length≤i):fR a (l.take i)=fR a l:=by rw [List.take_of_length_le h]
theorem kd {a z:ab}:Value.agg (ab.cells (fR a [z])).toArray=Value.agg (ab.cells (fZ a z)).toArray:=rfl
theorem tw {a y z:ab}:Value.agg (ab.cells (fR a [y,z])).toArray=Value.agg (ab.cells (fZ (fZ a y) z)).toArray:=rfl
/-- how long the run is from one mark, over so many stretches; by how much it falls -/
def bS (ts:List ah) (f:Nat):Nat→ab
 |0=>gP
 |k+1=>match ts[f+k]? with
  |some x=>fZ (bS ts f k) x.g7
  |none=>bS ts f k
def du (ts:List ah) (f:Nat):Nat→ab
 |0=>gP
 |k+1=>match ts[f+k]? with
  |some x=>fZ (du ts f k) x.iL
  |none=>du ts f k
theorem lz {ts:List ah} {f k:Nat} {x:ah} (h:ts[f+k]? =some x):bS ts f (k+1)=fZ (bS ts f k) x.g7:=by simp [bS,h]
theorem lH {ts:List ah} {f k:Nat} {x:ah} (h:ts[f+k]? =some x):du ts f (k+1)=fZ (du ts f k) x.iL:=by simp [du,h]
theorem jl {ts:List ah} (ht: ∀ x∈ts,a5 x) (f:Nat): ∀ k:Nat,(0≤(bS ts f k).Lo∧(bS ts f k).Lo≤(bS ts f k).Hi)∧(bS ts f k).Hi≤30000*(k:Int):=by
 intro k
 induction k with
 |zero=>simp [bS,gP]
 |succ k ih=>
  simp only [bS]
  cases h:ts[f+k]? with
  |none=>simp only; omega
  |some x=>
   have hx:=(ht x (List.mem_of_getElem? h)).2.1
   simp only [cG] at hx
   simp only [fZ]
   omega
theorem vO {ts:List ah} (ht: ∀ x∈ts,a5 x) (f:Nat): ∀ k:Nat,(0≤(du ts f k).Lo∧(du ts f k).Lo≤(du ts f k).Hi)∧(du ts f k).Hi≤5000*(k:Int):=by
 intro k
 induction k with
 |zero=>simp [du,gP]
 |succ k ih=>
  simp only [du]
  cases h:ts[f+k]? with
  |none=>simp only; omega
  |some x=>
   have hx:=(ht x (List.mem_of_getElem? h)).2.2.1
   simp only [cG] at hx
   simp only [fZ]
   omega
theorem mL {ts:List ah} (ht: ∀ x∈ts,a5 x) {f k:Nat} (hk:k≤13):iS (bS ts f k):=by
 have:=jl ht f k; unfold iS; omega
theorem q8 {ts:List ah} (ht: ∀ x∈ts,a5 x) {f k:Nat} (hk:k≤13):iS (du ts f k):=by
 have:=vO ht f k; unfold iS; omega
theorem pa {x:ah} (h:a5 x):iS x.g7:=by have:=h.2.1; simp only [cG] at this; unfold iS; omega
theorem oX {x:ah} (h:a5 x):iS x.iL:=by have:=h.2.2.1; simp only [cG] at this; unfold iS; omega
theorem gi {ts:List ah} (h: ¬ (if bY ts=true then (0:Int) else 10)=0):bY ts=false∧(if bY ts=true then (0:Int) else 10)=10:=by
 cases ht:bY ts with
 |true=>rw [ht] at h; exact absurd rfl h
 |false=>exact ⟨rfl,rfl⟩
theorem vh {ts:List ah} (h:(if bY ts=true then (0:Int) else 10)=0):bY ts=true:=by
 cases ht:bY ts with
 |true=>rfl
 |false=>rw [ht] at h; exact absurd h (by decide)
/-- what the iterator of marks yields -/
def n9 (ts:List ah) (f:Nat):List (List Value):=(List.range (ts.length-f+1)).map fun (k:Nat)=>[.agg (bS ts f k).cells.toArray,.agg (du ts f k).cells.toArray]
theorem oo {ts:List ah} {f:Nat}:(n9 ts f).length=ts.length-f+1:=by simp [n9]
theorem rJ {ts:List ah} {f k:Nat} (h:k≤ts.length-f):(n9 ts f)[k]? =some [.agg (bS ts f k).cells.toArray,.agg (du ts f k).cells.toArray]:=by
 simp [n9,List.getElem?_range (show k<ts.length-f+1 by omega)]
theorem wC {ts:List ah} {f k:Nat} {x:List Value} (h:(n9 ts f)[k]? =some x):k≤ts.length-f∧x=[.agg (bS ts f k).cells.toArray,.agg (du ts f k).cells.toArray]:=by
 have hi:k<ts.length-f+1:=by
  have:=(List.getElem?_eq_some_iff.1 h).1
  simpa [n9] using this
 rw [rJ (by omega)] at h
 exact ⟨by omega,(Option.some.inj h).symm⟩
theorem vo {ts:List ah} {f:Nat}: ∀ x∈n9 ts f,x.length=2:=fun x hx=>by
 obtain ⟨k,_,rfl⟩:=List.mem_map.1 hx; rfl
end
section
set_option linter.unusedVariables false
def dB (ts:List ah) (s:br):Prop:=(0≤s.aj∧s.aj<(ts.length:Int))∧ ∃ x,ts[s.aj.toNat]? =some x∧cG s.dU 0 (x.g7.Lo-1)
noncomputable instance (ts:List ah) (s:br):Decidable (dB ts s):=Classical.propDecidable _
theorem oy {ts:List ah} {s:br} {x:ah} (h:0≤s.aj∧s.aj<(ts.length:Int)) (hx:ts[s.aj.toNat]? =some x):dB ts s↔cG s.dU 0 (x.g7.Lo-1):=
 ⟨fun h2=>by obtain ⟨y,hy,h3⟩:=h2.2; rw [hx] at hy; cases hy; exact h3,fun h2=>⟨h,x,hx,h2⟩⟩
theorem oa {ts:List ah} {s:br} (h: ¬ (0≤s.aj∧s.aj<(ts.length:Int))): ¬ dB ts s:=fun h2=>h h2.1
theorem sf {ts:List ah} {s:br} (ht: ∀ x∈ts,a5 x) (h:dB ts s):(0≤s.dU.Lo∧s.dU.Lo≤s.dU.Hi)∧s.dU.Hi≤30000:=by
 obtain ⟨x,hx,h2⟩:=h.2
 have:=(ht x (List.mem_of_getElem? hx)).2.1
 simp only [cG] at h2 this
 omega
theorem vl {ts:List ah} {a:br}:Value.bool (decide (∀ s∈[a],dB ts s))=Value.bool (decide (dB ts a)):=congrArg _ (decide_eq_decide.2 (by simp))
theorem uT {ts:List ah} {a b:br}:Value.bool (decide (∀ s∈[a,b],dB ts s))=Value.bool (decide (dB ts a∧dB ts b)):=congrArg _ (decide_eq_decide.2 (by simp))
def gD (z:ab):ab:=⟨-z.Hi,-z.Lo⟩
def xz (ts:List ah) (s:br):ab:=fZ (bS ts 0 s.aj.toNat) s.dU
noncomputable def qg (ts:List ah) (s:br):Int:=if bY ts=true then (if dB ts s then 0 else 12) else 10
noncomputable def s_ (ts:List ah) (s:br):ab:=if qg ts s=0 then xz ts s else gP
theorem lI {ts:List ah} {s:br} (h:bY ts=false):qg ts s=10∧s_ ts s=gP:=by
 have e:qg ts s=10:=by unfold qg; rw [h]; rfl
 exact ⟨e,by unfold s_; rw [e]; rfl⟩
theorem lQ {ts:List ah} {s:br} (h:bY ts=true) (h2: ¬ dB ts s):qg ts s=12∧s_ ts s=gP:=by
 have e:qg ts s=12:=by unfold qg; rw [if_pos h,if_neg h2]
 exact ⟨e,by unfold s_; rw [e]; rfl⟩
theorem kS {ts:List ah} {s:br} (h:bY ts=true) (h2:dB ts s):qg ts s=0∧s_ ts s=xz ts s:=by
 have e:qg ts s=0:=by unfold qg; rw [if_pos h,if_pos h2]
 exact ⟨e,if_pos e⟩
theorem p8 {ts:List ah} {s:br} (h:bY ts=true):qg ts s=0↔dB ts s:=by
 unfold qg; rw [if_pos h]; split<;>simp [*]
def mz (ts:List ah) (a b:br):ab:=bS ts (min a.aj b.aj).toNat (max a.aj b.aj-min a.aj b.aj).toNat
def e_ (ts:List ah) (a b:br):ab:=fZ (fZ (if b.aj<a.aj then gD (mz ts a b) else mz ts a b) b.dU) (gD a.dU)
noncomputable def eM (ts:List ah) (a b:br):Int:=if bY ts=true then (if dB ts a∧dB ts b then 0 else 12) else 10
noncomputable def dp (ts:List ah) (a b:br):ab:=if eM ts a b=0 then e_ ts a b else gP
theorem eW {ts:List ah} {a b:br} (h:bY ts=false):eM ts a b=10∧dp ts a b=gP:=by
 have e:eM ts a b=10:=by unfold eM; rw [h]; rfl
 exact ⟨e,by unfold dp; rw [e]; rfl⟩
theorem eY {ts:List ah} {a b:br} (h:bY ts=true) (h2: ¬ (dB ts a∧dB ts b)):eM ts a b=12∧dp ts a b=gP:=by
 have e:eM ts a b=12:=by unfold eM; rw [if_pos h,if_neg h2]
 exact ⟨e,by unfold dp; rw [e]; rfl⟩
theorem cj {ts:List ah} {a b:br} (h:bY ts=true) (h2:dB ts a∧dB ts b):eM ts a b=0∧dp ts a b=e_ ts a b:=by
 have e:eM ts a b=0:=by unfold eM; rw [if_pos h,if_pos h2]
 exact ⟨e,if_pos e⟩
theorem sB {z:ab} (h:iS z):iS (gD z):=by unfold iS gD at *; simp only; omega
theorem l_ {ts:List ah} {s:br} (ht: ∀ x∈ts,a5 x) (h:dB ts s):iS s.dU:=by have:=sf ht h; unfold iS; omega
theorem Cv {ts:List ah} {a b:br} (ht: ∀ x∈ts,a5 x) (hl:ts.length≤12) (ha:dB ts a) (hb:dB ts b):(0≤(mz ts a b).Lo∧(mz ts a b).Lo≤(mz ts a b).Hi)∧(mz ts a b).Hi≤360000:=by
 have h:=jl ht (min a.aj b.aj).toNat (max a.aj b.aj-min a.aj b.aj).toNat
 have h1:=ha.1
 have h2:=hb.1
 unfold mz
 omega
theorem qo {ts:List ah} {a b:br} (ht: ∀ x∈ts,a5 x) (hl:ts.length≤12) (ha:dB ts a) (hb:dB ts b):(-400000≤(e_ ts a b).Lo∧(e_ ts a b).Lo≤(e_ ts a b).Hi)∧(e_ ts a b).Hi≤400000:=by
 have h:=Cv ht hl ha hb
 have h1:=sf ht ha
 have h2:=sf ht hb
 unfold e_ fZ gD
 split<;>simp only <;>omega
theorem Dm {ts:List ah} {s:br} (ht: ∀ x∈ts,a5 x) (hl:ts.length≤12) (h:dB ts s):(0≤(xz ts s).Lo∧(xz ts s).Lo≤(xz ts s).Hi)∧(xz ts s).Hi≤400000:=by
 have h1:=jl ht 0 s.aj.toNat
 have h2:=sf ht h
 have h3:=h.1
 unfold xz fZ
 simp only; omega
theorem xb {α:Type} {p:Nat→α→Bool} {l:List α}:((l.zipIdx.filter fun q=>p q.2 q.1).map fun q=>(q.2:Int))=[]↔ ∀ (i:Nat) x,l[i]? =some x→p i x=false:=by
 rw [List.map_eq_nil_iff,List.filter_eq_nil_iff]
 constructor
 ·intro h i x hx
  have:=h (x,i) (by rw [List.mem_zipIdx_iff_getElem?]; simpa using hx)
  simpa using this
 ·rintro h ⟨x,i⟩ hm
  rw [List.mem_zipIdx_iff_getElem?] at hm
  simpa using h i x (by simpa using hm)
/-- the places of a list at which something is so -/
def nA {α:Type} (p:Nat→α→Bool) (l:List α) (n:Nat):List Int:=(((l.take n).zipIdx.filter fun q=>p q.2 q.1).map fun q=>(q.2:Int))
theorem yQ {α:Type} {p:Nat→α→Bool} {l:List α} {i:Nat} {x:α} (hx:l[i]? =some x) (h:p i x=true):nA p l (i+1)=nA p l i++[(i:Int)]:=by
 have hi:=(List.getElem?_eq_some_iff.1 hx).1
 unfold nA
 rw [List.take_add_one,hx,List.zipIdx_append,List.filter_append,List.map_append]
 simp [Nat.min_eq_left (Nat.le_of_lt hi),h]
theorem zK {α:Type} {p:Nat→α→Bool} {l:List α} {i:Nat} {x:α} (hx:l[i]? =some x) (h:p i x=false):nA p l (i+1)=nA p l i:=by
 have hi:=(List.getElem?_eq_some_iff.1 hx).1
 unfold nA
 rw [List.take_add_one,hx,List.zipIdx_append,List.filter_append,List.map_append]
 simp [Nat.min_eq_left (Nat.le_of_lt hi),h]
theorem tf {α:Type} {p:Nat→α→Bool} {l:List α} {n:Nat}:(nA p l n).length≤n:=by
 unfold nA
 rw [List.length_map]
 refine Nat.le_trans (List.length_filter_le _ _) ?_
 rw [List.length_zipIdx,List.length_take]; omega
def xx {α:Type} (p:Nat→α→Bool) (l:List α):List Int:=nA p l l.length
theorem AJ {α:Type} {p:Nat→α→Bool} {l:List α} {n:Nat} (h:n=l.length):nA p l n=xx p l:=by rw [h]; rfl
theorem wI {α:Type} {p:Nat→α→Bool} {l:List α}:(xx p l).length=0↔ ∀ (i:Nat) x,l[i]? =some x→p i x=false:=by
 unfold xx nA
 rw [List.length_eq_zero_iff,List.take_length]
 exact xb
end
section
set_option linter.unusedVariables false
theorem rO (p:Int→Bool) (n:Nat): ∃ r:Int,r=((List.range n).findIdx fun (k:Nat)=>p (k:Int):Nat):=⟨_,rfl⟩
noncomputable def ej (p:Int→Bool) (n:Nat):Int:=Classical.choose (rO p n)
theorem nz (p:Int→Bool) (n:Nat):ej p n=((List.range n).findIdx fun (k:Nat)=>p (k:Int):Nat):=Classical.choose_spec (rO p n)
theorem j6 {p:Int→Bool} {n:Nat}:0≤ej p n∧ej p n≤n:=by
 rw [nz]
 have:=List.findIdx_le_length (xs:=List.range n) (p:=fun (k:Nat)=>p (k:Int))
 rw [List.length_range] at this
 omega
theorem oU {p:Int→Bool} {n:Nat} {x:Int} (h0:0≤x) (h:x<ej p n):p x=false:=by
 have hb:=j6 (p:=p) (n:=n)
 rw [nz] at h
 have h1:x.toNat<(List.range n).findIdx fun (k:Nat)=>p (k:Int):=by omega
 have h2:=List.not_of_lt_findIdx h1
 simp only [List.getElem_range] at h2
 rw [show ((x.toNat:Nat):Int)=x by omega] at h2
 simpa using h2
theorem rW {p:Int→Bool} {n:Nat} (h:ej p n<n):p (ej p n)=true:=by
 rw [nz] at h ⊢
 have h1:((List.range n).findIdx fun (k:Nat)=>p (k:Int))<(List.range n).length:=by rw [List.length_range]; omega
 have:=List.findIdx_getElem (w:=h1)
 simpa using this
theorem rP {p:Int→Bool} {n:Nat} {r:Int} (h0:0≤r) (hn:r<n) (hr:p r=true) (hb: ∀ x,0≤x→x<r→p x=false):ej p n=r:=by
 have h1:=j6 (p:=p) (n:=n)
 rcases Int.lt_trichotomy (ej p n) r with h|h|h
 ·have:=hb _ h1.1 h
  have e:=rW (p:=p) (n:=n) (by omega)
  rw [e] at this; cases this
 ·exact h
 ·have:=oU h0 h
  rw [hr] at this; cases this
end
section
set_option linter.unusedVariables false
def mx (n by_:Int):Int:=(n+by_-1)/by_
theorem zj {a b:Int} (h:a≤b):mx a 1000000≤mx b 1000000:=by unfold mx; omega
/-- by how much a sync may be off -/
def kX (c:ao) (at_:Int) (x:bI):Int:=mx (c.cz*max (at_-x.At) (x.At-at_)) 1000000
def eE (c:ao) (at_:Int) (s:ab) (x:bI):ab:=⟨max s.Lo (x.cx.Lo-kX c at_ x),min s.Hi (x.cx.Hi+kX c at_ x)⟩
def dX (c:ao) (at_:Int) (k:Nat):ab:=(c.aJ.take k).foldl (eE c at_) ⟨-1099511627776,1099511627776⟩
def ee (c:ao) (at_:Int):ab:=c.aJ.foldl (eE c at_) ⟨-1099511627776,1099511627776⟩
theorem jv {c:ao} {at_:Int} {k:Nat} {x:bI} (h:c.aJ[k]? =some x):dX c at_ (k+1)=eE c at_ (dX c at_ k) x:=by
 unfold dX; rw [List.take_add_one,h,List.foldl_append]; rfl
theorem lq {c:ao} {at_:Int} {k:Nat} (h:c.aJ.length≤k):dX c at_ k=ee c at_:=by unfold dX ee; rw [List.take_of_length_le h]
def gM (c:ao) (i:Nat):Int:=if i=0 then-1 else ((c.aJ[i-1]?).map (·.At)).getD 0
def de (c:ao) (i:Nat) (x:bI):Prop:=(gM c i<x.At∧x.At≤86400000)∧ -10000≤x.cx.Lo∧x.cx.Lo≤x.cx.Hi∧x.cx.Hi≤10000
def fh (c:ao) (x o:bI):Prop:=x.cx.Lo-o.cx.Hi≤mx (c.cz*(x.At-o.At)) 1000000∧o.cx.Lo-x.cx.Hi≤mx (c.cz*(x.At-o.At)) 1000000
structure dv (c:ao):Prop where
 gh:0≤c.cz∧c.cz≤1000
 len:1≤c.aJ.length∧c.aJ.length≤5
 sync: ∀ (i:Nat) x,c.aJ[i]? =some x→de c i x
 pair: ∀ (i k:Nat) x o,c.aJ[i]? =some x→k<i→c.aJ[k]? =some o→fh c x o
noncomputable instance (c:ao):Decidable (dv c):=Classical.propDecidable _
theorem cQ {c:ao} {i:Nat} (h:i=0):gM c i= -1:=if_pos h
theorem dC {c:ao} {i:Nat} {y:bI} (h:0<i) (hy:c.aJ[i-1]? =some y):gM c i=y.At:=by unfold gM; rw [if_neg (by omega),hy]; rfl
theorem kB {c:ao} {i:Nat} {y:bI} (hy:c.aJ[i]? =some y):gM c (i+1)=y.At:=by unfold gM; rw [if_neg (by omega),Nat.add_sub_cancel,hy]; rfl
/-- the times of the syncs -/
theorem sr {c:ao} (h: ∀ (i:Nat) x,c.aJ[i]? =some x→de c i x): ∀ (i:Nat) x,c.aJ[i]? =some x→0≤x.At∧ ∀ (k:Nat) o,k<i→c.aJ[k]? =some o→o.At<x.At:=by
 intro i
 induction i with
 |zero=>
  intro x hx
  have:=(h 0 x hx).1.1
  rw [cQ rfl] at this
  exact ⟨by omega,fun k o hk=>by omega⟩
 |succ i ih=>
  intro x hx
  have hi:=(List.getElem?_eq_some_iff.1 hx).1
  have hy:c.aJ[i]? =some (c.aJ[i]'(by omega)):=List.getElem?_eq_getElem (by omega)
  have h1:=ih _ hy
  have h2:=(h (i+1) x hx).1.1
  rw [kB hy] at h2
  refine ⟨by omega,fun k o hk ho=>?_⟩
  by_cases e:k=i
  ·subst e; rw [hy] at ho; cases ho; exact h2
  ·have:=h1.2 k o (by omega) ho; omega
theorem dv.oM {c:ao} (h:dv c) {i:Nat} {x:bI} (hx:c.aJ[i]? =some x):(0≤x.At∧x.At≤86400000)∧ -10000≤x.cx.Lo∧x.cx.Lo≤x.cx.Hi∧x.cx.Hi≤10000:=by
 have h1:=h.sync i x hx
 exact ⟨⟨(sr h.sync i x hx).1,h1.1.2⟩,h1.2⟩
theorem vI {d a b:Int} (hd:0≤d∧d≤1000) (ha:0≤a∧a≤90000000) (hb:0≤b∧b≤90000000):0≤d*max (a-b) (b-a)∧d*max (a-b) (b-a)≤90000000000:=by
 have:=CD (a:=d) (b:=max (a-b) (b-a)) (A:=1000) (B:=90000000) hd.1 hd.2 (by omega) (by omega)
 omega
theorem qa {c:ao} {at_:Int} {x:bI} (hd:0≤c.cz∧c.cz≤1000) (ha:0≤at_∧at_≤90000000) (hx:0≤x.At∧x.At≤86400000):0≤kX c at_ x∧kX c at_ x≤90001:=by
 have h:=vI hd ha (show 0≤x.At∧x.At≤90000000 by omega)
 unfold kX mx; omega
theorem ug {c:ao} {at_:Int} (h:dv c) (ha:0≤at_∧at_≤90000000): ∀ k:Nat,(-1099511627776≤(dX c at_ k).Lo∧(dX c at_ k).Lo≤10000)∧ -10000≤(dX c at_ k).Hi∧(dX c at_ k).Hi≤1099511627776:=by
 intro k
 induction k with
 |zero=>simp [dX]
 |succ k ih=>
  cases hx:c.aJ[k]? with
  |none=>unfold dX at ih ⊢; rw [List.take_add_one,hx]; simpa using ih
  |some x=>
   have hb:=h.oM hx
   have ho:=qa h.gh ha hb.1
   rw [jv hx]
   unfold eE
   simp only
   omega
theorem mE {c:ao} {at_:Int} (h:dv c) (ha:0≤at_∧at_≤90000000):(-110000≤(ee c at_).Lo∧(ee c at_).Lo≤10000)∧ -10000≤(ee c at_).Hi∧(ee c at_).Hi≤110000:=by
 obtain ⟨n,hn⟩: ∃ n,c.aJ.length=n+1:=⟨c.aJ.length-1,by have:=h.len; omega⟩
 have hx:c.aJ[n]? =some (c.aJ[n]'(by omega)):=List.getElem?_eq_getElem (by omega)
 have hb:=h.oM hx
 have ho:=qa h.gh ha hb.1
 have h1:=ug h ha n
 rw [← lq (k:=n+1) (by omega),jv hx]
 unfold eE
 simp only
 omega
/-- as time goes on, time and what a clock may be ahead, together, never go back -/
theorem uN {c:ao} (h:dv c) {a b:Int} (ha:0≤a) (hab:a≤b) (hb:b≤90000000): ∀ k:Nat,(a+(dX c a k).Lo≤b+(dX c b k).Lo∨(dX c a k).Lo= -1099511627776)∧a+(dX c a k).Hi≤b+(dX c b k).Hi:=by
 have step: ∀ (x:bI),0≤x.At∧x.At≤86400000→ ∀ a b:Int,0≤a→a≤b→b≤90000000→kX c a x≤kX c b x+(b-a)∧kX c b x≤kX c a x+(b-a):=by
  intro x hx a b ha hab hb
  have hd:=h.gh
  have e: ∀ u v:Int,u≤v+1000000*(b-a)→mx u 1000000≤mx v 1000000+(b-a):=by intro u v huv; unfold mx; omega
  have m: ∀ p q:Int,p≤q+(b-a)→c.cz*p≤c.cz*q+1000000*(b-a):=by
   intro p q hpq
   have h1:c.cz*p≤c.cz*(q+(b-a)):=Int.mul_le_mul_of_nonneg_left hpq hd.1
   have h2:c.cz*(q+(b-a))=c.cz*q+c.cz*(b-a):=Int.mul_add _ _ _
   have h3:c.cz*(b-a)≤1000*(b-a):=Int.mul_le_mul_of_nonneg_right hd.2 (by omega)
   omega
  exact ⟨e _ _ (m _ _ (by omega)),e _ _ (m _ _ (by omega))⟩
 intro k
 induction k with
 |zero=>simp [dX]; omega
 |succ k ih=>
  cases hx:c.aJ[k]? with
  |none=>
   have e: ∀ t,dX c t (k+1)=dX c t k:=fun t=>by unfold dX; rw [List.take_add_one,hx]; simp
   rw [e,e]; exact ih
  |some x=>
   have hs:=h.oM hx
   have:=step x hs.1 a b ha hab hb
   have hoa:=qa (at_:=a) h.gh ⟨ha,by omega⟩ hs.1
   rw [jv hx,jv hx]
   unfold eE
   simp only
   omega
theorem kl {c:ao} (h:dv c) {a b:Int} (ha:0≤a) (hab:a≤b) (hb:b≤90000000):a+(ee c a).Lo≤b+(ee c b).Lo∧a+(ee c a).Hi≤b+(ee c b).Hi:=by
 have h1:=uN h ha hab hb c.aJ.length
 have h2:=mE h (at_:=a) ⟨ha,by omega⟩
 rw [lq (Nat.le_refl _),lq (Nat.le_refl _)] at h1
 omega
noncomputable def iw (l:aV) (i:Nat):Int:=match l.aa[i]? with
 |some b=>if i=0 then (xz l.au b.ic).Lo else (match l.aa[i-1]? with
  |some a=>(e_ l.au a.ic b.ic).Lo
  |none=>0)
 |none=>0
theorem mY {l:aV} {b:aT} (h:l.aa[0]? =some b):iw l 0=(xz l.au b.ic).Lo:=by unfold iw; rw [h]; rfl
theorem n_ {l:aV} {i:Nat} {a b:aT} (hi:0<i) (h:l.aa[i]? =some b) (ha:l.aa[i-1]? =some a):iw l i=(e_ l.au a.ic b.ic).Lo:=by unfold iw; rw [h,ha]; simp only; rw [if_neg (by omega)]
def gO (l:aV) (b:aT):Prop:=dB l.au b.ic∧0≤b.cO∧b.cO<(l.ag.length:Int)
def cU (l:aV):Prop:=(1≤l.bJ∧l.bJ≤5000)∧(1≤(l.ag.length:Int)∧(l.ag.length:Int)≤4)∧(1≤(l.aa.length:Int)∧(l.aa.length:Int)≤6)∧(0≤l.aB∧l.aB≤(l.aa.length:Int)-1)∧(0≤l.aZ∧l.aZ≤3)∧0≤l.aO∧l.aO≤3
structure jB (l:aV):Prop where
 head:cU l
 clock: ∀ c∈l.ag,dv c
 ij: ∀ b∈l.aa,gO l b
 re: ∀ i,i<l.aa.length→1≤iw l i
noncomputable instance (l:aV):Decidable (jB l):=Classical.propDecidable _
noncomputable def cw (l:aV):Int:=if bY l.au=true then (if jB l then 0 else 50) else 10
theorem g_ {l:aV} (h:bY l.au=false):cw l=10:=by unfold cw; rw [h]; rfl
theorem dh {l:aV} (h:bY l.au=true) (h2: ¬ jB l):cw l=50:=by unfold cw; rw [if_pos h,if_neg h2]
theorem gR {l:aV} (h:bY l.au=true) (h2:jB l):cw l=0:=by unfold cw; rw [if_pos h,if_pos h2]
theorem dD {l:aV} (h:cw l=0):bY l.au=true∧jB l:=by
 unfold cw at h
 split at h
 ·split at h
  ·exact ⟨by assumption,by assumption⟩
  ·omega
 ·omega
theorem ur {l:aV} (ht:bY l.au=true) (hb: ∀ b∈l.aa,gO l b) (i:Nat): -400000≤iw l i∧iw l i≤400000:=by
 have hst:=gV ht
 have hl:=iv ht
 unfold iw
 cases h:l.aa[i]? with
 |none=>simp
 |some b=>
  have h1:=(hb b (List.mem_of_getElem? h)).1
  simp only
  split
  ·have:=Dm hst hl h1; omega
  ·cases h2:l.aa[i-1]? with
   |none=>simp
   |some a=>
    have h3:=(hb a (List.mem_of_getElem? h2)).1
    have:=qo hst hl h3 h1
    simp only; omega
def oF (l:aV) (s:av):ao:=((l.aa[s.cy.toNat]?).bind fun b=>l.ag[b.cO.toNat]?).getD ⟨0,[]⟩
def fE (c:ao) (r t:Int):Bool:=decide (r≤t+(ee c t).Hi)
def fB (c:ao) (r t:Int):Bool:=decide (r<t+(ee c t).Lo)
noncomputable def l5 (c:ao) (r:Int):ab:=⟨ej (fE c r) 86400001,ej (fB c r) 86400001-1⟩
noncomputable def cp (l:aV) (s:av):ab:=l5 (oF l s) s.Read
noncomputable def eO (l:aV) (i:Nat):Int:=mx (1000*iw l i) l.bJ
end
section
open Go.RowKit
set_option linter.unusedVariables false
def ta (n:Int):Int:=IntKind.i64.wrap n
theorem sm {n:Int} (h:mC n):ta n=n:=jG h
theorem ED (n:Int): -9223372036854775808≤ta n∧ta n≤9223372036854775807:=by
 unfold ta
 rw [IntKind.wrap_i64]
 omega
section
variable {P:Program} {t:TypeId} {x y:Operand} {a b:Int}
theorem BV:fm P .add t x y (.int .i64 a) (.int .i64 b) (.int .i64 (ta (a+b))):=fun w=>by simp [eqGuard_add,binOp_add,Op.intArith,ta]
theorem yq:fm P .sub t x y (.int .i64 a) (.int .i64 b) (.int .i64 (ta (a-b))):=fun w=>by simp [eqGuard_sub,binOp_sub,Op.intArith,ta]
theorem CR:fm P .mul t x y (.int .i64 a) (.int .i64 b) (.int .i64 (ta (a*b))):=fun w=>by simp [eqGuard_mul,binOp_mul,Op.intArith,ta]
end
/-- divided, and rounded up, as it comes out -/
def El (n by_:Int):Int:=(ta (ta (n+by_)-1)).tdiv by_
theorem BG {a b:Int} (ha: -9223372036854775808≤a∧a≤9223372036854775807) (hb:2≤b):mC (a.tdiv b):=by
 have h1:a.tdiv b=a/b+if a % b≠0∧a<0 then 1 else 0:=by
  rcases Int.lt_or_le a 0 with h|h
  ·rw [Int.tdiv_eq_ediv]
   have:b.sign=1:=Int.sign_eq_one_of_pos (by omega)
   rw [this]
   by_cases hd:b∣a
   ·have:a % b=0:=Int.emod_eq_zero_of_dvd hd
    simp [hd,this]
   ·have:a % b≠0:=fun e=>hd (Int.dvd_of_emod_eq_zero e)
    have hn: ¬ 0≤a:=by omega
    simp [hd,this,h,hn]
  ·rw [Int.tdiv_eq_ediv_of_nonneg h]
   have: ¬ a<0:=by omega
   simp [this]
 have h2:a/b*b+a % b=a:=by rw [Int.mul_comm]; exact Int.mul_ediv_add_emod a b
 have h3:0≤a % b:=Int.emod_nonneg _ (by omega)
 have h4:a % b<b:=Int.emod_lt_of_pos _ (by omega)
 have h5: -9223372036854775808≤a/b∧a/b≤4611686018427387904:=by
  constructor
  ·refine Int.le_ediv_of_mul_le (by omega) ?_
   have:(-9223372036854775808:Int)*b≤ -9223372036854775808*1:=Int.mul_le_mul_of_nonpos_left (by omega) (by omega)
   omega
  ·refine Int.ediv_le_of_le_mul (by omega) ?_
   have:(4611686018427387904:Int)*2≤4611686018427387904*b:=Int.mul_le_mul_of_nonneg_left hb (by omega)
   omega
 rw [h1]
 unfold mC
 split<;>omega
theorem CF {n by_:Int} (h0:0≤n) (h1:n≤1000000000000000000) (hb:1≤by_∧by_≤1000000000000):El n by_=(n+by_-1)/by_:=by
 unfold El
 rw [sm (show mC (n+by_) from ⟨by omega,by omega⟩),sm (show mC (n+by_-1) from ⟨by omega,by omega⟩),Int.tdiv_eq_ediv_of_nonneg (by omega)]
end
section
set_option linter.unusedVariables false
def jh (c:ao) (i:Nat) (x:bI) (k:Nat):Prop:=de c i x∧ ∀ (j:Nat) o,j<k→c.aJ[j]? =some o→fh c x o
def nJ (c:ao) (n:Nat):Prop:= ∀ (i:Nat) x,i<n→c.aJ[i]? =some x→jh c i x i
noncomputable instance (c:ao) (i:Nat) (x:bI) (k:Nat):Decidable (jh c i x k):=Classical.propDecidable _
instance (c:ao) (i:Nat) (x:bI):Decidable (de c i x):=by unfold de; infer_instance
theorem uJ {c:ao} {i:Nat} {x:bI}:jh c i x 0↔de c i x:=⟨fun h=>h.1,fun h=>⟨h,fun j o hj=>by omega⟩⟩
theorem gp {c:ao} {i k:Nat} {x o:bI} (h:c.aJ[k]? =some o):jh c i x (k+1)↔jh c i x k∧fh c x o:=by
 constructor
 ·intro hr
  exact ⟨⟨hr.1,fun j o' hj ho=>hr.2 j o' (by omega) ho⟩,hr.2 k o (by omega) h⟩
 ·rintro ⟨hr,hp⟩
  refine ⟨hr.1,fun j o' hj ho=>?_⟩
  by_cases e:j=k
  ·subst e; rw [h] at ho; cases ho; exact hp
  ·exact hr.2 j o' (by omega) ho
theorem wv {c:ao}:nJ c 0:=fun i x hi=>by omega
theorem wm {c:ao} {i:Nat} {x:bI} (h:nJ c i) (hx:c.aJ[i]? =some x) (hr:jh c i x i):nJ c (i+1):=fun j y hj hy=>by
 by_cases e:j=i
 ·subst e; rw [hx] at hy; cases hy; exact hr
 ·exact h j y (by omega) hy
theorem n7 {c:ao} {i:Nat} {x:bI} (hx:c.aJ[i]? =some x) (h: ¬ jh c i x i): ¬ dv c:=fun hc=>h ⟨hc.sync i x hx,fun j o hj ho=>hc.pair i j x o hx hj ho⟩
theorem mR {c:ao} (h1:0≤c.cz∧c.cz≤1000) (h2:1≤c.aJ.length∧c.aJ.length≤5) (h:nJ c c.aJ.length):dv c:=
 ⟨h1,h2,fun i x hx=>(h i x (List.getElem?_eq_some_iff.1 hx).1 hx).1,fun i k x o hx hk ho=>(h i x (List.getElem?_eq_some_iff.1 hx).1 hx).2 k o hk ho⟩
/-- syncs so far -/
theorem o9 {c:ao} {n:Nat} (h: ∀ (i:Nat) x,i<n→c.aJ[i]? =some x→de c i x): ∀ (i:Nat) x,i<n→c.aJ[i]? =some x→0≤x.At∧ ∀ (k:Nat) o,k<i→c.aJ[k]? =some o→o.At<x.At:=by
 intro i
 induction i with
 |zero=>
  intro x hn hx
  have:=(h 0 x hn hx).1.1
  rw [cQ rfl] at this
  exact ⟨by omega,fun k o hk=>by omega⟩
 |succ i ih=>
  intro x hn hx
  have hi:=(List.getElem?_eq_some_iff.1 hx).1
  have hy:c.aJ[i]? =some (c.aJ[i]'(by omega)):=List.getElem?_eq_getElem (by omega)
  have h1:=ih _ (by omega) hy
  have h2:=(h (i+1) x hn hx).1.1
  rw [kB hy] at h2
  refine ⟨by omega,fun k o hk ho=>?_⟩
  by_cases e:k=i
  ·subst e; rw [hy] at ho; cases ho; exact h2
  ·have:=h1.2 k o (by omega) ho; omega
theorem zu {c:ao} {i:Nat} (hi:i≤c.aJ.length) (h: ∀ (j:Nat) y,j<i→c.aJ[j]? =some y→de c j y): -1≤gM c i∧gM c i≤86400000:=by
 cases i with
 |zero=>rw [cQ rfl]; omega
 |succ i=>
  have hy:c.aJ[i]? =some (c.aJ[i]'(by omega)):=List.getElem?_eq_getElem (by omega)
  have h1:=(o9 (n:=i+1) h i _ (by omega) hy).1
  have h2:=(h i _ (by omega) hy).1.2
  rw [kB hy]; omega
theorem CH {c:ao} {i:Nat} (hi:i≤c.aJ.length) (h:nJ c i): -1≤gM c i∧gM c i≤86400000:=zu hi fun j y hj hy=>(h j y hj hy).1
theorem oY {c:ao} {i k:Nat} {x o:bI} (hs: ∀ (j:Nat) y,j<i→c.aJ[j]? =some y→de c j y) (hx:c.aJ[i]? =some x) (hok:de c i x) (hk:k<i) (ho:c.aJ[k]? =some o):
 (0≤o.At∧o.At<x.At∧x.At≤86400000)∧(-10000≤x.cx.Lo∧x.cx.Lo≤x.cx.Hi∧x.cx.Hi≤10000)∧ -10000≤o.cx.Lo∧o.cx.Lo≤o.cx.Hi∧o.cx.Hi≤10000:=by
 have h: ∀ (j:Nat) y,j<i+1→c.aJ[j]? =some y→de c j y:=fun j y hj hy=>by
  by_cases e:j=i
  ·subst e; rw [hx] at hy; cases hy; exact hok
  ·exact hs j y (by omega) hy
 have h1:=(o9 h i x (by omega) hx).2 k o hk ho
 have h2:=(o9 h k o (by omega) ho).1
 exact ⟨⟨h2,h1,hok.1.2⟩,hok.2,(h k o (by omega) ho).2⟩
theorem An {d a b:Int} (hd:0≤d∧d≤1000) (h:0≤b∧b<a∧a≤86400000):El (ta (d*ta (a-b))) 1000000=mx (d*(a-b)) 1000000:=by
 have h1:0≤d*(a-b)∧d*(a-b)≤90000000000:=by
  have:=CD (a:=d) (b:=a-b) (A:=1000) (B:=90000000) hd.1 hd.2 (by omega) (by omega)
  omega
 rw [sm (show mC (a-b) from ⟨by omega,by omega⟩),sm (show mC (d*(a-b)) from ⟨by omega,by omega⟩),CF h1.1 (by omega) (by omega)]
 rfl
/-- what is asked of a line, however wrong it is -/
structure dM (l:aV) (asl:List RA):Prop where
 o0:l.au.length≤1000000
 side: ∀ x∈l.au,0≤x.fx∧x.fx≤255
 oZ:l.ag.length≤1000000
 oG:asl.length=l.ag.length
 oI:l.aa.length≤1000000
 EM: ∀ (k:Nat) m (a:RA),l.ag[k]? =some m→asl[k]? =some a→m.aJ.length≤a.2∧m.aJ.length≤1000000
noncomputable instance (l:aV):Decidable (cU l):=by unfold cU; infer_instance
noncomputable instance (l:aV) (b:aT):Decidable (gO l b):=Classical.propDecidable _
theorem ef {l:aV} (h:cU l) (h2: ∀ c∈l.ag,dv c) (h3: ∀ b∈l.aa,gO l b) (h4: ∀ i,i<l.aa.length→1≤iw l i):jB l:=⟨h,h2,h3,h4⟩
theorem uV {l:aV}:((!(l.ag.any fun m=> !decide (dv m)))=true)↔ ∀ c∈l.ag,dv c:=by simp
theorem xw {l:aV}:((!(l.aa.any fun b=> !decide (gO l b)))=true)↔ ∀ b∈l.aa,gO l b:=by simp
noncomputable def vN (l:aV) (ck:Int):ao:=(l.ag[ck.toNat]?).getD ⟨0,[]⟩
noncomputable def gN (l:aV) (ck at_:Int):Int:=if cw l=0 then (if (0≤ck∧ck≤(l.ag.length:Int)-1)∧0≤at_∧at_≤86400000 then 0 else 2) else cw l
noncomputable def cN (l:aV) (ck at_:Int):ab:=if gN l ck at_=0 then ee (vN l ck) at_ else gP
noncomputable def iO (l:aV) (s:av):Int:=if cw l=0 then (if (0≤s.cy∧s.cy≤(l.aa.length:Int)-1)∧0≤s.Read∧s.Read≤86400000 then (if (cp l s).Hi<(cp l s).Lo then 6 else 0) else 2) else cw l
noncomputable def ju (l:aV) (s:av):ab:=if iO l s=0 then cp l s else gP
noncomputable def kJ (l:aV) (i:Int):Int:=if cw l=0 then (if 0≤i∧i≤(l.aa.length:Int)-1 then 0 else 2) else cw l
noncomputable def ml (l:aV) (i:Int):Int:=if kJ l i=0 then eO l i.toNat else 0
theorem mN {l:aV} {ck at_:Int} (h: ¬ cw l=0):gN l ck at_=cw l∧cN l ck at_=gP:=by
 have e:gN l ck at_=cw l:=if_neg h
 exact ⟨e,by unfold cN; rw [e,if_neg h]⟩
theorem jR {l:aV} {ck at_:Int} (h:cw l=0) (h2: ¬ ((0≤ck∧ck≤(l.ag.length:Int)-1)∧0≤at_∧at_≤86400000)):gN l ck at_=2∧cN l ck at_=gP:=by
 have e:gN l ck at_=2:=by unfold gN; rw [if_pos h,if_neg h2]
 exact ⟨e,by unfold cN; rw [e]; rfl⟩
theorem jV {l:aV} {ck at_:Int} (h:cw l=0) (h2:(0≤ck∧ck≤(l.ag.length:Int)-1)∧0≤at_∧at_≤86400000) {c:ao} (hc:l.ag[ck.toNat]? =some c):gN l ck at_=0∧cN l ck at_=ee c at_:=by
 have e:gN l ck at_=0:=by unfold gN; rw [if_pos h,if_pos h2]
 exact ⟨e,by unfold cN vN; rw [if_pos e,hc]; rfl⟩
theorem mh {l:aV} {s:av} (h: ¬ cw l=0):iO l s=cw l∧ju l s=gP:=by
 have e:iO l s=cw l:=if_neg h
 exact ⟨e,by unfold ju; rw [e,if_neg h]⟩
theorem mr {l:aV} {s:av} (h:cw l=0) (h2: ¬ ((0≤s.cy∧s.cy≤(l.aa.length:Int)-1)∧0≤s.Read∧s.Read≤86400000)):iO l s=2∧ju l s=gP:=by
 have e:iO l s=2:=by unfold iO; rw [if_pos h,if_neg h2]
 exact ⟨e,by unfold ju; rw [e]; rfl⟩
theorem k9 {l:aV} {s:av} (h:cw l=0) (h2:(0≤s.cy∧s.cy≤(l.aa.length:Int)-1)∧0≤s.Read∧s.Read≤86400000) (h3:(cp l s).Hi<(cp l s).Lo):iO l s=6∧ju l s=gP:=by
 have e:iO l s=6:=by unfold iO; rw [if_pos h,if_pos h2,if_pos h3]
 exact ⟨e,by unfold ju; rw [e]; rfl⟩
theorem mW {l:aV} {s:av} (h:cw l=0) (h2:(0≤s.cy∧s.cy≤(l.aa.length:Int)-1)∧0≤s.Read∧s.Read≤86400000) (h3: ¬ (cp l s).Hi<(cp l s).Lo):iO l s=0∧ju l s=cp l s:=by
 have e:iO l s=0:=by unfold iO; rw [if_pos h,if_pos h2,if_neg h3]
 exact ⟨e,by unfold ju; rw [if_pos e]⟩
theorem pb {l:aV} {i:Int} (h: ¬ cw l=0):kJ l i=cw l∧ml l i=0:=by
 have e:kJ l i=cw l:=if_neg h
 exact ⟨e,by unfold ml; rw [e,if_neg h]⟩
theorem o5 {l:aV} {i:Int} (h:cw l=0) (h2: ¬ (0≤i∧i≤(l.aa.length:Int)-1)):kJ l i=2∧ml l i=0:=by
 have e:kJ l i=2:=by unfold kJ; rw [if_pos h,if_neg h2]
 exact ⟨e,by unfold ml; rw [e]; rfl⟩
theorem oc {l:aV} {i:Int} (h:cw l=0) (h2:0≤i∧i≤(l.aa.length:Int)-1):kJ l i=0∧ml l i=eO l i.toNat:=by
 have e:kJ l i=0:=by unfold kJ; rw [if_pos h,if_pos h2]
 exact ⟨e,by unfold ml; rw [if_pos e]⟩
theorem kZ {c:ao} (h:dv c) {r x:Int} (h0:0≤x) (h1:x<86400001):
 (x<ej (fE c r) 86400001→fE c r x=false)∧(ej (fE c r) 86400001≤x→fE c r x=true)∧(x<ej (fB c r) 86400001→fB c r x=false)∧(ej (fB c r) 86400001≤x→fB c r x=true):=by
 have up: ∀ (q:Int→Bool),(∀ a b,0≤a→a≤b→b<86400001→q a=true→q b=true)→ej q 86400001≤x→q x=true:=fun q hq hx=>by
  have hb:=j6 (p:=q) (n:=86400001)
  exact hq _ _ hb.1 hx h1 (rW (by omega))
 refine ⟨oU h0,up _ fun a b ha hab hb hq=>?_,oU h0,up _ fun a b ha hab hb hq=>?_⟩
 ·have:=kl h ha hab (by omega)
  simp only [fE,decide_eq_true_eq] at hq ⊢; omega
 ·have:=kl h ha hab (by omega)
  simp only [fB,decide_eq_true_eq] at hq ⊢; omega
theorem qJ {l:aV} {s:av} {b:aT} {c:ao} (hb:l.aa[s.cy.toNat]? =some b) (hc:l.ag[b.cO.toNat]? =some c):oF l s=c:=by
 unfold oF; rw [hb]; simp only [Option.bind_some]; rw [hc]; rfl
end
section
set_option linter.unusedVariables false
def fO (sg:List av) (i:Nat):av:=if i=0 then ⟨-1,0⟩ else (sg[i-1]?).getD ⟨-1,0⟩
theorem g0 {sg:List av} {i:Nat} {s:av} (h:sg[i]? =some s):fO sg (i+1)=s:=by unfold fO; rw [if_neg (by omega),Nat.add_sub_cancel,h]; rfl
def eb (l:aV) (s:av):Prop:=(0≤s.cy∧s.cy≤(l.aa.length:Int)-1)∧0≤s.Read∧s.Read≤86400000
def dK (l:aV) (sg:List av) (i:Nat) (s:av):Prop:=eb l s∧ ¬ s.cy<(fO sg i).cy∧ ¬ (s.cy=(fO sg i).cy∧s.Read≤(fO sg i).Read)
def kG (l:aV) (sg:List av) (i:Nat):Prop:= ∀ (j:Nat) s,j<i→sg[j]? =some s→dK l sg j s
structure c7 (l:aV) (r:bj):Prop where
 time:0≤r.Start∧r.Start≤r.dw∧r.dw≤86400000
 len:r.ae.length≤10
 sig: ∀ (i:Nat) s,r.ae[i]? =some s→dK l r.ae i s
noncomputable instance (l:aV) (r:bj):Decidable (c7 l r):=Classical.propDecidable _
theorem pk {l:aV} {sg:List av}:kG l sg 0:=fun j s hj=>absurd hj (Nat.not_lt_zero _)
theorem fT {l:aV} {sg:List av} {i:Nat} {s:av} (h:kG l sg i) (hs:sg[i]? =some s) (ho:dK l sg i s):kG l sg (i+1):=fun j z hj hz=>by
 rcases Nat.lt_or_ge j i with q|q
 ·exact h j z q hz
 ·obtain rfl:j=i:=by omega
  rw [hs] at hz; cases hz; exact ho
theorem ib {l:aV} {r:bj} {i:Nat} (h1:0≤r.Start∧r.Start≤r.dw∧r.dw≤86400000) (h2:r.ae.length≤10) (h:kG l r.ae i) (hi:r.ae.length≤i):c7 l r:=
 ⟨h1,h2,fun j s hs=>h j s (by have:=(List.getElem?_eq_some_iff.1 hs).1; omega) hs⟩
noncomputable def jY (l:aV) (sg:List av) (b k:Nat):Option (Int×ab):=(sg[k]?).bind fun s=>if s.cy=(b:Int)∧(cp l s).Lo≤(cp l s).Hi then some ((k:Int),cp l s) else none
noncomputable def iu (l:aV) (sg:List av) (i b:Nat):TM:=(List.range i).filterMap (jY l sg b)
noncomputable def bf (l:aV) (sg:List av) (i:Nat):List TM:=(List.range l.aa.length).map (iu l sg i)
noncomputable def bE (l:aV) (n:Nat):List Int:=(List.range n).map (eO l)
theorem pv {l:aV} {n:Nat}:bE l (n+1)=bE l n++[eO l n]:=by simp [bE,List.range_succ]
theorem bK {l:aV} {n:Nat}:(bE l n).length=n:=by simp [bE]
theorem dO {l:aV} {sg:List av} {i:Nat}:(bf l sg i).length=l.aa.length:=by simp [bf]
theorem kR {l:aV} {sg:List av} {i b:Nat} (h:b<l.aa.length):(bf l sg i)[b]? =some (iu l sg i b):=by simp [bf,h]
theorem lB {l:aV} {sg:List av} {b k:Nat} {q:Int×ab}:jY l sg b k=some q↔ ∃ s,sg[k]? =some s∧(s.cy=(b:Int)∧(cp l s).Lo≤(cp l s).Hi)∧q=((k:Int),cp l s):=by
 unfold jY
 cases h:sg[k]? with
 |none=>simp
 |some s=>
  simp only [Option.bind_some,Option.some.injEq]
  by_cases e:s.cy=(b:Int)∧(cp l s).Lo≤(cp l s).Hi
  ·rw [if_pos e]
   constructor
   ·intro h; cases h; exact ⟨s,rfl,e,rfl⟩
   ·rintro ⟨s',rfl,_,rfl⟩; rfl
  ·rw [if_neg e]
   constructor
   ·intro h; cases h
   ·rintro ⟨s',rfl,e',_⟩; exact absurd e' e
theorem nH {l:aV} {sg:List av} {i b:Nat} {q:Int×ab}:q∈iu l sg i b↔ ∃ k,k<i∧ ∃ s,sg[k]? =some s∧(s.cy=(b:Int)∧(cp l s).Lo≤(cp l s).Hi)∧q=((k:Int),cp l s):=by
 unfold iu
 simp only [List.mem_filterMap,List.mem_range,lB]
theorem iy {l:aV} {sg:List av} {i b:Nat}:iu l sg (i+1) b=iu l sg i b++(jY l sg b i).toList:=by
 unfold iu
 rw [List.range_succ,List.filterMap_append]
 congr 1
theorem qv {l:aV} {sg:List av}:bf l sg 0=List.replicate l.aa.length []:=by
 unfold bf
 rw [List.eq_replicate_iff]
 refine ⟨by simp,fun t ht=>?_⟩
 obtain ⟨b,_,rfl⟩:=List.mem_map.1 ht
 rfl
theorem lO {l:aV} {sg:List av} {i:Nat} {s:av} (hs:sg[i]? =some s) (h: ¬ (cp l s).Lo≤(cp l s).Hi):bf l sg (i+1)=bf l sg i:=by
 unfold bf
 apply List.map_congr_left
 intro b _
 rw [iy]
 have:jY l sg b i=none:=by
  cases e:jY l sg b i with
  |none=>rfl
  |some q=>obtain ⟨s',h1,⟨_,h2⟩,_⟩:=lB.1 e; rw [hs] at h1; cases h1; exact absurd h2 h
 rw [this]; simp
theorem nc {l:aV} {sg:List av} {i:Nat} {s:av} (hs:sg[i]? =some s) (hb:0≤s.cy∧s.cy≤(l.aa.length:Int)-1) (h:(cp l s).Lo≤(cp l s).Hi) {x:TM} (hx:(bf l sg i)[s.cy.toNat]? =some x):
 (bf l sg i).set s.cy.toNat (dz x (i:Int) (cp l s))=bf l sg (i+1):=by
 have hbl:s.cy.toNat<l.aa.length:=by omega
 rw [kR hbl] at hx
 cases hx
 have hnew:dz (iu l sg i s.cy.toNat) (i:Int) (cp l s)=iu l sg (i+1) s.cy.toNat:=by
  have hn:(iu l sg i s.cy.toNat).lookup (i:Int)=none:=fy.2 fun p hp e=>by
   obtain ⟨k,hk,_,_,_,rfl⟩:=nH.1 hp
   simp only at e; omega
  have ho:jY l sg s.cy.toNat i=some ((i:Int),cp l s):=lB.2 ⟨s,hs,⟨by omega,h⟩,rfl⟩
  rw [iy,ho]
  unfold dz; rw [hn]; rfl
 rw [hnew]
 apply List.ext_getElem?
 intro b
 rw [List.getElem?_set]
 by_cases e:s.cy.toNat=b
 ·rw [if_pos e,dO,← e,if_pos hbl,kR hbl]
 ·rw [if_neg e]
  by_cases hb':b<l.aa.length
  ·rw [kR hb',kR hb',iy]
   have:jY l sg b i=none:=by
    cases e2:jY l sg b i with
    |none=>rfl
    |some q=>obtain ⟨s',h1,⟨h2,_⟩,_⟩:=lB.1 e2; rw [hs] at h1; cases h1; exact absurd (by omega) e
   rw [this]; simp
  ·rw [List.getElem?_eq_none (by rw [dO]; omega),List.getElem?_eq_none (by rw [dO]; omega)]
noncomputable def a6 (l:aV) (r:bj):bg:=⟨r.Start,r.dw,bE l l.aa.length,bf l r.ae r.ae.length,l.aO,l.aZ,(r.ae.length:Int)⟩
theorem zw {l:aV} (ht:bY l.au=true) (h:jB l) {i:Nat} (hi:i<l.aa.length):1≤eO l i∧eO l i≤500000000:=by
 have h1:=ur ht h.ij i
 have h2:=h.re i hi
 have h3:=h.head.1
 unfold eO mx
 refine ⟨(Int.le_ediv_iff_mul_le (by omega)).2 (by omega),?_⟩
 have:(1000*iw l i+l.bJ-1)/l.bJ≤1000*iw l i+l.bJ-1:=Int.ediv_le_self _ (by omega)
 omega
theorem z4 (l:aV) (s:av):0≤(cp l s).Lo∧(cp l s).Hi≤86400000:=by
 have h1:=j6 (p:=fE (oF l s) s.Read) (n:=86400001)
 have h2:=j6 (p:=fB (oF l s) s.Read) (n:=86400001)
 unfold cp l5
 simp only
 omega
theorem iK {l:aV} {r:bj} (ht:bY l.au=true) (h:jB l) (hr:c7 l r):xA (a6 l r):=by
 have hh:=h.head
 unfold cU at hh
 refine ⟨?_,by simp [a6,dO,bg.n,bK],hr.time,fun x hx=>?_,fun t htm p hp=>?_⟩
 ·show (bE l l.aa.length).length≤6
  rw [bK]; omega
 ·obtain ⟨i,hi,rfl⟩:=List.mem_map.1 hx
  exact zw ht h (List.mem_range.1 hi)
 ·obtain ⟨b,hb,rfl⟩:=List.mem_map.1 htm
  obtain ⟨k,hk,s,hs,⟨_,h2⟩,rfl⟩:=nH.1 hp
  have h3:=z4 l s
  have h4:=hr.len
  simp only
  omega
noncomputable def cD (l:aV) (r:bj) (me:Int):Int:=if cw l=0 then (if c7 l r then (if me=0 then (if dJ (a6 l r)=[] then 8 else 0) else me) else 51) else cw l
theorem cY {l:aV} {r:bj} {me:Int} (h: ¬ cw l=0):cD l r me=cw l:=if_neg h
theorem bq {l:aV} {r:bj} {me:Int} (h:cw l=0) (h2: ¬ c7 l r):cD l r me=51:=by unfold cD; rw [if_pos h,if_neg h2]
theorem ew {l:aV} {r:bj} {me:Int} (h:cw l=0) (h2:c7 l r) (h3: ¬ me=0):cD l r me=me:=by unfold cD; rw [if_pos h,if_pos h2,if_neg h3]
theorem cV {l:aV} {r:bj} {me:Int} (h:cw l=0) (h2:c7 l r) (h3:me=0) (h4:dJ (a6 l r)=[]):cD l r me=8:=by unfold cD; rw [if_pos h,if_pos h2,if_pos h3,if_pos h4]
theorem iX {l:aV} {r:bj} {me:Int} (h:cw l=0) (h2:c7 l r) (h3:me=0) (h4: ¬ dJ (a6 l r)=[]):cD l r me=0:=by unfold cD; rw [if_pos h,if_pos h2,if_pos h3,if_neg h4]
theorem fF {l:aV} {r:bj} {me:Int} (h:cD l r me=0):cw l=0∧c7 l r∧me=0∧ ¬ dJ (a6 l r)=[]:=by
 unfold cD at h
 split at h
 ·split at h
  ·split at h
   ·split at h
    ·omega
    ·exact ⟨by assumption,by assumption,by assumption,by assumption⟩
   ·omega
  ·omega
 ·omega
end
section
set_option linter.unusedVariables false
def iF (l:List Int):Int:=(l.drop 1).foldl min (l.headD 0)
def mj (l:List Int):Int:=(l.drop 1).foldl max (l.headD 0)
theorem yK {l:List Int} {i:Nat} {x:Int} (h:l[i]? =some x) (hi:1≤i):iF (l.take (i+1))=min (iF (l.take i)) x:=by
 have e:l.take (i+1)=l.take i++[x]:=by rw [List.take_add_one,h]; rfl
 have hl:1≤(l.take i).length:=by have:=(List.getElem?_eq_some_iff.1 h).1; rw [List.length_take]; omega
 rw [e]
 cases ht:l.take i with
 |nil=>rw [ht] at hl; simp at hl
 |cons y ys=>simp [iF,List.foldl_append]
theorem zy {l:List Int} {i:Nat} {x:Int} (h:l[i]? =some x) (hi:1≤i):mj (l.take (i+1))=max (mj (l.take i)) x:=by
 have e:l.take (i+1)=l.take i++[x]:=by rw [List.take_add_one,h]; rfl
 have hl:1≤(l.take i).length:=by have:=(List.getElem?_eq_some_iff.1 h).1; rw [List.length_take]; omega
 rw [e]
 cases ht:l.take i with
 |nil=>rw [ht] at hl; simp at hl
 |cons y ys=>simp [mj,List.foldl_append]
theorem xd {l:List Int} {x:Int} (h:l[0]? =some x):iF (l.take 1)=x:=by
 cases l with
 |nil=>simp at h
 |cons y ys=>simp at h; subst h; simp [iF]
theorem w6 {l:List Int} {x:Int} (h:l[0]? =some x):mj (l.take 1)=x:=by
 cases l with
 |nil=>simp at h
 |cons y ys=>simp at h; subst h; simp [mj]
theorem tJ: ∀ (l:List Int) (a:Int),(l.foldl min a=a∨l.foldl min a∈l)∧l.foldl min a≤a∧ ∀ x∈l,l.foldl min a≤x
 |[],a=>⟨.inl rfl,by simp,by simp⟩
 |y::l,a=>by
  obtain ⟨h1,h2,h3⟩:=tJ l (min a y)
  simp only [List.foldl_cons]
  refine ⟨?_,by omega,?_⟩
  ·rcases h1 with h1|h1
   ·rw [h1]
    rcases Int.le_total a y with q|q
    ·left; omega
    ·right; rw [show min a y=y by omega]; simp
   ·right; exact List.mem_cons_of_mem _ h1
  ·intro x hx
   rcases List.mem_cons.1 hx with rfl|hx
   ·omega
   ·exact h3 x hx
theorem tm: ∀ (l:List Int) (a:Int),(l.foldl max a=a∨l.foldl max a∈l)∧a≤l.foldl max a∧ ∀ x∈l,x≤l.foldl max a
 |[],a=>⟨.inl rfl,by simp,by simp⟩
 |y::l,a=>by
  obtain ⟨h1,h2,h3⟩:=tm l (max a y)
  simp only [List.foldl_cons]
  refine ⟨?_,by omega,?_⟩
  ·rcases h1 with h1|h1
   ·rw [h1]
    rcases Int.le_total a y with q|q
    ·right; rw [show max a y=y by omega]; simp
    ·left; omega
   ·right; exact List.mem_cons_of_mem _ h1
  ·intro x hx
   rcases List.mem_cons.1 hx with rfl|hx
   ·omega
   ·exact h3 x hx
theorem v_ {l:List Int} (h:l≠[]):iF l∈l∧ ∀ x∈l,iF l≤x:=by
 cases l with
 |nil=>exact absurd rfl h
 |cons y ys=>
  obtain ⟨h1,h2,h3⟩:=tJ ys y
  refine ⟨?_,fun x hx=>?_⟩
  ·rcases h1 with h1|h1
   ·simp [iF,h1]
   ·exact List.mem_cons_of_mem _ (by simpa [iF] using h1)
  ·rcases List.mem_cons.1 hx with rfl|hx
   ·simpa [iF] using h2
   ·simpa [iF] using h3 x hx
theorem AT {l:List Int} (h:l≠[]):mj l∈l∧ ∀ x∈l,x≤mj l:=by
 cases l with
 |nil=>exact absurd rfl h
 |cons y ys=>
  obtain ⟨h1,h2,h3⟩:=tm ys y
  refine ⟨?_,fun x hx=>?_⟩
  ·rcases h1 with h1|h1
   ·simp [mj,h1]
   ·exact List.mem_cons_of_mem _ (by simpa [mj] using h1)
  ·rcases List.mem_cons.1 hx with rfl|hx
   ·simpa [mj] using h2
   ·simpa [mj] using h3 x hx
noncomputable def cJ (l:aV) (r:bj):List Int:=if cD l r 0=0 then dJ (a6 l r) else []
theorem gH {l:aV} {r:bj} (h:cD l r 0=0):cJ l r=dJ (a6 l r):=if_pos h
theorem jO {l:aV} {r:bj} (h: ¬ cD l r 0=0):cJ l r=[]:=if_neg h
theorem mX {l:aV} {r:bj} (h:cD l r 0=0):cJ l r≠[]:=by rw [gH h]; exact (fF h).2.2.2
theorem nD {l:aV} {r:bj} (h:cD l r 0=0):1≤(cJ l r).length:=List.length_pos_iff.2 (mX h)
theorem lV {l:aV} {r:bj}:(cJ l r).length≤100:=by
 unfold cJ
 split
 ·rename_i h
  obtain ⟨h1,h2,_⟩:=fF h
  obtain ⟨ht,ho⟩:=dD h1
  have:=(iK ht ho h2).n
  have h3:=nL (w:=a6 l r) (k:=(a6 l r).n+1)
  unfold dJ; omega
 ·simp
noncomputable def dG (l:aV) (r:bj):Int:=if cD l r 0=0 then (if l.aB<iF (cJ l r) then 2 else if mj (cJ l r)≤l.aB then 0 else 1) else 0
noncomputable def fI (l:aV) (b:Int):Int:=if 0≤b∧b≤(l.aa.length:Int)-1 then 0 else 2
theorem tn {l:aV} {b:Int} (h:0≤b∧b≤(l.aa.length:Int)-1):fI l b=0:=if_pos h
theorem vn {l:aV} {b:Int} (h:fI l b=0):0≤b∧b≤(l.aa.length:Int)-1:=by
 unfold fI at h
 split at h
 ·assumption
 ·omega
noncomputable def j0 (l:aV) (r:bj) (b:Nat):ab:=gG (dR (a6 l r) b)
noncomputable def cS (l:aV) (r:bj) (b:Int):Int:=if cD l r (fI l b)=0 then (if j0 l r b.toNat=gT then 6 else 0) else cD l r (fI l b)
noncomputable def bR (l:aV) (r:bj) (b:Int):ab:=if cS l r b=0 then j0 l r b.toNat else gP
theorem gW {l:aV} {r:bj} {b:Int} (h: ¬ cD l r (fI l b)=0):cS l r b=cD l r (fI l b)∧bR l r b=gP:=by
 have e:cS l r b=cD l r (fI l b):=if_neg h
 exact ⟨e,by unfold bR; rw [if_neg (by rw [e]; exact h)]⟩
theorem iA {l:aV} {r:bj} {b:Nat} (h:cD l r (fI l b)=0) (h2:j0 l r b=gT):cS l r b=6∧bR l r b=gP:=by
 have e:cS l r b=6:=by unfold cS; rw [if_pos h,Int.toNat_natCast,if_pos h2]
 exact ⟨e,by unfold bR; rw [if_neg (by rw [e]; omega)]⟩
theorem fr {l:aV} {r:bj} {b:Nat} (h:cD l r (fI l b)=0) (h2: ¬ j0 l r b=gT):cS l r b=0∧bR l r b=j0 l r b:=by
 have e:cS l r b=0:=by unfold cS; rw [if_pos h,Int.toNat_natCast,if_neg h2]
 exact ⟨e,by unfold bR; rw [if_pos e,Int.toNat_natCast]⟩
theorem yu {w:bg} (h:xA w) {b:Nat} {q:Int×ab} (hq:q∈dR w b):0≤q.2.Lo∧q.2.Lo≤q.2.Hi∧q.2.Hi≤86400000:=by
 have h1:=g9 hq
 obtain ⟨o,ho,p,hp,u,hu,e⟩:=fo.1 hq
 obtain ⟨_,_,rfl⟩:=g3.1 e
 have h2:=h.opt ho
 simp only [gQ] at h1 ⊢
 omega
theorem zc {l:aV} {r:bj} {b:Int} (h:cS l r b=0):0≤(bR l r b).Lo∧(bR l r b).Lo≤(bR l r b).Hi∧(bR l r b).Hi≤86400000:=by
 have ho:cD l r (fI l b)=0:=by
  by_cases e:cD l r (fI l b)=0
  ·exact e
  ·rw [(gW e).1] at h; exact absurd h e
 obtain ⟨h1,h2,_⟩:=fF ho
 obtain ⟨ht,hok⟩:=dD h1
 have hw:=iK ht hok h2
 have hv:bR l r b=j0 l r b.toNat:=by unfold bR; rw [if_pos h]
 have hn:j0 l r b.toNat≠gT:=fun e=>by unfold cS at h; rw [if_pos ho,if_pos e] at h; omega
 have hh:=sM (l:=dR (a6 l r) b.toNat) fun q hq=>g9 hq
 rw [hv]
 unfold j0 at hn ⊢
 rcases hh with ⟨_,e⟩|hh
 ·exact absurd e hn
 ·obtain ⟨x,hx,ex⟩:=hh.lo
  obtain ⟨y,hy,ey⟩:=hh.hi
  have:=yu hw hx
  have:=yu hw hy
  have:=hh.le
  omega
noncomputable def l6 (l:aV) (r:bj):ab:=if cS l r l.aB=0 then ⟨(bR l r l.aB).Lo-r.Start,(bR l r l.aB).Hi-r.Start⟩ else gP
theorem sh {l:aV} {r:bj} (h:cS l r l.aB=0):l6 l r=⟨(bR l r l.aB).Lo-r.Start,(bR l r l.aB).Hi-r.Start⟩:=if_pos h
theorem yT {l:aV} {r:bj} (h: ¬ cS l r l.aB=0):l6 l r=gP:=if_neg h
theorem tG {l:aV} {r:bj} {b:Int} (h:cS l r b=0):c7 l r:=by
 by_cases e:cD l r (fI l b)=0
 ·exact (fF e).2.1
 ·rw [(gW e).1] at h; exact absurd h e
theorem rU {k:List (Int×ab)} {h:ab} {q:Int×ab} {z:ab} (hh:jA k h) (hq:q.2.Lo≤q.2.Hi) (hz:j8 h q.2=z):jA (k++[q]) z:=by subst hz; exact rT hh hq
end
section
set_option linter.unusedVariables false
def bX (bl:List Nat) (n:Nat):List (Option Nat):=bl.map some++List.replicate (n-bl.length) none
def eD (bl:List Nat) (n:Nat):List (Option Nat):=List.replicate (n-bl.length) none++bl.map some
theorem jQ {bl:List Nat} {n:Nat} (h:bl.length≤n):(bX bl n).length=n:=by simp [bX]; omega
theorem rA {bl:List Nat} {n:Nat} (h:bl.length≤n):(eD bl n).length=n:=by simp [eD]; omega
theorem oW {n:Nat}:List.replicate n none=bX [] n:=by simp [bX]
theorem wY {n:Nat}:List.replicate n none=eD [] n:=by simp [eD]
theorem rH {bl:List Nat} {n:Nat} (h:bl.length=n):bX bl n=bl.map some:=by simp [bX,h]
theorem wW {bl:List Nat} {n:Nat} (h:bl.length=n):eD bl n=bl.map some:=by simp [eD,h]
theorem js {bl:List Nat} {n k g:Nat} (h:bl[k]? =some g):(bX bl n)[k]? =some (some g):=by
 have hk:=(List.getElem?_eq_some_iff.1 h).1
 unfold bX
 rw [List.getElem?_append_left (by simpa using hk),List.getElem?_map,h]; rfl
theorem nY {bl:List Nat} {n k i g:Nat} (h:bl[i]? =some g) (hk:k=n-bl.length+i):(eD bl n)[k]? =some (some g):=by
 subst hk
 unfold eD
 rw [List.getElem?_append_right (by simp),List.getElem?_map,List.length_replicate,Nat.add_sub_cancel_left,h]; rfl
theorem nd {bl:List Nat} {n k g:Nat} (hk:k=bl.length) (h:bl.length<n):(bX bl n).set k (some g)=bX (bl++[g]) n:=by
 subst hk
 unfold bX
 rw [List.set_append_right _ _ (by simp)]
 have e:n-bl.length=(n-(bl++[g]).length)+1:=by simp; omega
 rw [e,List.replicate_succ]
 simp
theorem wj {bl:List Nat} {n k g:Nat} (hk:k+1+bl.length=n):(eD bl n).set k (some g)=eD (g::bl) n:=by
 unfold eD
 have e:n-bl.length=k+1:=by omega
 have e2:n-(g::bl).length=k:=by simp; omega
 rw [e,e2,List.set_append_left _ _ (by simp),List.replicate_succ',List.set_append_right _ _ (by simp)]
 simp
theorem l0 {l:List (Option Nat)} {k g:Nat} (h:l[k]? =some (some g)):(l.map oC)[k]? =some (oC (some g)):=by rw [List.getElem?_map,h]; rfl
theorem sv {α:Type} {l:List α} {x:α} {k:Nat} (h:k=l.length):(l++[x])[k]? =some x:=by subst h; simp
theorem zd {α:Type} {l:List α} {x y:α} {k:Nat} (h:l[k]? =some y):(l++[x])[k]? =some y:=by rw [List.getElem?_append_left (List.getElem?_eq_some_iff.1 h).1]; exact h
structure l3 (w:bg) (fs:List FM):Prop where
 all: ∀ (b:Nat) m,fs[b]? =some m→nq m (fwd w b)∧(m.map (·.1)).Nodup
structure eI (w:bg) (k:Nat) (bs:List FM):Prop where
 all: ∀ (i:Nat) m,bs[i]? =some m→oj m (back w (k+i))∧(m.map (·.1)).Nodup
variable {w:bg} {b:Nat} {mb m left:List (aq×Int)} {o:Int×ab} {os:List (Int×ab)} {p:aq×Int}
theorem l3.first:l3 w [[(⟨0,0⟩,w.Start)]]:=⟨fun b m h=>by
 match b with
 |0=>simp at h; subst h; exact ⟨xh,by simp⟩
 |n+1=>simp at h⟩
theorem l3.add {fs:List FM} (h:l3 w fs) (hl:fs.length=b+1) (hmb:fs[b]? =some mb) (hm:qk w b m) (hd:gS w b mb m left) (h0:left=[]):l3 w (fs++[m]):=⟨fun i x hx=>by
 rcases Nat.lt_or_ge i fs.length with q|q
 ·rw [List.getElem?_append_left q] at hx; exact h.all i x hx
 ·rw [List.getElem?_append_right q] at hx
  have hi:i-fs.length=0:=by
   rcases Nat.eq_zero_or_pos (i-fs.length) with z|z
   ·exact z
   ·rw [List.getElem?_eq_none (by simp; omega)] at hx; cases hx
  rw [hi] at hx
  simp at hx; subst hx
  obtain rfl:i=b+1:=by omega
  have h1:=h.all b mb hmb
  exact ⟨yx h1.2 h1.1 hm.snd (hd.fin h0),hm.keys⟩⟩
theorem l3.ok {fs:List FM} (h:l3 w fs) (hl:fs.length=w.n+1):pE w fs:=⟨hl,fun b m hm=>(h.all b m hm).1,fun b m hm=>(h.all b m hm).2⟩
theorem eI.none_:eI w b []:=⟨fun i m h=>by simp at h⟩
theorem eI.last (hb:w.n≤b):eI w b [[(⟨0,0⟩,w.dw)]]:=⟨fun i m h=>by
 match i with
 |0=>simp at h; subst h; exact ⟨yI (by omega),by simp⟩
 |n+1=>simp at h⟩
theorem eI.add {bs:List FM} (h:eI w (b+1) bs) (hb:b<w.n) (hmb:bs[0]? =some mb) (hm:pO w b m) (hd:gL w b mb m left) (h0:left=[]):eI w b (m::bs):=⟨fun i x hx=>by
 match i with
 |0=>
  simp at hx; subst hx
  have h1:=h.all 0 mb hmb
  exact ⟨yb hb h1.2 h1.1 hm.snd hm.zero (hd.fin h0),hm.keys⟩
 |n+1=>
  have:=h.all n x (by simpa using hx)
  rw [show b+1+n=b+(n+1) by omega] at this
  exact this⟩
theorem eI.ok {bs:List FM} (h:eI w 0 bs) (hl:bs.length=w.n+1):nN w bs:=⟨hl,fun b m hm=>by have:=(h.all b m hm).1; rwa [Nat.zero_add] at this,fun b m hm=>(h.all b m hm).2⟩
/-- on the way through one entry's options -/
structure j3 (w:bg) (b:Nat) (mb left m:List (aq×Int)) (p:aq×Int) (os:List (Int×ab)):Prop where
 on:qk w b m
 jU:gS w b mb m left
 done:fX w b m p os
structure j2 (w:bg) (b:Nat) (mb left m:List (aq×Int)) (p:aq×Int) (os:List (Int×ab)):Prop where
 on:pO w b m
 jU:gL w b mb m left
 done:fW w b m p os
theorem j3.start (h:qk w b m) (h2:gS w b mb m left):j3 w b mb left m p []:=⟨h,h2,fun o ho=>by cases ho⟩
theorem j2.start (h:pO w b m) (h2:gL w b mb m left):j2 w b mb left m p []:=⟨h,h2,fun o ho=>by cases ho⟩
theorem wk {q:aq×Int} (h:(m.lookup q.1).isSome=false∨q.2<(m.lookup q.1).getD 0):lh m q=dz m q.1 q.2:=by
 unfold lh
 cases e:m.lookup q.1 with
 |none=>rfl
 |some v=>rw [e] at h; simp at h; simp only; rw [if_pos h]
theorem vm {q:aq×Int} (h:(m.lookup q.1).isSome=true) (h2: ¬ q.2<(m.lookup q.1).getD 0):lh m q=m:=by
 unfold lh
 cases e:m.lookup q.1 with
 |none=>rw [e] at h; cases h
 |some v=>rw [e] at h2; simp only [Option.getD_some] at h2; simp only; rw [if_neg h2]
theorem wc {q:aq×Int} (h:(m.lookup q.1).isSome=false∨(m.lookup q.1).getD 0<q.2):kW m q=dz m q.1 q.2:=by
 unfold kW
 cases e:m.lookup q.1 with
 |none=>rfl
 |some v=>rw [e] at h; simp at h; simp only; rw [if_pos h]
theorem vi {q:aq×Int} (h:(m.lookup q.1).isSome=true) (h2: ¬ (m.lookup q.1).getD 0<q.2):kW m q=m:=by
 unfold kW
 cases e:m.lookup q.1 with
 |none=>rw [e] at h; cases h
 |some v=>rw [e] at h2; simp only [Option.getD_some] at h2; simp only; rw [if_neg h2]
theorem im {t:aq} {v y:Int} (hy:w.np[b]? =some y) (h:max (v+y) o.2.Lo≤min o.2.Hi w.dw):iE w b (t,v) o=some (dc t (dI o.1),max (v+y) o.2.Lo):=by
 have e:=jX hy
 subst e
 exact yM h
theorem oD {t:aq} {v y:Int} (hy:w.np[b]? =some y) (h: ¬ max (v+y) o.2.Lo≤min o.2.Hi w.dw):iE w b (t,v) o=none:=by
 have e:=jX hy
 subst e
 exact Al h
theorem iq {t:aq} {v y:Int} (hy:w.np[b]? =some y) (h:o.2.Lo≤min v o.2.Hi):kh w b (t,v) o=some (dc t (dI o.1),min v o.2.Hi-y):=by
 have e:=jX hy
 subst e
 exact yo h
theorem j3.set {q:aq×Int} (h:j3 w b mb left m p os) (hp:p∈fwd w b) (ho:o∈fK w b) (he:iE w b p o=some q) (hs:(m.lookup q.1).isSome=false∨q.2<(m.lookup q.1).getD 0):j3 w b mb left (dz m q.1 q.2) p (os++[o]):=by
 rw [← wk hs]
 exact ⟨h.on.add hp ho he,h.jU.lower pz,h.done.zi he⟩
theorem j3.jd {q:aq×Int} (h:j3 w b mb left m p os) (he:iE w b p o=some q) (hs:(m.lookup q.1).isSome=true) (h2: ¬ q.2<(m.lookup q.1).getD 0):j3 w b mb left m p (os++[o]):=by
 have:=h.done.zi he
 rw [vm hs h2] at this
 exact ⟨h.on,h.jU,this⟩
theorem j3.skip (h:j3 w b mb left m p os) (he:iE w b p o=none):j3 w b mb left m p (os++[o]):=⟨h.on,h.jU,h.done.none_ he⟩
theorem j2.set {q:aq×Int} (hb:b<w.n) (h:j2 w b mb left m p os) (hp:p∈back w (b+1)) (ho:o∈fK w b) (he:kh w b p o=some q) (hs:(m.lookup q.1).isSome=false∨(m.lookup q.1).getD 0<q.2):j2 w b mb left (dz m q.1 q.2) p (os++[o]):=by
 rw [← wc hs]
 exact ⟨h.on.add hb hp ho he,h.jU.upper mc,h.done.zi he⟩
theorem j2.jd {q:aq×Int} (h:j2 w b mb left m p os) (he:kh w b p o=some q) (hs:(m.lookup q.1).isSome=true) (h2: ¬ (m.lookup q.1).getD 0<q.2):j2 w b mb left m p (os++[o]):=by
 have:=h.done.zi he
 rw [vi hs h2] at this
 exact ⟨h.on,h.jU,this⟩
theorem j2.skip (h:j2 w b mb left m p os) (he:kh w b p o=none):j2 w b mb left m p (os++[o]):=⟨h.on,h.jU,h.done.none_ he⟩
theorem j3.next {t:aq} {v:Int} (hn:(left.map (·.1)).Nodup) (hm:(t,v)∈left) (h:j3 w b mb left m (t,v) os) (ho: ∀ o∈fK w b,o∈os):gS w b mb m (cL left t):=h.jU.next hn hm h.done ho
theorem j2.next {t:aq} {v:Int} (hn:(left.map (·.1)).Nodup) (hm:(t,v)∈left) (h:j2 w b mb left m (t,v) os) (ho: ∀ o∈fK w b,o∈os):gL w b mb m (cL left t):=h.jU.next hn hm h.done ho
theorem l3.mem {fs:List FM} (h:l3 w fs) (hm:fs[b]? =some mb) (hp:p∈mb):p∈fwd w b:=(h.all b mb hm).1.1 _ _ ((dE (h.all b mb hm).2).1 hp)
theorem eI.Fc {bs:List FM} {k:Nat} (h:eI w k bs) (hk:k=b+1) (hm:bs[0]? =some mb) (hp:p∈mb):p∈back w (b+1):=by
 subst hk
 exact (h.all 0 mb hm).1.1 _ _ ((dE (h.all 0 mb hm).2).1 hp)
theorem eI.end_ {bs:List FM} {k j:Nat} (h:eI w k bs) (hj:bs.length=0) (hk:j=b) (hb:w.n≤b):eI w j ([(⟨0,0⟩,w.dw)]::bs):=by
 subst hk
 rw [List.eq_nil_of_length_eq_zero hj]
 exact eI.last hb
theorem eI.more {bs:List FM} {k j:Nat} (h:eI w k bs) (hk:k=b+1) (hj:j=b) (hb:b<w.n) (hmb:bs[0]? =some mb) (hm:pO w b m) (hd:gL w b mb m left) (h0:left=[]):eI w j (m::bs):=by
 subst hk hj
 exact h.add hb hmb hm hd h0
end
section
open Go.RowKit
set_option linter.unusedVariables false
theorem er {a:Option Addr} {c e sz n:Nat} {es:List (List Value)} (h:es.length=n):zG (own a c e sz es) (rd a n sz es):=by subst h; exact Ag
theorem gZ {L:List aD}:zG (bw L) (c_ L):=⟨fun w h=>h.1,fun b h=>h⟩
theorem vV {b:Nat} {fb:List Nat} {g:Nat} (h:fb.length=b):aP gJ (List.replicate b ([]:TM)) fb++[jr iV g (bu kr [])]=aP gJ (List.replicate (b+1) ([]:TM)) (fb++[g]):=by
 rw [List.replicate_succ']
 exact ry (by rw [List.length_replicate]; exact h.symm) rfl
theorem EE {α:Type} {ms:List α} {fb:List Nat} {n:Nat} (h:fb.length=n) (h2:ms.length=n):List.map oC (bX fb n)=List.zipWith cb ms fb:=by
 rw [rH h]; exact (sG (by omega)).symm
theorem eU {l:aV} {r:bj} {i:Nat} {x:av} (hx:r.ae[i]? =some x) (h: ¬ dK l r.ae i x): ¬ c7 l r:=fun q=>h (q.sig i x hx)
end
section
set_option linter.unusedVariables false
def mo (l:aV):Prop:=(20<(l.au.length:Int)∨8<(l.ag.length:Int)∨10<(l.aa.length:Int))∨ ∃ c∈l.ag,10<(c.aJ.length:Int)
noncomputable instance (l:aV):Decidable (mo l):=Classical.propDecidable _
/-- what is asked of a line that comes in -/
structure jN (l:aV) (az:List RA):Prop where
 o0:l.au.length≤9223372036854775807
 side: ∀ x∈l.au,0≤x.fx∧x.fx≤255
 oZ:l.ag.length≤9223372036854775807
 oG:az.length=l.ag.length
 oI:l.aa.length≤9223372036854775807
 EM: ∀ (k:Nat) m (a:RA),l.ag[k]? =some m→az[k]? =some a→m.aJ.length≤a.2∧m.aJ.length≤9223372036854775807
def sX (l:aV) (i:Nat):Prop:= ∀ (j:Nat) c,j<i→l.ag[j]? =some c→(c.aJ.length:Int)≤10
theorem mI {l:aV} {i:Nat} (h: ¬ (20<(l.au.length:Int))∧ ¬ (8<(l.ag.length:Int))∧ ¬ (10<(l.aa.length:Int))) (hi:l.ag.length≤i) (hs:sX l i): ¬ mo l:=by
 rintro (h1|⟨c,hc,h2⟩)
 ·omega
 ·obtain ⟨k,hk⟩:=List.getElem?_of_mem hc
  have:=hs k c (by have:=(List.getElem?_eq_some_iff.1 hk).1; omega) hk
  omega
theorem mD {l:aV} {i:Nat} {c:ao} (hc:l.ag[i]? =some c) (h:10<(c.aJ.length:Int)):mo l:= .inr ⟨c,List.mem_of_getElem? hc,h⟩
theorem iB {α:Type} {l:List α} {P:Nat→α→Prop} {i:Nat} {x:α} (h: ∀ (j:Nat) y,j<i→l[j]? =some y→P j y) (hx:l[i]? =some x) (hp:P i x): ∀ (j:Nat) y,j<i+1→l[j]? =some y→P j y:=fun j y hj hy=>by
 by_cases e:j=i
 ·subst e; rw [hx] at hy; cases hy; exact hp
 ·exact h j y (by omega) hy
theorem eG {α:Type} {l:List α} {P:Nat→α→Prop} {i:Nat} (hi:l.length≤i) (h: ∀ (j:Nat) y,j<i→l[j]? =some y→P j y): ∀ (j:Nat) y,l[j]? =some y→P j y:=fun j y hy=>h j y (by have:=(List.getElem?_eq_some_iff.1 hy).1; omega) hy
theorem dq {α:Type} {l:List α} {P:α→Prop} {i:Nat} (hi:l.length≤i) (h: ∀ (j:Nat) y,j<i→l[j]? =some y→P y): ∀ y∈l,P y:=fun y hy=>by
 obtain ⟨k,hk⟩:=List.getElem?_of_mem hy
 exact eG (P:=fun _ y=>P y) hi h k y hk
theorem zx {l:aV} (h: ¬ mo l):(l.au.length:Int)≤20∧(l.ag.length:Int)≤8∧(l.aa.length:Int)≤10∧ ∀ c∈l.ag,(c.aJ.length:Int)≤10:=by
 unfold mo at h
 rw [not_or] at h
 refine ⟨by omega,by omega,by omega,fun c hc=>?_⟩
 have:=h.2
 rcases Int.lt_or_le 10 (c.aJ.length:Int) with q|q
 ·exact absurd ⟨c,hc,q⟩ this
 ·exact q
theorem jN.small {l:aV} {az:List RA} (h:jN l az) (hg: ¬ mo l):dM l az:=by
 have h1:=zx hg
 exact ⟨by omega,h.side,by omega,h.oG,by omega,fun k m a hm ha=>⟨(h.EM k m a hm ha).1,by have:=h1.2.2.2 m (List.mem_of_getElem? hm); omega⟩⟩
def vS (c:ao) (x:bI) (k:Nat):Prop:= ∀ (j:Nat) o,j<k→c.aJ[j]? =some o→fh c x o
def nZ (c:ao) (m:Nat):Prop:= ∀ (i:Nat) x,i<m→c.aJ[i]? =some x→vS c x i
theorem ff {c:ao} {m:Nat} (h1:0≤c.cz∧c.cz≤1000) (h2:1≤c.aJ.length∧c.aJ.length≤5) (hs: ∀ (i:Nat) x,c.aJ[i]? =some x→de c i x) (hm:c.aJ.length≤m) (hp:nZ c m):dv c:=
 ⟨h1,h2,hs,fun i k x o hx hk ho=>hp i x (by have:=(List.getElem?_eq_some_iff.1 hx).1; omega) hx k o hk ho⟩
theorem vb {c:ao} {m k:Nat} (h:nZ c m) (hk: ∀ y,c.aJ[m]? =some y→vS c y k) (e:k=m):nZ c (m+1):=by
 subst e
 intro i x hi hx
 by_cases e:i=k
 ·subst e; exact hk x hx
 ·exact h i x (by omega) hx
def ed (ts:List ah) (n:Nat):List ab:=(List.range n).map fun k=>bS ts 0 k
theorem tM {ts:List ah} {n:Nat}:ed ts (n+1)=ed ts n++[bS ts 0 n]:=by simp [ed,List.range_succ]
theorem kI {ts:List ah} {n:Nat}:(ed ts n).length=n:=by simp [ed]
theorem lL {ts:List ah} {n k:Nat} {x:ab} (h:(ed ts n)[k]? =some x):x=bS ts 0 k:=by
 unfold ed at h
 rw [List.getElem?_map] at h
 cases hk:(List.range n)[k]? with
 |none=>simp [hk] at h
 |some v=>
  have:=List.getElem?_eq_some_iff.1 hk
  simp at this
  simp [hk] at h
  rw [← h,← this.2]
theorem gk {ts:List ah} {a b:br} (h:b.aj<a.aj):e_ ts a b=gD (e_ ts b a):=by
 unfold e_
 rw [if_pos h,if_neg (by omega)]
 unfold mz
 rw [Int.min_comm b.aj a.aj,Int.max_comm b.aj a.aj]
 unfold gD fZ
 simp only [ab.mk.injEq]
 omega
theorem en {ts:List ah} {a b:br} (h: ¬ b.aj<a.aj):e_ ts a b=fZ (fZ (bS ts a.aj.toNat (b.aj-a.aj).toNat) b.dU) (gD a.dU):=by
 unfold e_ mz
 rw [if_neg h,Int.min_eq_left (by omega),Int.max_eq_right (by omega)]
end
section
set_option linter.unusedVariables false
structure tv (w w':bg):Prop where
 start:w'.Start=w.Start
 now:w.dw≤w'.dw
 n:w'.n=w.n
 least: ∀ b,bU w' b≤bU w b
 times:w'.pG=w.pG
 B1:w.aO≤w'.aO
 Ej:w.aZ≤w'.aZ
 sigs:w'.Cd=w.Cd
variable {w w':bg}
theorem tv.opt (h:tv w w') {b:Nat} {o:Int×ab} (ho:o∈fK w b): ∃ o'∈fK w' b,o'.1=o.1∧o'.2.Lo≤o.2.Lo∧o.2.Hi≤o'.2.Hi:=by
 unfold fK at ho
 rcases List.mem_cons.1 ho with rfl|ho
 ·exact ⟨(-1,⟨w'.Start,w'.dw⟩),List.mem_cons_self ..,rfl,by simp only [h.start]; omega,h.now⟩
 ·refine ⟨o,List.mem_cons_of_mem _ ?_,rfl,Int.le_refl _,Int.le_refl _⟩
  unfold og at ho ⊢; rw [h.times]; exact ho
theorem tv.may (h:tv w w') {t:aq} (ht:kj w t=true):kj w' t=true:=by
 unfold kj at ht ⊢
 have:=of_decide_eq_true ht
 have h1:=h.B1
 have h2:=h.Ej
 have h3:=h.sigs
 exact decide_eq_true (by omega)
theorem tv.fwd (h:tv w w'): ∀ (b:Nat) (p:aq×Int),p∈fwd w b→ ∃ p'∈Go.Proofs.YthiigjekcdjkkaaGreat.fwd w' b,p'.1=p.1∧p'.2≤p.2:=by
 intro b
 induction b with
 |zero=>
  intro p hp
  simp only [Go.Proofs.YthiigjekcdjkkaaGreat.fwd,List.mem_singleton] at hp ⊢
  subst hp
  exact ⟨_,rfl,rfl,by simp only [h.start]; omega⟩
 |succ b ih=>
  intro q hq
  obtain ⟨p,hp,o,ho,e⟩:=ep.1 hq
  obtain ⟨p',hp',h1,h2⟩:=ih p hp
  obtain ⟨o',ho',h3,h4,h5⟩:=h.opt ho
  have hl:=h.least b
  have hn:=h.now
  unfold iE at e
  split at e
  ·rename_i hle
   simp only [Option.some.injEq] at e
   subst e
   refine ⟨(dc p'.1 (dI o'.1),max (p'.2+bU w' b) o'.2.Lo),ep.2 ⟨p',hp',o',ho',by unfold iE; rw [if_pos (by omega)]⟩,by simp only [h1,h3],by simp only; omega⟩
  ·cases e
theorem tv.bwd (h:tv w w'): ∀ (k:Nat) (p:aq×Int),p∈bwd w k→ ∃ p'∈Go.Proofs.YthiigjekcdjkkaaGreat.bwd w' k,p'.1=p.1∧p.2≤p'.2:=by
 intro k
 induction k with
 |zero=>
  intro p hp
  simp only [Go.Proofs.YthiigjekcdjkkaaGreat.bwd,List.mem_singleton] at hp ⊢
  subst hp
  exact ⟨_,rfl,rfl,h.now⟩
 |succ k ih=>
  intro q hq
  simp only [Go.Proofs.YthiigjekcdjkkaaGreat.bwd,List.mem_cons,List.mem_flatMap,List.mem_filterMap] at hq ⊢
  rcases hq with rfl|⟨p,hp,o,ho,e⟩
  ·exact ⟨_,.inl rfl,rfl,h.now⟩
  ·obtain ⟨p',hp',h1,h2⟩:=ih p hp
   obtain ⟨o',ho',h3,h4,h5⟩:=h.opt ho
   have hl:=h.least (w.n-(k+1))
   rw [h.n]
   unfold kh at e
   split at e
   ·rename_i hle
    simp only [Option.some.injEq] at e
    subst e
    exact ⟨(dc p'.1 (dI o'.1),min p'.2 o'.2.Hi-bU w' (w.n-(k+1))),.inr ⟨p',hp',o',ho',by unfold kh; rw [if_pos (by omega)]⟩,by simp only [h1,h3],by simp only; omega⟩
   ·cases e
theorem tv.back (h:tv w w') {b:Nat} {p:aq×Int} (hp:p∈back w b): ∃ p'∈Go.Proofs.YthiigjekcdjkkaaGreat.back w' b,p'.1=p.1∧p.2≤p'.2:=by
 unfold Go.Proofs.YthiigjekcdjkkaaGreat.back at hp ⊢
 rw [h.n]
 exact h.bwd _ p hp
theorem tv.pass (h:tv w w') {b:Nat} {q:Int×ab} (hq:q∈dR w b): ∃ q'∈dR w' b,q'.1=q.1∧q'.2.Lo≤q.2.Lo∧q.2.Hi≤q'.2.Hi:=by
 obtain ⟨o,ho,p,hp,u,hu,e⟩:=fo.1 hq
 obtain ⟨h1,h2,rfl⟩:=g3.1 e
 obtain ⟨o',ho',a1,a2,a3⟩:=h.opt ho
 obtain ⟨p',hp',b1,b2⟩:=h.fwd _ p hp
 obtain ⟨u',hu',c1,c2⟩:=h.back hu
 have hl:=h.least b
 simp only [gQ] at h1
 refine ⟨(o'.1,gQ w' b p' u' o'),fo.2 ⟨o',ho',p',hp',u',hu',g3.2 ⟨?_,?_,rfl⟩⟩,a1,?_,?_⟩
 ·simp only [gQ]; omega
 ·have:=h.may h2
  unfold qp at this ⊢
  rw [a1,b1,c1]; exact this
 ·simp only [gQ]; omega
 ·simp only [gQ]; omega
theorem nS {k:Int}:k∈dJ w↔ ∃ i:Nat,k=(i:Int)∧i≤w.n∧hG w (fwd w i)=true:=by
 unfold dJ gu
 simp only [List.mem_map,List.mem_filter,List.mem_range]
 constructor
 ·rintro ⟨i,⟨h1,h2⟩,rfl⟩; exact ⟨i,rfl,by omega,h2⟩
 ·rintro ⟨i,rfl,h1,h2⟩; exact ⟨i,⟨by omega,h2⟩,rfl⟩
theorem tv.xp (h:tv w w') {k:Int} (hk:k∈dJ w):k∈dJ w':=by
 obtain ⟨i,rfl,h1,h2⟩:=nS.1 hk
 refine nS.2 ⟨i,rfl,by rw [h.n]; exact h1,?_⟩
 unfold hG at h2 ⊢
 obtain ⟨p,hp,h3⟩:=List.any_eq_true.1 h2
 obtain ⟨p',hp',b1,_⟩:=h.fwd _ p hp
 exact List.any_eq_true.2 ⟨p',hp',by rw [b1]; exact h.may h3⟩
theorem rG {l:List (Int×ab)} (hl: ∀ q∈l,q.2.Lo≤q.2.Hi) (h:gG l≠gT):nI l (gG l):=by
 rcases sM hl with ⟨_,e⟩|h'
 ·exact absurd e h
 ·exact h'
theorem sS {l:List (Int×ab)} (hl: ∀ q∈l,q.2.Lo≤q.2.Hi) {q:Int×ab} (hq:q∈l):nI l (gG l):=by
 rcases sM hl with ⟨e,_⟩|h'
 ·rw [e] at hq; cases hq
 ·exact h'
theorem tv.GW (h:tv w w') {b:Nat} (hn:gG (dR w b)≠gT):gG (dR w' b)≠gT∧(gG (dR w' b)).Lo≤(gG (dR w b)).Lo∧(gG (dR w b)).Hi≤(gG (dR w' b)).Hi:=by
 have h1:=rG (l:=dR w b) (fun q hq=>g9 hq) hn
 obtain ⟨x,hx,ex⟩:=h1.lo
 obtain ⟨y,hy,ey⟩:=h1.hi
 obtain ⟨x',hx',_,a1,a2⟩:=h.pass hx
 obtain ⟨y',hy',_,b1,b2⟩:=h.pass hy
 have h2:=sS (l:=dR w' b) (fun q hq=>g9 hq) hx'
 have c1:=h2.all x' hx'
 have c2:=h2.all y' hy'
 exact ⟨h2.ne,by omega,by omega⟩
/-- two rides, of two lines, of which one allows more -/
structure CW (l:aV) (r:bj) (l':aV) (r':bj):Prop where
 line:cw l=0
 line':cw l'=0
 rp:c7 l r
 ride':c7 l' r'
 w:tv (a6 l r) (a6 l' r')
 yL:l'.aa.length=l.aa.length
variable {l l':aV} {r r':bj}
theorem CW.ok (h:CW l r l' r') (he:cD l r 0=0):cD l' r' 0=0:=by
 refine iX h.line' h.ride' rfl fun e=>?_
 obtain ⟨k,hk⟩:=List.exists_mem_of_ne_nil _ (fF he).2.2.2
 have:=h.w.xp hk
 rw [e] at this; cases this
theorem CW.qj (h:CW l r l' r') {k:Int} (hk:k∈cJ l r):k∈cJ l' r':=by
 by_cases he:cD l r 0=0
 ·rw [gH he] at hk
  rw [gH (h.ok he)]
  exact h.w.xp hk
 ·rw [jO he] at hk; cases hk
theorem o7 {b:Nat} (hb:b<l.aa.length):cD l r (fI l b)=cD l r 0:=by rw [tn (by omega)]
theorem CW.nM (h:CW l r l' r') {b:Nat} (hb:b<l.aa.length) (he:cS l r b=0):cS l' r' b=0∧(bR l' r' b).Lo≤(bR l r b).Lo∧(bR l r b).Hi≤(bR l' r' b).Hi:=by
 have ho:cD l r (fI l b)=0:=by
  by_cases e:cD l r (fI l b)=0
  ·exact e
  ·rw [(gW e).1] at he; exact absurd he e
 have ho':cD l' r' (fI l' b)=0:=by
  rw [o7 (by rw [h.yL]; exact hb)]
  rw [o7 hb] at ho
  exact h.ok ho
 have hn:j0 l r b≠gT:=fun e=>by rw [(iA ho e).1] at he; omega
 obtain ⟨h1,h2,h3⟩:=h.w.GW hn
 have e1:=fr ho hn
 have e2:=fr ho' h1
 rw [e1.2,e2.2]
 exact ⟨e2.1,h2,h3⟩
theorem wD {b:Nat}:bU (a6 l r) b=if b<l.aa.length then eO l b else 0:=by
 unfold bU a6 bE
 split
 ·rename_i h
  simp [h]
 ·rename_i h
  simp [h]
theorem pn {sg:List av} {i:Nat} (h:i=0):fO sg i=⟨-1,0⟩:=by subst h; rfl
theorem f_ {sg:List av} {i:Nat} {y:av} (h:0<i) (hy:sg[i-1]? =some y):fO sg i=y:=by unfold fO; rw [if_neg (by omega),hy]; rfl
def xP (l:aV):Prop:= ¬ mo l∧cw l=0
noncomputable instance (l:aV):Decidable (xP l):=Classical.propDecidable _
end
section
set_option linter.unusedVariables false
/-- where a sled may be after k beams more -/
def eA (w:bg):Nat→Nat→aq×Int→List (aq×Int)
 |0,_,p=>[p]
 |k+1,b,p=>(fK w b).flatMap fun o=>match iE w b p o with
  |some q=>eA w k (b+1) q
  |none=>[]
variable {w:bg}
theorem fp {k b:Nat} {p q:aq×Int}:q∈eA w (k+1) b p↔ ∃ o∈fK w b,∃ p',iE w b p o=some p'∧q∈eA w k (b+1) p':=by
 simp only [eA,List.mem_flatMap]
 constructor
 ·rintro ⟨o,ho,h⟩
  cases e:iE w b p o with
  |none=>rw [e] at h; cases h
  |some p'=>rw [e] at h; exact ⟨o,ho,p',e,h⟩
 ·rintro ⟨o,ho,p',e,h⟩
  exact ⟨o,ho,by rw [e]; exact h⟩
theorem sd: ∀ (k b:Nat) (q:aq×Int),q∈fwd w (b+k)↔ ∃ p∈fwd w b,q∈eA w k b p:=by
 intro k
 induction k with
 |zero=>
  intro b q
  simp only [Nat.add_zero,eA,List.mem_singleton]
  exact ⟨fun h=>⟨q,h,rfl⟩,fun ⟨p,hp,e⟩=>e▸hp⟩
 |succ k ih=>
  intro b q
  rw [show b+(k+1)=(b+1)+k by omega,ih]
  constructor
  ·rintro ⟨p',hp',h⟩
   obtain ⟨p,hp,o,ho,e⟩:=ep.1 hp'
   exact ⟨p,hp,fp.2 ⟨o,ho,p',e,h⟩⟩
  ·rintro ⟨p,hp,h⟩
   obtain ⟨o,ho,p',e,h'⟩:=fp.1 h
   exact ⟨p',ep.2 ⟨p,hp,o,ho,e⟩,h'⟩
theorem eZ {b:Nat} {p q:aq×Int} {o:Int×ab}:iE w b p o=some q↔max (p.2+bU w b) o.2.Lo≤min o.2.Hi w.dw∧q=(dc p.1 (dI o.1),max (p.2+bU w b) o.2.Lo):=by
 unfold iE
 split
 ·rename_i h
  constructor
  ·intro e; cases e; exact ⟨h,rfl⟩
  ·rintro ⟨_,rfl⟩; rfl
 ·rename_i h
  constructor
  ·intro e; cases e
  ·rintro ⟨h',_⟩; exact absurd h' h
theorem oN {b:Nat} {p q:aq×Int} {o:Int×ab}:kh w b p o=some q↔o.2.Lo≤min p.2 o.2.Hi∧q=(dc p.1 (dI o.1),min p.2 o.2.Hi-bU w b):=by
 unfold kh
 split
 ·rename_i h
  constructor
  ·intro e; cases e; exact ⟨h,rfl⟩
  ·rintro ⟨_,rfl⟩; rfl
 ·rename_i h
  constructor
  ·intro e; cases e
  ·rintro ⟨h',_⟩; exact absurd h' h
theorem w7 {b:Nat} (hb:b≤w.n):((⟨0,0⟩:aq),w.dw)∈back w b:=by
 rcases Nat.lt_or_ge b w.n with h|h
 ·exact (lf h).2 (.inl rfl)
 ·rw [pd h]; simp
theorem oO (t:aq):dc t ⟨0,0⟩=t:=by cases t; simp [dc]
theorem r8 (a o u:aq):dc (dc a o) u=dc a (dc u o):=by simp only [dc,aq.mk.injEq]; omega
theorem vT (hl: ∀ b,0≤bU w b): ∀ (k:Nat) (u:aq×Int),u∈bwd w k→u.2≤w.dw:=by
 intro k
 induction k with
 |zero=>intro u hu; simp only [bwd,List.mem_singleton] at hu; subst hu; exact Int.le_refl _
 |succ k ih=>
  intro u hu
  simp only [bwd,List.mem_cons,List.mem_flatMap,List.mem_filterMap] at hu
  rcases hu with rfl|⟨p,hp,o,ho,e⟩
  ·exact Int.le_refl _
  ·obtain ⟨_,rfl⟩:=oN.1 e
   have:=ih p hp
   have:=hl (w.n-(k+1))
   simp only; omega
/-- what follows a passing is told by the way back -/
theorem Ak: ∀ (k b:Nat) (p q:aq×Int),b+k≤w.n→p.2≤w.dw→q∈eA w k b p→ ∃ u∈back w b,p.2≤u.2∧q.1=dc p.1 u.1:=by
 intro k
 induction k with
 |zero=>
  intro b p q hb hp hq
  simp only [eA,List.mem_singleton] at hq
  subst hq
  exact ⟨_,w7 (by omega),hp,(oO _).symm⟩
 |succ k ih=>
  intro b p q hb hp hq
  obtain ⟨o,ho,p',e,h⟩:=fp.1 hq
  obtain ⟨h1,rfl⟩:=eZ.1 e
  obtain ⟨u',hu',h2,h3⟩:=ih (b+1) _ q (by omega) (by simp only; omega) h
  simp only at h2 h3
  refine ⟨(dc u'.1 (dI o.1),min u'.2 o.2.Hi-bU w b),(lf (by omega)).2 (.inr ⟨u',hu',o,ho,oN.2 ⟨by omega,rfl⟩⟩),by simp only; omega,?_⟩
  rw [h3,r8]
theorem x3 (hl: ∀ b,0≤bU w b): ∀ (d b:Nat) (p u:aq×Int),w.n=b+d→p.2≤u.2→u∈back w b→ ∃ k,b+k≤w.n∧ ∃ q∈eA w k b p,q.1=dc p.1 u.1:=by
 intro d
 induction d with
 |zero=>
  intro b p u hd hp hu
  rw [pd (by omega)] at hu
  simp only [List.mem_singleton] at hu
  subst hu
  exact ⟨0,by omega,p,by simp [eA],(oO _).symm⟩
 |succ d ih=>
  intro b p u hd hp hu
  rcases (lf (by omega)).1 hu with rfl|⟨u',hu',o,ho,e⟩
  ·exact ⟨0,by omega,p,by simp [eA],(oO _).symm⟩
  ·obtain ⟨h1,rfl⟩:=oN.1 e
   have hn:u'.2≤w.dw:=vT hl _ _ hu'
   simp only at hp
   obtain ⟨k,hk,q,hq,h3⟩:=ih (b+1) (dc p.1 (dI o.1),max (p.2+bU w b) o.2.Lo) u' (by omega) (by simp only; omega) hu'
   refine ⟨k+1,by omega,q,fp.2 ⟨o,ho,_,eZ.2 ⟨by omega,rfl⟩,hq⟩,?_⟩
   rw [h3]; simp only; rw [r8]
end
section
set_option linter.unusedVariables false
section
variable {l:aV} {r:bj} {one at_:Int} {d:Nat} {f g m:Int} {rec:Int→Int→Int→Bool} {i:Int}
end
theorem x9 {l:aV} {r:bj} {d:Nat} (hd:d<l.aa.length) {o:Int×ab}:o∈fK (a6 l r) d↔o=(-1,⟨r.Start,r.dw⟩)∨ ∃ k,k<r.ae.length∧ ∃ s,r.ae[k]? =some s∧(s.cy=(d:Int)∧(cp l s).Lo≤(cp l s).Hi)∧o=((k:Int),cp l s):=by
 unfold fK og
 show o∈(-1,(⟨r.Start,r.dw⟩:ab))::((bf l r.ae r.ae.length)[d]?).getD []↔_
 rw [kR hd,Option.getD_some,List.mem_cons,nH]
end
section
set_option linter.unusedVariables false
def j5 (w:bg) (b:Nat) (i:Int):Prop:= ∃ b',b'<b∧ ∃ q∈dR w b',q.1=i
noncomputable instance (w:bg) (b:Nat) (i:Int):Decidable (j5 w b i):=Classical.propDecidable _
noncomputable def kK (w:bg) (n:Nat):List Int:=((List.range n).map fun (k:Nat)=>(k:Int)).filter fun i=> !decide (j5 w w.n i)
noncomputable def eN (l:aV) (r:bj):List Int:=if cD l r 0=0 then kK (a6 l r) r.ae.length else []
theorem pc {l:aV} {r:bj} (h:cD l r 0=0):eN l r=kK (a6 l r) r.ae.length:=if_pos h
theorem mP {l:aV} {r:bj} (h: ¬ cD l r 0=0):eN l r=[]:=if_neg h
def ji (w:bg) (b:Nat):Bool:=(dR w b).any fun q=>decide (0≤q.1)
def eF (w:bg) (k:Nat):List Int:=((List.range k).filter fun b=> !ji w b).map fun (b:Nat)=>(b:Int)
noncomputable def dH (l:aV) (r:bj):List Int:=if cD l r 0=0 then eF (a6 l r) (iF (cJ l r)).toNat else []
theorem j4 {l:aV} {r:bj} (h:cD l r 0=0):dH l r=eF (a6 l r) (iF (cJ l r)).toNat:=if_pos h
theorem jg {l:aV} {r:bj} (h: ¬ cD l r 0=0):dH l r=[]:=if_neg h
theorem uK {w:bg} {k:Nat} (h:ji w k=false):eF w (k+1)=eF w k++[(k:Int)]:=by simp [eF,List.range_succ,h]
theorem w9 {w:bg} {k:Nat} (h:ji w k=true):eF w (k+1)=eF w k:=by simp [eF,List.range_succ,h]
theorem lR {w:bg} {k:Nat}:(eF w k).length≤k:=by
 unfold eF
 rw [List.length_map]
 exact Nat.le_trans (List.length_filter_le _ _) (by simp)
abbrev BM:=List (Int×Bool)
def hO (n:Nat):BM:=(List.range n).map fun (k:Nat)=>((k:Int),true)
theorem ua {n:Nat}:dz (hO n) (n:Int) true=hO (n+1):=by
 have hn:(hO n).lookup (n:Int)=none:=fy.2 fun p hp e=>by
  unfold hO at hp
  obtain ⟨k,hk,rfl⟩:=List.mem_map.1 hp
  have:=List.mem_range.1 hk
  simp only at e; omega
 unfold dz
 rw [hn]
 simp [hO,List.range_succ]
/-- what is left: each key once, those that are not seen -/
structure kF (n:Nat) (m:BM) (P:Int→Prop):Prop where
 nodup:(m.map (·.1)).Nodup
 mem: ∀ i:Int,i∈m.map (·.1)↔(0≤i∧i<(n:Int))∧ ¬ P i
theorem vg {n:Nat}:kF n (hO n) (fun _=>False):=by
 have e:(hO n).map (·.1)=(List.range n).map fun (k:Nat)=>(k:Int):=by simp [hO]
 refine ⟨by rw [e]; exact List.Pairwise.map _ (fun a b (h:a≠b)=>by show (a:Int)≠(b:Int); omega) List.nodup_range,fun i=>?_⟩
 rw [e,List.mem_map]
 constructor
 ·rintro ⟨k,hk,rfl⟩
  have:=List.mem_range.1 hk
  exact ⟨by omega,fun h=>h⟩
 ·rintro ⟨h,_⟩
  exact ⟨i.toNat,List.mem_range.2 (by omega),by omega⟩
theorem x8 {n:Nat} {m:BM} {P:Int→Prop} {x:Int} (h:kF n m P):kF n (cL m x) (fun i=>P i∨i=x):=by
 have e:(cL m x).map (·.1)=(m.map (·.1)).filter fun i=> !decide (i=x):=by
  unfold cL; rw [List.filter_map]; rfl
 refine ⟨by rw [e]; exact h.nodup.filter _,fun i=>?_⟩
 rw [e,List.mem_filter,h.mem]
 simp only [Bool.not_eq_true',decide_eq_false_iff_not]
 constructor
 ·rintro ⟨⟨h1,h2⟩,h3⟩; exact ⟨h1,fun q=>q.elim h2 h3⟩
 ·rintro ⟨h1,h2⟩; exact ⟨⟨h1,fun q=>h2 (.inl q)⟩,fun q=>h2 (.inr q)⟩
theorem mn {n:Nat} {m:BM} {P R:Int→Prop} (h:kF n m P) (he: ∀ i,P i↔R i):kF n m R:=⟨h.nodup,fun i=>by rw [h.mem,he]⟩
theorem pr {x:Int}: ∀ {l:List Int},l.Nodup→x∈l→l.count x=1
 |[],_,h=>by cases h
 |y::l,hn,hx=>by
  rw [List.nodup_cons] at hn
  by_cases e:y=x
  ·subst e
   rw [List.count_cons_self,List.count_eq_zero.2 hn.1]
  ·rw [List.count_cons_of_ne e]
   rcases List.mem_cons.1 hx with q|q
   ·exact absurd q.symm e
   ·exact pr hn.2 q
theorem qb {a b:List Int} (ha:a.Nodup) (hb:b.Nodup) (h: ∀ x,x∈a↔x∈b):a.Perm b:=by
 rw [List.perm_iff_count]
 intro x
 have c: ∀ l:List Int,l.Nodup→l.count x=if x∈l then 1 else 0:=fun l hl=>by
  split
  ·rename_i hx; exact pr hl hx
  ·rename_i hx; exact List.count_eq_zero.2 hx
 rw [c a ha,c b hb]
 simp only [h x]
theorem rr (w:bg) (n:Nat):(kK w n).Pairwise (· ≤ ·):=by
 unfold kK
 refine List.Pairwise.filter _ (List.Pairwise.map _ (fun a b (h:a<b)=>by show (a:Int)≤(b:Int); omega) List.pairwise_lt_range)
theorem sl (w:bg) (n:Nat):(kK w n).Nodup:=by
 unfold kK
 exact List.Pairwise.filter _ (List.Pairwise.map _ (fun a b (h:a≠b)=>by show (a:Int)≠(b:Int); omega) List.nodup_range)
theorem qz {w:bg} {n:Nat} {i:Int}:i∈kK w n↔(0≤i∧i<(n:Int))∧ ¬ j5 w w.n i:=by
 unfold kK
 rw [List.mem_filter,List.mem_map]
 simp only [Bool.not_eq_true',decide_eq_false_iff_not]
 constructor
 ·rintro ⟨⟨k,hk,rfl⟩,h2⟩
  have:=List.mem_range.1 hk
  exact ⟨by omega,h2⟩
 ·rintro ⟨h1,h2⟩
  exact ⟨⟨i.toNat,List.mem_range.2 (by omega),by omega⟩,h2⟩
theorem vk {w:bg} {n:Nat} {m:BM} {l s:List Int} (h:kF n m (j5 w w.n)) (hl:l.Perm (m.map (·.1))) (hs:s.Perm l) (ho:s.Pairwise (· ≤ ·)):s=kK w n:=
 rf ((hs.trans hl).trans (qb h.nodup (sl w n) fun x=>by rw [h.mem,qz])) ho (rr w n)
/-- one more key is taken -/
theorem zr {m l:BM} {ys:List Int} {x:Int} {y:Bool} (hn:(l.map (·.1)).Nodup) (hm:(x,y)∈l) (h:(ys++l.map (·.1)).Perm (m.map (·.1))):((ys++[x])++(cL l x).map (·.1)).Perm (m.map (·.1)):=by
 refine List.Perm.trans ?_ h
 rw [List.append_assoc]
 refine List.Perm.append_left ys ?_
 have e:(cL l x).map (·.1)=(l.map (·.1)).filter fun i=> !decide (i=x):=by
  unfold cL; rw [List.filter_map]; rfl
 rw [e]
 refine qb (List.nodup_cons.2 ⟨by simp,hn.filter _⟩) hn fun z=>?_
 simp only [List.singleton_append,List.mem_cons,List.mem_filter,Bool.not_eq_true',decide_eq_false_iff_not]
 constructor
 ·rintro (rfl|⟨h1,_⟩)
  ·exact List.mem_map.2 ⟨(z,y),hm,rfl⟩
  ·exact h1
 ·intro hz
  by_cases e:z=x
  ·exact .inl e
  ·exact .inr ⟨hz,e⟩
theorem r9 {w:bg} {b:Nat} {mf mb:List (aq×Int)} (hf:nq mf (fwd w b)) (hb:oj mb (back w (b+1))) (nf:(mf.map (·.1)).Nodup) (nb:(mb.map (·.1)).Nodup) {k:List (Int×ab)} (h1: ∀ q∈k,q∈jE w b mf mb) (h2: ∀ q∈jE w b mf mb,q∈k) (P:Int→Prop):
 (∃ q∈k,P q.1)↔ ∃ q∈dR w b,P q.1:=by
 constructor
 ·rintro ⟨q,hq,hp⟩; exact ⟨q,vr hf hb nf nb (h1 q hq),hp⟩
 ·rintro ⟨q,hq,hp⟩
  obtain ⟨q',hq',e,_⟩:=uu hf hb nf nb hq
  exact ⟨q',h2 q' hq',by rw [e]; exact hp⟩
theorem wK {w:bg} {b:Nat} {i:Int}:j5 w (b+1) i↔j5 w b i∨ ∃ q∈dR w b,q.1=i:=by
 unfold j5
 constructor
 ·rintro ⟨b',hb,h⟩
  rcases Nat.lt_or_ge b' b with q|q
  ·exact .inl ⟨b',q,h⟩
  ·obtain rfl:b'=b:=by omega
   exact .inr h
 ·rintro (⟨b',hb,h⟩|h)
  ·exact ⟨b',by omega,h⟩
  ·exact ⟨b,by omega,h⟩
theorem wo {A:Prop} {k:List (Int×ab)} {q:Int×ab} {i:Int}:((A∨ ∃ z∈k,z.1=i)∨i=q.1)↔(A∨ ∃ z∈k++[q],z.1=i):=by
 constructor
 ·rintro ((h|⟨z,hz,h⟩)|h)
  ·exact .inl h
  ·exact .inr ⟨z,List.mem_append_left _ hz,h⟩
  ·exact .inr ⟨q,by simp,h.symm⟩
 ·rintro (h|⟨z,hz,h⟩)
  ·exact .inl (.inl h)
  ·rcases List.mem_append.1 hz with hz|hz
   ·exact .inl (.inr ⟨z,hz,h⟩)
   ·rw [List.mem_singleton.1 hz] at h; exact .inr h.symm
theorem yr {sb:Bool} {k:List (Int×ab)} {q:Int×ab} (h:sb=true↔ ∃ z∈k,0≤z.1) (hs:sb=true):(true=true)↔ ∃ z∈k++[q],0≤z.1:=⟨fun _=>by
 obtain ⟨z,hz,h0⟩:=h.1 hs
 exact ⟨z,List.mem_append_left _ hz,h0⟩,fun _=>rfl⟩
theorem Bf {sb:Bool} {k:List (Int×ab)} {q:Int×ab} (h:sb=true↔ ∃ z∈k,0≤z.1) (hs:sb=false):(decide (0≤q.1)=true)↔ ∃ z∈k++[q],0≤z.1:=by
 rw [decide_eq_true_eq]
 constructor
 ·intro h0; exact ⟨q,by simp,h0⟩
 ·rintro ⟨z,hz,h0⟩
  rcases List.mem_append.1 hz with hz|hz
  ·have:=h.2 ⟨z,hz,h0⟩; rw [hs] at this; cases this
  ·rw [List.mem_singleton.1 hz] at h0; exact h0
theorem Cr:(false=true)↔ ∃ z∈([]:List (Int×ab)),0≤z.1:=by simp
theorem yN {w:bg} {b:Nat} {sb:Bool} {k:List (Int×ab)} (h:(∃ q∈k,0≤q.1)↔ ∃ q∈dR w b,0≤q.1) (hs:sb=true↔ ∃ q∈k,0≤q.1):ji w b=sb:=by
 rw [Bool.eq_iff_iff,hs,h]
 unfold ji
 simp [List.any_eq_true]
theorem qL {n:Nat} {m:BM} {P:Int→Prop} (h:kF n m P):m.length≤n:=by
 have hp:(m.map (·.1)).Perm (((List.range n).map fun (k:Nat)=>(k:Int)).filter fun i=>decide (i∈m.map (·.1))):=qb h.nodup (List.Pairwise.filter _ (List.Pairwise.map _ (fun a b (h:a≠b)=>by show (a:Int)≠(b:Int); omega) List.nodup_range)) fun x=>by
  rw [List.mem_filter]
  constructor
  ·intro hx
   have:=(h.mem x).1 hx
   exact ⟨List.mem_map.2 ⟨x.toNat,List.mem_range.2 (by omega),by omega⟩,decide_eq_true hx⟩
  ·exact fun hx=>of_decide_eq_true hx.2
 have h1:=hp.length_eq
 have h2:=List.length_filter_le (fun i=>decide (i∈m.map (·.1))) ((List.range n).map fun (k:Nat)=>(k:Int))
 rw [List.length_map] at h1
 rw [List.length_map,List.length_range] at h2
 omega
theorem yZ {l:aV} {r:bj} (h:cD l r 0=0):0≤iF (cJ l r)∧iF (cJ l r)≤(l.aa.length:Int):=by
 have h1:=(v_ (mX h)).1
 rw [gH h] at h1 ⊢
 obtain ⟨i,e,hi,_⟩:=nS.1 h1
 have hn:(a6 l r).n=l.aa.length:=bK
 omega
theorem xg {w:bg} {i:Int}: ¬ j5 w 0 i:=fun ⟨b,hb,_⟩=>absurd hb (Nat.not_lt_zero _)
end
section
set_option linter.unusedVariables false
/-- a truth goes on from here -/
def nO (w:bg) (b:Nat) (p:aq×Int):Prop:= ∃ k,b+k≤w.n∧ ∃ q∈eA w k b p,kj w q.1=true
/-- a truth may have come here, or earlier -/
def uD (w:bg) (b:Nat) (p:aq×Int):Prop:= ∃ v,(p.1,v)∈fwd w b∧v≤p.2
def xS (n:Int) (p:aq×Int):aq×Int:=(p.1,p.2+n)
section
variable {w:bg}
theorem wu: ∀ (k j b:Nat) (p q z:aq×Int),q∈eA w k b p→z∈eA w j (b+k) q→z∈eA w (k+j) b p:=by
 intro k
 induction k with
 |zero=>
  intro j b p q z h1 h2
  simp only [eA,List.mem_singleton] at h1
  subst h1
  rw [Nat.zero_add]; exact h2
 |succ k ih=>
  intro j b p q z h1 h2
  obtain ⟨o,ho,p',e,h⟩:=fp.1 h1
  rw [show k+1+j=(k+j)+1 by omega]
  exact fp.2 ⟨o,ho,p',e,ih j (b+1) p' q z h (by rw [show b+1+k=b+(k+1) by omega]; exact h2)⟩
theorem uh: ∀ (k b:Nat) (t:aq) (x y:Int) (q:aq×Int),y≤x→q∈eA w k b (t,x)→ ∃ q'∈eA w k b (t,y),q'.1=q.1∧q'.2≤q.2:=by
 intro k
 induction k with
 |zero=>
  intro b t x y q hxy hq
  simp only [eA,List.mem_singleton] at hq ⊢
  subst hq
  exact ⟨_,rfl,rfl,hxy⟩
 |succ k ih=>
  intro b t x y q hxy hq
  obtain ⟨o,ho,p',e,h⟩:=fp.1 hq
  obtain ⟨h1,rfl⟩:=eZ.1 e
  simp only at h1 h
  obtain ⟨q',hq',h2,h3⟩:=ih (b+1) _ _ (max (y+bU w b) o.2.Lo) q (by omega) h
  exact ⟨q',fp.2 ⟨o,ho,_,eZ.2 ⟨by simp only; omega,rfl⟩,hq'⟩,h2,h3⟩
theorem qK {b:Nat} {t:aq} {x y:Int} (h:nO w b (t,x)) (hy:y≤x):nO w b (t,y):=by
 obtain ⟨k,hk,q,hq,hm⟩:=h
 obtain ⟨q',hq',e,_⟩:=uh k b t x y q hy hq
 exact ⟨k,hk,q',hq',by rw [e]; exact hm⟩
theorem o_ {k b:Nat} {p q:aq×Int} (h:q∈eA w k b p) (hv:nO w (b+k) q):nO w b p:=by
 obtain ⟨j,hj,z,hz,hm⟩:=hv
 exact ⟨k+j,by omega,z,wu k j b p q z h hz,hm⟩
theorem wx {b:Nat} {p q:aq×Int} {o:Int×ab} (h:uD w b p) (ho:o∈fK w b) (e:iE w b p o=some q):uD w (b+1) q:=by
 obtain ⟨v,hv,hle⟩:=h
 obtain ⟨h1,rfl⟩:=eZ.1 e
 exact ⟨max (v+bU w b) o.2.Lo,ep.2 ⟨_,hv,o,ho,eZ.2 ⟨by simp only; omega,rfl⟩⟩,by simp only; omega⟩
theorem uk {b:Nat} {p:aq×Int} (h:p∈fwd w b):uD w b p:=⟨p.2,h,Int.le_refl _⟩
theorem rL (hl: ∀ b,0≤bU w b): ∀ (b:Nat) (p:aq×Int),p∈fwd w b→w.Start≤p.2:=by
 intro b
 induction b with
 |zero=>intro p hp; simp only [fwd,List.mem_singleton] at hp; subst hp; exact Int.le_refl _
 |succ b ih=>
  intro q hq
  obtain ⟨p,hp,o,ho,e⟩:=ep.1 hq
  obtain ⟨_,rfl⟩:=eZ.1 e
  have:=ih p hp
  have:=hl b
  simp only; omega
/-- a beam is passed at a time, by a signal -/
def sR (w:bg) (b:Nat) (s t:Int):Prop:= ∃ p∈fwd w b,∃ o∈fK w b,o.1=s∧(max (p.2+bU w b) o.2.Lo≤t∧t≤min o.2.Hi w.dw)∧nO w (b+1) (dc p.1 (dI o.1),t)
theorem ks (hl: ∀ b,0≤bU w b) {b:Nat} (hb:b<w.n) {s t:Int}:(∃ q∈dR w b,q.1=s∧q.2.Lo≤t∧t≤q.2.Hi)↔sR w b s t:=by
 constructor
 ·rintro ⟨q,hq,hs,h1,h2⟩
  obtain ⟨o,ho,p,hp,u,hu,e⟩:=fo.1 hq
  obtain ⟨h3,h4,rfl⟩:=g3.1 e
  simp only [gQ] at h1 h2 h3
  have hn:u.2≤w.dw:=vT hl _ _ hu
  obtain ⟨k,hk,q,hq',h5⟩:=x3 hl (w.n-(b+1)) (b+1) (dc p.1 (dI o.1),t) u (by omega) (by simp only; omega) hu
  refine ⟨p,hp,o,ho,hs,⟨by omega,by omega⟩,k,hk,q,hq',?_⟩
  rw [h5]
  unfold qp at h4
  rw [show dc (dc p.1 (dI o.1)) u.1=dc (dc p.1 u.1) (dI o.1) by simp only [dc,aq.mk.injEq]; omega]
  exact h4
 ·rintro ⟨p,hp,o,ho,hs,⟨h1,h2⟩,k,hk,q,hq,hm⟩
  obtain ⟨u,hu,h3,h4⟩:=Ak k (b+1) _ q hk (by simp only; omega) hq
  simp only at h3 h4
  refine ⟨(o.1,gQ w b p u o),fo.2 ⟨o,ho,p,hp,u,hu,g3.2 ⟨by simp only [gQ]; omega,?_,rfl⟩⟩,hs,by simp only [gQ]; omega,by simp only [gQ]; omega⟩
  unfold qp
  rw [h4] at hm
  rw [show dc (dc p.1 u.1) (dI o.1)=dc (dc p.1 (dI o.1)) u.1 by simp only [dc,aq.mk.injEq]; omega]
  exact hm
end
structure pJ (w w':bg) (n:Int) (f:Int→Int):Prop where
 start:w'.Start=w.Start+n
 now:w'.dw=w.dw+n
 wn:w'.n=w.n
 low: ∀ b,0≤bU w b
 least: ∀ b,bU w' b=bU w b
 may: ∀ t,kj w t=true→kj w' t=true
 F3: ∀ s,0≤f s↔0≤s
 opt: ∀ (b:Nat) (p:aq×Int) (o:Int×ab),b<w.n→w.Start≤p.2→uD w b p→o∈fK w b→max (p.2+bU w b) o.2.Lo≤min o.2.Hi w.dw→nO w (b+1) (dc p.1 (dI o.1),max (p.2+bU w b) o.2.Lo)→
  ∃ o'∈fK w' b,o'.1=f o.1∧ ∀ t,w.Start≤t→t≤w.dw→((o.2.Lo≤t∧t≤o.2.Hi)↔(o'.2.Lo≤t+n∧t+n≤o'.2.Hi))
section
variable {w w':bg} {n:Int} {f g:Int→Int}
theorem pJ.one (h:pJ w w' n f) (s:Int):dI (f s)=dI s:=by
 unfold dI
 have:=h.F3 s
 by_cases q:s<0
 ·rw [if_pos q,if_pos (by omega)]
 ·rw [if_neg q,if_neg (by omega)]
theorem pJ.step (h:pJ w w' n f) {b:Nat} {p q:aq×Int} {o:Int×ab} (hb:b<w.n) (hs:w.Start≤p.2) (hl:uD w b p) (ho:o∈fK w b) (e:iE w b p o=some q) (hv:nO w (b+1) q):
 ∃ o'∈fK w' b,iE w' b (xS n p) o'=some (xS n q):=by
 obtain ⟨h1,rfl⟩:=eZ.1 e
 obtain ⟨o',ho',e1,h2⟩:=h.opt b p o hb hs hl ho h1 hv
 have hlo:=h.low b
 have c1:=h2 (max (p.2+bU w b) o.2.Lo) (by omega) (by omega)
 have c2:=h2 (max (p.2+n+bU w b) o'.2.Lo-n) (by omega)
 refine ⟨o',ho',eZ.2 ?_⟩
 simp only [xS,h.least,h.now]
 rw [e1,h.one]
 have d1:=c1.1 (by omega)
 have d2:=(c2 (by omega)).2 (by omega)
 refine ⟨by omega,?_⟩
 simp only [Prod.mk.injEq,true_and]
 omega
theorem pJ.reach (h:pJ w w' n f): ∀ (k b:Nat) (p q:aq×Int),b+k≤w.n→w.Start≤p.2→uD w b p→q∈eA w k b p→nO w (b+k) q→xS n q∈eA w' k b (xS n p):=by
 intro k
 induction k with
 |zero=>
  intro b p q _ _ _ hq _
  simp only [eA,List.mem_singleton] at hq ⊢
  rw [hq]
 |succ k ih=>
  intro b p q hb hs hl hq hv
  obtain ⟨o,ho,p',e,hq'⟩:=fp.1 hq
  have hv':nO w (b+1) p':=o_ hq' (by rw [show b+1+k=b+(k+1) by omega]; exact hv)
  obtain ⟨o',ho',e'⟩:=h.step (by omega) hs hl ho e hv'
  have h1:=eZ.1 e
  have h2:=h.low b
  exact fp.2 ⟨o',ho',_,e',ih (b+1) p' q (by omega) (by rw [h1.2]; simp only; omega) (wx hl ho e) hq' (by rw [show b+1+k=b+(k+1) by omega]; exact hv)⟩
theorem pJ.B2 (h:pJ w w' n f) {b:Nat} {p:aq×Int} (hs:w.Start≤p.2) (hl:uD w b p) (hv:nO w b p):nO w' b (xS n p):=by
 obtain ⟨k,hk,q,hq,hm⟩:=hv
 exact ⟨k,by rw [h.wn]; exact hk,_,h.reach k b p q hk hs hl hq ⟨0,by omega,q,by simp [eA],hm⟩,h.may _ hm⟩
theorem pJ.fwd (h:pJ w w' n f) {b:Nat} {q:aq×Int} (hb:b≤w.n) (hq:q∈fwd w b) (hv:nO w b q):xS n q∈Go.Proofs.YthiigjekcdjkkaaGreat.fwd w' b:=by
 obtain ⟨p,hp,hr⟩:=(sd b 0 q).1 (by rw [Nat.zero_add]; exact hq)
 have hr':=h.reach b 0 p q (by omega) (rL h.low 0 p hp) (uk hp) hr (by rw [Nat.zero_add]; exact hv)
 have:xS n p∈Go.Proofs.YthiigjekcdjkkaaGreat.fwd w' 0:=by
  simp only [Go.Proofs.YthiigjekcdjkkaaGreat.fwd,List.mem_singleton] at hp ⊢
  subst hp
  rw [h.start]; rfl
 have h2:=(sd b 0 (xS n q)).2 ⟨_,this,hr'⟩
 rwa [Nat.zero_add] at h2
theorem pJ.any (h:pJ w w' n f) {b:Nat} (hb:b≤w.n) (hm:hG w (Go.Proofs.YthiigjekcdjkkaaGreat.fwd w b)=true):hG w' (Go.Proofs.YthiigjekcdjkkaaGreat.fwd w' b)=true:=by
 unfold hG at hm ⊢
 obtain ⟨p,hp,h1⟩:=List.any_eq_true.1 hm
 exact List.any_eq_true.2 ⟨_,h.fwd hb hp ⟨0,by omega,p,by simp [eA],h1⟩,h.may _ h1⟩
theorem pJ.pass (h:pJ w w' n f) {b:Nat} (hb:b<w.n) {s t:Int} (hp:sR w b s t):sR w' b (f s) (t+n):=by
 obtain ⟨p,hp,o,ho,rfl,⟨h1,h2⟩,hv⟩:=hp
 have hs:=rL h.low b p hp
 have hl:=h.low b
 have hv1:nO w (b+1) (dc p.1 (dI o.1),max (p.2+bU w b) o.2.Lo):=qK hv h1
 have e:iE w b p o=some (dc p.1 (dI o.1),max (p.2+bU w b) o.2.Lo):=eZ.2 ⟨by omega,rfl⟩
 have hvp:nO w b p:=o_ (k:=1) (fp.2 ⟨o,ho,_,e,by simp [eA]⟩) hv1
 obtain ⟨o',ho',e1,h3⟩:=h.opt b p o hb hs (uk hp) ho (by omega) hv1
 have c:=(h3 t (by omega) (by omega)).1 (by omega)
 refine ⟨xS n p,h.fwd (by omega) hp hvp,o',ho',e1,?_,?_⟩
 ·simp only [xS,h.least,h.now]; omega
 ·have h4:=h.B2 (b:=b+1) (p:=(dc p.1 (dI o.1),t)) (by simp only; omega) ⟨_,ep.2 ⟨p,hp,o,ho,e⟩,h1⟩ hv
  rw [e1,h.one]; exact h4
theorem xM (h:pJ w w' n f) (h':pJ w' w (-n) g):dJ w'=dJ w:=by
 unfold dJ
 rw [h.wn]
 unfold gu
 congr 1
 refine List.filter_congr fun b hb=>?_
 have hb:=List.mem_range.1 hb
 rw [Bool.eq_iff_iff]
 exact ⟨h'.any (by rw [h.wn]; omega),h.any (by omega)⟩
theorem rz (h:pJ w w' n f) (h':pJ w' w (-n) g) {b:Nat} (hb:b<w.n) {t:Int}:(∃ q∈dR w b,q.2.Lo≤t∧t≤q.2.Hi)↔ ∃ q∈dR w' b,q.2.Lo≤t+n∧t+n≤q.2.Hi:=by
 constructor
 ·rintro ⟨q,hq,h1,h2⟩
  obtain ⟨q',hq',_,h3⟩:=(ks h'.low (by rw [h.wn]; exact hb)).2 (h.pass hb ((ks h.low hb).1 ⟨q,hq,rfl,h1,h2⟩))
  exact ⟨q',hq',h3⟩
 ·rintro ⟨q,hq,h1,h2⟩
  obtain ⟨q',hq',_,h3⟩:=(ks h.low hb).2 (h'.pass (by rw [h.wn]; exact hb) ((ks h'.low (by rw [h.wn]; exact hb)).1 ⟨q,hq,rfl,h1,h2⟩))
  exact ⟨q',hq',by omega,by omega⟩
theorem ub (h:pJ w w' n f) (hl': ∀ b,0≤bU w' b) {b:Nat} (hb:b<w.n) {s:Int} (hq: ∃ q∈dR w b,q.1=s): ∃ q∈dR w' b,q.1=f s:=by
 obtain ⟨q,hq,e⟩:=hq
 have hle:q.2.Lo≤q.2.Hi:=g9 hq
 obtain ⟨q',hq',e',_⟩:=(ks hl' (by rw [h.wn]; exact hb)).2 (h.pass hb ((ks h.low hb).1 ⟨q,hq,e,Int.le_refl _,hle⟩))
 exact ⟨q',hq',e'⟩
theorem yn (h:pJ w w' n f) (h':pJ w' w (-n) g) {b:Nat} (hb:b<w.n):(gG (dR w b)=gT↔gG (dR w' b)=gT)∧(gG (dR w b)≠gT→gG (dR w' b)=⟨(gG (dR w b)).Lo+n,(gG (dR w b)).Hi+n⟩):=by
 have key: ∀ {u v:bg} {m:Int},(∀ t,(∃ q∈dR u b,q.2.Lo≤t∧t≤q.2.Hi)→ ∃ q∈dR v b,q.2.Lo≤t+m∧t+m≤q.2.Hi)→gG (dR u b)≠gT→gG (dR v b)≠gT∧(gG (dR v b)).Lo≤(gG (dR u b)).Lo+m∧(gG (dR u b)).Hi+m≤(gG (dR v b)).Hi:=by
  intro u v m ht hn
  have h1:=rG (l:=dR u b) (fun q hq=>g9 hq) hn
  obtain ⟨x,hx,ex⟩:=h1.lo
  obtain ⟨y,hy,ey⟩:=h1.hi
  have hx2:x.2.Lo≤x.2.Hi:=g9 hx
  have hy2:y.2.Lo≤y.2.Hi:=g9 hy
  obtain ⟨x',hx',a1,a2⟩:=ht x.2.Lo ⟨x,hx,Int.le_refl _,hx2⟩
  obtain ⟨y',hy',b1,b2⟩:=ht y.2.Hi ⟨y,hy,hy2,Int.le_refl _⟩
  have h2:=sS (l:=dR v b) (fun q hq=>g9 hq) hx'
  have c1:=h2.all x' hx'
  have c2:=h2.all y' hy'
  exact ⟨h2.ne,by omega,by omega⟩
 have k1:=key (u:=w) (v:=w') (m:=n) fun t=>(rz h h' hb).1
 have k2:=key (u:=w') (v:=w) (m:= -n) fun t hq=>(rz h h' hb).2 (by rw [show t+ -n+n=t by omega]; exact hq)
 refine ⟨⟨fun e=>Classical.byContradiction fun q=>(k2 q).1 e,fun e=>Classical.byContradiction fun q=>(k1 q).1 e⟩,fun q=>?_⟩
 have h1:=k1 q
 have h2:=k2 h1.1
 rw [ab.ext_iff]
 simp only
 omega
theorem wb (h:pJ w w' n f) (h':pJ w' w (-n) g) {b:Nat} (hb:b<w.n):ji w' b=ji w b:=by
 rw [Bool.eq_iff_iff]
 unfold ji
 simp only [List.any_eq_true,decide_eq_true_eq]
 constructor
 ·rintro ⟨q,hq,h0⟩
  obtain ⟨q',hq',e⟩:=ub h' h.low (by rw [h.wn]; exact hb) ⟨q,hq,rfl⟩
  exact ⟨q',hq',by rw [e]; exact (h'.F3 _).2 h0⟩
 ·rintro ⟨q,hq,h0⟩
  obtain ⟨q',hq',e⟩:=ub h h'.low hb ⟨q,hq,rfl⟩
  exact ⟨q',hq',by rw [e]; exact (h.F3 _).2 h0⟩
end
section
variable {l l':aV} {r r':bj} {n:Int} {f g:Int→Int}
structure nT (l:aV) (r:bj) (l':aV) (r':bj) (n:Int) (f g:Int→Int):Prop where
 line:cw l=0
 line':cw l'=0
 rp:c7 l r
 ride':c7 l' r'
 yL:l'.aa.length=l.aa.length
 to:pJ (a6 l r) (a6 l' r') n f
 EY:pJ (a6 l' r') (a6 l r) (-n) g
theorem nT.xp (h:nT l r l' r' n f g):dJ (a6 l' r')=dJ (a6 l r):=xM h.to h.EY
theorem nT.e (h:nT l r l' r' n f g) {me:Int}:cD l' r' me=cD l r me:=by
 by_cases hm:me=0
 ·by_cases q:dJ (a6 l r)=[]
  ·rw [cV h.line h.rp hm q,cV h.line' h.ride' hm (h.xp.trans q)]
  ·rw [iX h.line h.rp hm q,iX h.line' h.ride' hm (by rw [h.xp]; exact q)]
 ·rw [ew h.line h.rp hm,ew h.line' h.ride' hm]
theorem nT.qj (h:nT l r l' r' n f g):cJ l' r'=cJ l r:=by
 by_cases q:cD l r 0=0
 ·rw [gH q,gH (h.e.trans q),h.xp]
 ·rw [jO q,jO (by rw [h.e]; exact q)]
theorem nT.ij (h:nT l r l' r' n f g) {b:Int}:fI l' b=fI l b:=by unfold fI; rw [h.yL]
theorem nT.bn (h:nT l r l' r' n f g):(a6 l r).n=l.aa.length:=bK
theorem nT.nM (h:nT l r l' r' n f g) {b:Nat} (hb:b<l.aa.length):cS l' r' b=cS l r b∧(cS l r b=0→bR l' r' b=⟨(bR l r b).Lo+n,(bR l r b).Hi+n⟩)∧(¬ cS l r b=0→bR l' r' b=bR l r b):=by
 have hh:=yn h.to h.EY (b:=b) (by rw [h.bn]; exact hb)
 by_cases ho:cD l r (fI l b)=0
 ·have ho':cD l' r' (fI l' b)=0:=by rw [h.ij,h.e]; exact ho
  by_cases e:j0 l r b=gT
  ·have e1:=iA ho e
   have e2:=iA ho' (hh.1.1 e)
   exact ⟨e2.1.trans e1.1.symm,fun q=>by rw [e1.1] at q; omega,fun _=>e2.2.trans e1.2.symm⟩
  ·have e1:=fr ho e
   have e2:=fr ho' (fun q=>e (hh.1.2 q))
   refine ⟨e2.1.trans e1.1.symm,fun _=>?_,fun q=>absurd e1.1 q⟩
   rw [e2.2,e1.2]; exact hh.2 e
 ·have e1:=gW ho
  have e2:=gW (l:=l') (r:=r') (b:=(b:Int)) (by rw [h.ij,h.e]; exact ho)
  rw [h.ij,h.e] at e2
  exact ⟨e2.1.trans e1.1.symm,fun q=>absurd (e1.1.symm.trans q) ho,fun _=>e2.2.trans e1.2.symm⟩
theorem nT.dn (h:nT l r l' r' n f g):dH l' r'=dH l r:=by
 by_cases q:cD l r 0=0
 ·rw [j4 q,j4 (h.e.trans q),h.qj]
  have hb:=yZ q
  unfold eF
  congr 1
  refine List.filter_congr fun b hb2=>?_
  have hb2:=List.mem_range.1 hb2
  rw [wb h.to h.EY (by rw [h.bn]; omega)]
 ·rw [jg q,jg (by rw [h.e]; exact q)]
end
theorem lv {l:aV} {r:bj}:(eN l r).length≤r.ae.length:=by
 by_cases h:cD l r 0=0
 ·rw [pc h]
  unfold kK
  exact Nat.le_trans (List.length_filter_le _ _) (by simp)
 ·rw [mP h]; exact Nat.zero_le _
theorem kp {l:aV} {r:bj}:(dH l r).length≤100:=by
 by_cases h:cD l r 0=0
 ·rw [j4 h]
  have h1:=yZ h
  have h2:=(dD (fF h).1).2.head
  unfold cU at h2
  have h3:=lR (w:=a6 l r) (k:=(iF (cJ l r)).toNat)
  omega
 ·rw [jg h]; simp
end
section
set_option linter.unusedVariables false
theorem yC {c:ao} (h:dv c) {rd t:Int} (ht:0≤t∧t≤86400000):((ee c t).Lo≤rd-t∧rd-t≤(ee c t).Hi)↔((l5 c rd).Lo≤t∧t≤(l5 c rd).Hi):=by
 obtain ⟨h1,h2,h3,h4⟩:=kZ h (r:=rd) ht.1 (by omega)
 unfold l5
 simp only
 constructor
 ·rintro ⟨a,b⟩
  refine ⟨?_,?_⟩
  ·rcases Int.lt_or_le t (ej (fE c rd) 86400001) with q|q
   ·have:=h1 q
    unfold fE at this
    have:=of_decide_eq_false this
    omega
   ·exact q
  ·rcases Int.lt_or_le t (ej (fB c rd) 86400001) with q|q
   ·omega
   ·have:=h4 q
    unfold fB at this
    have:=of_decide_eq_true this
    omega
 ·rintro ⟨a,b⟩
  have e1:=h2 a
  have e2:=h3 (by omega)
  unfold fE at e1
  unfold fB at e2
  have e1:=of_decide_eq_true e1
  have e2:=of_decide_eq_false e2
  omega
theorem k5 {l:aV} (ht:bY l.au=true) (h:jB l) {i:Nat} (hi:i<l.aa.length):1≤eO l i∧eO l i≤500000000:=by
 have h2:=h.re i hi
 have h3:=ur ht h.ij i
 have hf:=h.head.1
 unfold eO mx
 refine ⟨(Int.le_ediv_iff_mul_le (by omega)).2 (by omega),?_⟩
 have:(1000*iw l i+l.bJ-1)/l.bJ≤1000*iw l i+l.bJ-1:=Int.ediv_le_self _ (by omega)
 omega
end
section
set_option linter.unusedVariables false
def j7 (good:List Int):aq:=good.foldl (fun t g=>dc t (dI g)) ⟨0,0⟩
theorem ku {l:List Int} {g:Int}:j7 (l++[g])=dc (j7 l) (dI g):=by unfold j7; rw [List.foldl_append]; rfl
def od (r:bj) (times:List Int) (b:Nat):Int:=if b=0 then r.Start else (times[b-1]?).getD 0
theorem lG {r:bj} {times:List Int} {b:Nat} {t:Int} (h:times[b]? =some t):od r times (b+1)=t:=by unfold od; rw [if_neg (by omega),Nat.add_sub_cancel,h]; rfl
structure eh (l:aV) (r:bj) (times good:List Int):Prop where
 rp:c7 l r
 len:good.length=times.length
 le:times.length≤l.aa.length
 step: ∀ (b:Nat) t,times[b]? =some t→od r times b+eO l b≤t∧t≤r.dw
 sig: ∀ (b:Nat) t g,times[b]? =some t→good[b]? =some g→g= -1∨ ∃ (k:Nat) (s:av),g=(k:Int)∧r.ae[k]? =some s∧s.cy=(b:Int)∧(cp l s).Lo≤t∧t≤(cp l s).Hi
 tk:(j7 good).dn≤l.aO
 D8:(r.ae.length:Int)-(j7 good).right≤l.aZ
section
variable {l:aV} {r:bj} {times good:List Int}
theorem eh.low (h:eh l r times good) (hl:cw l=0): ∀ b,0≤bU (a6 l r) b:=fun b=>by
 obtain ⟨ht,hok⟩:=dD hl
 exact ((iK ht hok h.rp).bU b).1
theorem eh.least (h:eh l r times good) {b:Nat} (hb:b<times.length):bU (a6 l r) b=eO l b:=by
 have:=h.le
 rw [wD,if_pos (by omega)]
theorem eh.from_ (h:eh l r times good) (hl:cw l=0): ∀ b:Nat,b≤times.length→r.Start≤od r times b∧od r times b≤r.dw:=by
 intro b
 induction b with
 |zero=>intro _; have:=h.rp.time; unfold od; rw [if_pos rfl]; omega
 |succ b ih=>
  intro hb
  have ht:times[b]? =some (times[b]'(by omega)):=List.getElem?_eq_getElem _
  have h1:=ih (by omega)
  have h2:=h.step b _ ht
  have h3:=h.low hl b
  rw [h.least (by omega)] at h3
  rw [lG ht]
  omega
/-- what comes next, in the truth -/
theorem eh.opt (h:eh l r times good) (hl:cw l=0) {b:Nat} {t g:Int} (ht:times[b]? =some t) (hg:good[b]? =some g): ∃ o∈fK (a6 l r) b,o.1=g∧o.2.Lo≤t∧t≤o.2.Hi:=by
 have hb:=(List.getElem?_eq_some_iff.1 ht).1
 have h1:=h.le
 have h2:=h.step b t ht
 have h3:=h.from_ hl b (by omega)
 have h4:=h.low hl b
 rw [h.least hb] at h4
 rcases h.sig b t g ht hg with rfl|⟨k,s,rfl,hs,hbm,h5,h6⟩
 ·exact ⟨(-1,⟨r.Start,r.dw⟩),(x9 (by omega)).2 (.inl rfl),rfl,by simp only; omega,by simp only; omega⟩
 ·exact ⟨((k:Int),cp l s),(x9 (by omega)).2 (.inr ⟨k,(List.getElem?_eq_some_iff.1 hs).1,s,hs,⟨hbm,by omega⟩,rfl⟩),rfl,h5,h6⟩
theorem k6 {α:Type} {l:List α} {b:Nat} {x:α} (h:l[b]? =some x):l.take (b+1)=l.take b++[x]:=by rw [List.take_add_one,h]; rfl
theorem eh.live (h:eh l r times good) (hl:cw l=0): ∀ b:Nat,b≤times.length→uD (a6 l r) b (j7 (good.take b),od r times b):=by
 intro b
 induction b with
 |zero=>intro _; exact ⟨r.Start,by simp [fwd,j7]; rfl,by unfold od; rw [if_pos rfl]; exact Int.le_refl _⟩
 |succ b ih=>
  intro hb
  have h0:=h.len
  have ht:times[b]? =some (times[b]'(by omega)):=List.getElem?_eq_getElem _
  have hg:good[b]? =some (good[b]'(by omega)):=List.getElem?_eq_getElem _
  obtain ⟨v,hv,hle⟩:=ih (by omega)
  obtain ⟨o,ho,e,h1,h2⟩:=h.opt hl ht hg
  have h3:=h.step b _ ht
  have h4:=h.least (b:=b) (by omega)
  simp only at hle hv
  rw [lG ht,k6 hg,ku,← e]
  refine ⟨max (v+bU (a6 l r) b) o.2.Lo,ep.2 ⟨_,hv,o,ho,eZ.2 ⟨?_,rfl⟩⟩,?_⟩
  ·have h5:(a6 l r).dw=r.dw:=rfl
   simp only; omega
  ·simp only; omega
theorem eh.B2 (h:eh l r times good) (hl:cw l=0): ∀ (d b:Nat),b+d=times.length→nO (a6 l r) b (j7 (good.take b),od r times b):=by
 intro d
 induction d with
 |zero=>
  intro b hb
  have hn:(a6 l r).n=l.aa.length:=bK
  have h0:=h.len
  have h1:=h.le
  refine ⟨0,by omega,_,by simp [eA]; rfl,?_⟩
  rw [List.take_of_length_le (by omega)]
  unfold kj
  have h2:=h.tk
  have h3:=h.D8
  exact decide_eq_true ⟨h2,h3⟩
 |succ d ih=>
  intro b hb
  have h0:=h.len
  have ht:times[b]? =some (times[b]'(by omega)):=List.getElem?_eq_getElem _
  have hg:good[b]? =some (good[b]'(by omega)):=List.getElem?_eq_getElem _
  obtain ⟨o,ho,e,h1,h2⟩:=h.opt hl ht hg
  have h3:=h.step b _ ht
  have h4:=h.least (b:=b) (by omega)
  have h5:(a6 l r).dw=r.dw:=rfl
  have hv:=ih (b+1) (by omega)
  rw [lG ht,k6 hg,ku,← e] at hv
  exact o_ (k:=1) (fp.2 ⟨o,ho,_,eZ.2 ⟨by first|omega|(simp only; omega),rfl⟩,by simp [eA]; rfl⟩) (qK hv (by first|omega|(simp only; omega)))
theorem eh.pass (h:eh l r times good) (hl:cw l=0) {b:Nat} {t g:Int} (ht:times[b]? =some t) (hg:good[b]? =some g):sR (a6 l r) b g t:=by
 have hb:=(List.getElem?_eq_some_iff.1 ht).1
 obtain ⟨v,hv,hle⟩:=h.live hl b (by omega)
 obtain ⟨o,ho,e,h1,h2⟩:=h.opt hl ht hg
 have h3:=h.step b _ ht
 have h4:=h.least (b:=b) hb
 have h5:(a6 l r).dw=r.dw:=rfl
 have hw:=h.B2 hl (times.length-(b+1)) (b+1) (by omega)
 rw [lG ht,k6 hg,ku,← e] at hw
 simp only at hle
 exact ⟨_,hv,o,ho,e,⟨by simp only; omega,by omega⟩,hw⟩
theorem eh.num (h:eh l r times good) (hl:cw l=0):(times.length:Int)∈dJ (a6 l r):=by
 obtain ⟨v,hv,_⟩:=h.live hl times.length (Nat.le_refl _)
 have hn:(a6 l r).n=l.aa.length:=bK
 have h1:=h.le
 refine nS.2 ⟨times.length,rfl,by omega,?_⟩
 unfold hG
 refine List.any_eq_true.2 ⟨_,hv,?_⟩
 have h0:=h.len
 rw [List.take_of_length_le (by omega)]
 unfold kj
 exact decide_eq_true ⟨h.tk,h.D8⟩
theorem eh.e (h:eh l r times good) (hl:cw l=0):cD l r 0=0:=iX hl h.rp rfl fun e=>by have:=h.num hl; rw [e] at this; cases this
theorem eh.qj (h:eh l r times good) (hl:cw l=0):(times.length:Int)∈cJ l r:=by rw [gH (h.e hl)]; exact h.num hl
theorem eh.clear (h:eh l r times good) (hl:cw l=0):(dG l r=2→l.aB<(times.length:Int))∧(dG l r=0→(times.length:Int)≤l.aB):=by
 have hm:=h.qj hl
 have h1:=(v_ (mX (h.e hl))).2 _ hm
 have h2:=(AT (mX (h.e hl))).2 _ hm
 unfold dG
 rw [if_pos (h.e hl)]
 constructor
 ·intro q
  split at q
  ·omega
  ·split at q<;>omega
 ·intro q
  split at q
  ·omega
  ·split at q<;>omega
theorem eh.nM (h:eh l r times good) (hl:cw l=0) {b:Nat} {t:Int} (ht:times[b]? =some t):cS l r b=0∧(bR l r b).Lo≤t∧t≤(bR l r b).Hi:=by
 have hb:=(List.getElem?_eq_some_iff.1 ht).1
 have h0:=h.len
 have h1:=h.le
 have hg:good[b]? =some (good[b]'(by omega)):=List.getElem?_eq_getElem _
 have hn:(a6 l r).n=l.aa.length:=bK
 obtain ⟨q,hq,_,h2,h3⟩:=(ks (h.low hl) (by omega)).2 (h.pass hl ht hg)
 have hh:=sS (l:=dR (a6 l r) b) (fun q hq=>g9 hq) hq
 have ho:cD l r (fI l b)=0:=by rw [o7 (by omega)]; exact h.e hl
 have e:=fr ho hh.ne
 refine ⟨e.1,?_⟩
 rw [e.2]
 have:=hh.all q hq
 exact ⟨Int.le_trans this.1 h2,Int.le_trans h3 this.2⟩
theorem eh.not_false (h:eh l r times good) (hl:cw l=0) {b:Nat} {g:Int} (hg:good[b]? =some g) (h0:0≤g): ¬ g∈eN l r∧ ¬ (b:Int)∈dH l r:=by
 have hb:=(List.getElem?_eq_some_iff.1 hg).1
 have h1:=h.len
 have h2:=h.le
 have ht:times[b]? =some (times[b]'(by omega)):=List.getElem?_eq_getElem _
 have hn:(a6 l r).n=l.aa.length:=bK
 obtain ⟨q,hq,e,_⟩:=(ks (h.low hl) (by omega)).2 (h.pass hl ht hg)
 constructor
 ·rw [pc (h.e hl)]
  intro hm
  exact (qz.1 hm).2 ⟨b,by omega,q,hq,e⟩
 ·rw [j4 (h.e hl)]
  intro hm
  unfold eF at hm
  obtain ⟨k,hk,ek⟩:=List.mem_map.1 hm
  obtain rfl:k=b:=by omega
  have hr:=(List.mem_filter.1 hk).2
  have:ji (a6 l r) k=true:=List.any_eq_true.2 ⟨q,hq,decide_eq_true (by omega)⟩
  rw [this] at hr
  cases hr
theorem eh.Bt (h:eh l r times good) (hl:cw l=0) {b:Nat} {t:Int} (ht:times[b]? =some t) (hf:l.aB=(b:Int)):cS l r l.aB=0∧(l6 l r).Lo≤t-r.Start∧t-r.Start≤(l6 l r).Hi:=by
 have h1:=h.nM hl ht
 rw [← hf] at h1
 refine ⟨h1.1,?_⟩
 rw [sh h1.1]
 simp only
 omega
end
end
section
set_option linter.unusedVariables false
theorem jN.more {l:aV} {az:List RA} {fa fi fk ms:Int} (h:jN l az):jN ⟨l.au,fa,l.ag,l.aa,fi,fk,ms⟩ az:=by cases h; constructor<;>assumption
theorem dM.more {l:aV} {az:List RA} {fa fi fk ms:Int} (h:dM l az):dM ⟨l.au,fa,l.ag,l.aa,fi,fk,ms⟩ az:=by cases h; constructor<;>assumption
end
section
set_option linter.unusedVariables false
noncomputable def j_ (N:Nat) (P:Nat→Prop):Nat:=((List.range N).filter fun k=> @decide (P k) (Classical.propDecidable _)).length
theorem gK {N:Nat} {P:Nat→Prop}:(P N→j_ (N+1) P=j_ N P+1)∧(¬ P N→j_ (N+1) P=j_ N P):=by
 unfold j_
 rw [List.range_succ,List.filter_append,List.length_append]
 constructor
 ·intro h
  have: @decide (P N) (Classical.propDecidable _)=true:=(@decide_eq_true _ (Classical.propDecidable _) h)
  simp [this]
 ·intro h
  have: @decide (P N) (Classical.propDecidable _)=false:=(@decide_eq_false _ (Classical.propDecidable _) h)
  simp [this]
theorem vB {N:Nat} {P:Nat→Prop}:j_ N P≤N:=by
 unfold j_
 exact Nat.le_trans (List.length_filter_le _ _) (by simp)
section
variable {l:aV} {r:bj} {i:Nat}
end
end
section
open Go.RowKit
set_option linter.unusedVariables false
theorem lJ {l:List ao} {az:List RA} (h:az.length=l.length):(List.zipWith ao.cells l az).length=l.length:=by simp [h]
theorem ou {l:List ao} {bz:List RA}:(bw (aP ao.owns l bz)).wr=true:=by
 show (aP ao.owns l bz).all (·.wr)=true
 rw [List.all_eq_true]
 intro X hX
 obtain ⟨k,m,a,_,_,h⟩:=my hX
 simp only [ao.owns,List.mem_singleton] at h
 subst h; rfl
theorem jT: ∀ (m:ao) (a:RA) (w:World),(∀ X∈ao.owns m a,X.holds w)→ ∀ X∈ao.eX m a,X.holds w:=fun m a w h X hX=>by
 simp only [ao.eX,List.mem_singleton] at hX
 subst hX
 have:=vc (h _ (List.mem_singleton.2 rfl))
 simpa using this
section
variable {E:eu} {ops:Array Oper} {Q:cZ} {rest:List Oper} {D:List Deferred} {L:List (Nat×Value)} {C:List aD}
end
end
section
open Go.RowKit
set_option linter.unusedVariables false
theorem zO {a b:Int}:mx (a+b) 1000000≤mx a 1000000+mx b 1000000:=by unfold mx; omega
theorem nC {c:ao} {t:Int}: ∀ (l:List bI) (s:ab),(s.Lo≤(l.foldl (eE c t) s).Lo∧(l.foldl (eE c t) s).Hi≤s.Hi)∧(∀ x∈l,x.cx.Lo-kX c t x≤(l.foldl (eE c t) s).Lo∧(l.foldl (eE c t) s).Hi≤x.cx.Hi+kX c t x)∧
 (∀ M,s.Lo≤M→(∀ x∈l,x.cx.Lo-kX c t x≤M)→(l.foldl (eE c t) s).Lo≤M)∧ ∀ M,M≤s.Hi→(∀ x∈l,M≤x.cx.Hi+kX c t x)→M≤(l.foldl (eE c t) s).Hi
 |[],s=>⟨⟨Int.le_refl _,Int.le_refl _⟩,(fun x hx=>by cases hx),(fun M h _=>h),fun M h _=>h⟩
 |y::l,s=>by
  obtain ⟨⟨a1,a2⟩,b,c1,d⟩:=nC (c:=c) (t:=t) l (eE c t s y)
  have e1:(eE c t s y).Lo=max s.Lo (y.cx.Lo-kX c t y):=rfl
  have e2:(eE c t s y).Hi=min s.Hi (y.cx.Hi+kX c t y):=rfl
  simp only [List.foldl_cons]
  refine ⟨⟨by omega,by omega⟩,fun x hx=>?_,fun M h1 h2=>c1 M ?_ fun x hx=>h2 x (List.mem_cons_of_mem _ hx),fun M h1 h2=>d M ?_ fun x hx=>h2 x (List.mem_cons_of_mem _ hx)⟩
  ·rcases List.mem_cons.1 hx with rfl|hx
   ·omega
   ·exact b x hx
  ·have:=h2 y (by simp); omega
  ·have:=h2 y (by simp); omega
theorem yF {c:ao} {t M:Int} (h0: -1099511627776≤M) (h: ∀ x∈c.aJ,x.cx.Lo-kX c t x≤M):(ee c t).Lo≤M:=(nC c.aJ _).2.2.1 M h0 h
theorem zm {c:ao} {t M:Int} (h0:M≤1099511627776) (h: ∀ x∈c.aJ,M≤x.cx.Hi+kX c t x):M≤(ee c t).Hi:=(nC c.aJ _).2.2.2 M h0 h
theorem yY {c:ao} (h:dv c) {x o:bI} (hx:x∈c.aJ) (ho:o∈c.aJ):x.cx.Lo-o.cx.Hi≤mx (c.cz*max (x.At-o.At) (o.At-x.At)) 1000000:=by
 obtain ⟨i,hi⟩:=List.getElem?_of_mem hx
 obtain ⟨k,hk⟩:=List.getElem?_of_mem ho
 rcases Nat.lt_trichotomy k i with q|q|q
 ·have h1:=(h.pair i k x o hi q hk).1
  have h2:=(sr h.sync i x hi).2 k o q hk
  rw [show max (x.At-o.At) (o.At-x.At)=x.At-o.At by omega]; exact h1
 ·subst q; rw [hi] at hk; cases hk
  have h1:=(h.oM hi).2
  rw [show max (x.At-x.At) (x.At-x.At)=0 by omega,Int.mul_zero]; unfold mx; omega
 ·have h1:=(h.pair k i o x hk q hi).2
  have h2:=(sr h.sync k o hk).2 i x q hi
  rw [show max (x.At-o.At) (o.At-x.At)=o.At-x.At by omega]; exact h1
theorem Am {c:ao} (h:0≤c.cz) (x o:bI) (t:Int):mx (c.cz*max (x.At-o.At) (o.At-x.At)) 1000000≤kX c t x+kX c t o:=by
 unfold kX
 have h1:c.cz*max (x.At-o.At) (o.At-x.At)≤c.cz*(max (t-x.At) (x.At-t)+max (t-o.At) (o.At-t)):=Int.mul_le_mul_of_nonneg_left (by omega) h
 rw [Int.mul_add] at h1
 exact Int.le_trans (zj h1) zO
theorem u9 {c:ao} (h:dv c) {t:Int} (ht:0≤t∧t≤90000000):(ee c t).Lo≤(ee c t).Hi:=by
 have hb:=mE h ht
 refine yF (by omega) fun x hx=>zm ?_ fun o ho=>?_
 ·obtain ⟨i,hi⟩:=List.getElem?_of_mem hx
  have h1:=h.oM hi
  have h2:=qa h.gh ht h1.1
  omega
 ·have h1:=yY h hx ho
  have h2:=Am h.gh.1 x o t
  omega
end
section
set_option linter.unusedVariables false
def bx (bl:List Int) (i:Int):Int:=if bl.length=0 then 0 else bl.getD (i % (bl.length:Int)).toNat 0
theorem gI {bl:List Int} (hb: ∀ z∈bl,0≤z∧z≤4294967295) (i:Int):0≤bx bl i∧bx bl i≤4294967295:=by
 unfold bx
 split
 ·omega
 ·rw [List.getD_eq_getElem?_getD]
  cases h:bl[(i % (bl.length:Int)).toNat]? with
  |none=>simp
  |some z=>exact hb z (List.mem_of_getElem? h)
theorem qE {bl:List Int} {i z:Int} (h: ¬ (bl.length:Int)=0) (hz:bl[(i % (bl.length:Int)).toNat]? =some z):bx bl i=z:=by
 unfold bx; rw [if_neg (by omega),List.getD_eq_getElem?_getD,hz]; rfl
def nt (bl:List Int) (i:Int):Int:=([1,50,3000]:List Int).getD (bx bl i % 3).toNat 0
theorem z0 {bl:List Int} (i:Int):1≤nt bl i∧nt bl i≤3000:=by
 have h1:=Int.emod_nonneg (bx bl i) (show (3:Int)≠0 by decide)
 have h2:=Int.emod_lt_of_pos (bx bl i) (show (0:Int)<3 by decide)
 unfold nt
 rcases (show (bx bl i % 3).toNat=0∨(bx bl i % 3).toNat=1∨(bx bl i % 3).toNat=2 by omega) with e|e|e<;>rw [e]<;>decide
def qF (st:Int) (times:List Int) (b:Nat):Int:=if b=0 then st else (times[b-1]?).getD 0
def vC (l:aV) (times:List Int) (x:bh):Prop:= ∃ (k:Nat) (t:Int),x.oH=(k:Int)∧x.bQ.cy=(k:Int)∧times[k]? =some t∧(cp l x.bQ).Lo≤t∧t≤(cp l x.bQ).Hi
def l8 (al:List bh) (k:Nat):Prop:= ∃ x∈al,x.oH=(k:Int)
theorem lT {N:Nat} {P Q:Nat→Prop} (h: ∀ k,k<N→(P k↔Q k)):j_ N P=j_ N Q:=by
 induction N with
 |zero=>rfl
 |succ N ih=>
  have ih:=ih fun k hk=>h k (by omega)
  by_cases c:P N
  ·rw [gK.1 c,gK.1 ((h N (by omega)).1 c),ih]
  ·rw [gK.2 c,gK.2 (fun q=>c ((h N (by omega)).2 q)),ih]
structure iN (l:aV) (st:Int) (b:Nat) (at_ left:Int) (times:List Int) (al:List bh):Prop where
 len:times.length=b
 from_:at_=qF st times b
 step: ∀ (k:Nat) t,times[k]? =some t→qF st times k+eO l k≤t
 Dv:1000≤st∧st≤at_∧at_≤101000+500003000*(b:Int)
 mono: ∀ t∈times,t≤at_
 jU:0≤left∧(b:Int)-(j_ b (l8 al):Int)=l.aO-left
 BA:(al.length:Int)=(j_ b (l8 al):Int)
 sig: ∀ x∈al,vC l times x
section
variable {l:aV} {st at_ left:Int} {b:Nat} {times:List Int} {al:List bh}
theorem uc (h:1000≤st∧st≤101000) (hm:0≤l.aO):iN l st 0 st l.aO [] []:=⟨rfl,rfl,fun k t h=>absurd h (by simp),by omega,fun t h=>absurd h (by simp),⟨hm,by simp [j_]⟩,rfl,fun x h=>absurd h (by simp)⟩
theorem mM {t:Int} {k:Nat} (hk:k≤times.length):qF st (times++[t]) k=qF st times k:=by
 unfold qF
 by_cases e:k=0
 ·rw [if_pos e,if_pos e]
 ·rw [if_neg e,if_neg e,List.getElem?_append_left (by omega)]
theorem rD {t:Int} {x:bh} (h:vC l times x):vC l (times++[t]) x:=by
 obtain ⟨k,t',h1,h2,h3,h4⟩:=h
 exact ⟨k,t',h1,h2,by rw [List.getElem?_append_left (List.getElem?_eq_some_iff.1 h3).1]; exact h3,h4⟩
theorem iN.CM (h:iN l st b at_ left times al) {k:Nat} (hk:l8 al k):k<b:=by
 obtain ⟨x,hx,e⟩:=hk
 obtain ⟨k',t,h1,_,h3,_⟩:=h.sig x hx
 have:=(List.getElem?_eq_some_iff.1 h3).1
 have:=h.len
 omega
theorem iN.tk (h:iN l st b at_ left times al) {d:Int} (hd:eO l b≤d∧d≤eO l b+2999) (hl:1≤eO l b∧eO l b≤500000000) (hp:0<left):iN l st (b+1) (at_+d) (left-1) (times++[at_+d]) al:=by
 have hn: ¬ l8 al b:=fun q=>by have:=h.CM q; omega
 have h1:=h.Dv
 have h2:=h.jU
 have h3:=h.BA
 refine ⟨by rw [List.length_append,h.len]; rfl,?_,fun k t ht=>?_,by omega,fun t ht=>?_,⟨by omega,by rw [gK.2 hn]; omega⟩,by rw [gK.2 hn]; exact h3,fun x hx=>rD (h.sig x hx)⟩
 ·unfold qF
  rw [if_neg (by omega),Nat.add_sub_cancel,← h.len,List.getElem?_append_right (Nat.le_refl _),Nat.sub_self]; rfl
 ·rcases Nat.lt_or_ge k times.length with c|c
  ·rw [List.getElem?_append_left c] at ht
   rw [mM (by omega)]; exact h.step k t ht
  ·have hk:=(List.getElem?_eq_some_iff.1 ht).1
   rw [List.length_append] at hk
   simp only [List.length_singleton] at hk
   obtain rfl:k=times.length:=by omega
   rw [List.getElem?_append_right (Nat.le_refl _),Nat.sub_self] at ht
   simp only [List.getElem?_cons_zero,Option.some.injEq] at ht
   rw [mM (Nat.le_refl _),h.len,← h.from_]; omega
 ·rcases List.mem_append.1 ht with ht|ht
  ·have:=h.mono t ht; omega
  ·rw [List.mem_singleton.1 ht]; exact Int.le_refl _
theorem iN.xC (h:iN l st b at_ left times al) {d:Int} {x:bh} (hd:eO l b≤d∧d≤eO l b+2999) (hl:1≤eO l b∧eO l b≤500000000) (hx:x.oH=(b:Int)) (hb:x.bQ.cy=(b:Int)) (hw:(cp l x.bQ).Lo≤at_+d∧at_+d≤(cp l x.bQ).Hi):iN l st (b+1) (at_+d) left (times++[at_+d]) (al++[x]):=by
 have h1:=h.Dv
 have h2:=h.jU
 have h3:=h.BA
 have hy:l8 (al++[x]) b:=⟨x,by simp,hx⟩
 have hc:j_ b (l8 (al++[x]))=j_ b (l8 al):=lT fun k hk=>⟨fun ⟨y,hy,e⟩=>by
  rcases List.mem_append.1 hy with hy|hy
  ·exact ⟨y,hy,e⟩
  ·rw [List.mem_singleton.1 hy] at e; omega,fun ⟨y,hy,e⟩=>⟨y,List.mem_append_left _ hy,e⟩⟩
 have ht0:(times++[at_+d])[b]? =some (at_+d):=by rw [← h.len,List.getElem?_append_right (Nat.le_refl _),Nat.sub_self]; rfl
 refine ⟨by rw [List.length_append,h.len]; rfl,?_,fun k t ht=>?_,by omega,fun t ht=>?_,⟨by omega,by rw [gK.1 hy,hc]; omega⟩,by rw [gK.1 hy,hc,List.length_append]; simp only [List.length_singleton]; omega,fun y hy=>?_⟩
 ·unfold qF
  rw [if_neg (by omega),Nat.add_sub_cancel,ht0]; rfl
 ·rcases Nat.lt_or_ge k times.length with c|c
  ·rw [List.getElem?_append_left c] at ht
   rw [mM (by omega)]; exact h.step k t ht
  ·have hk:=(List.getElem?_eq_some_iff.1 ht).1
   rw [List.length_append] at hk
   simp only [List.length_singleton] at hk
   obtain rfl:k=times.length:=by omega
   rw [List.getElem?_append_right (Nat.le_refl _),Nat.sub_self] at ht
   simp only [List.getElem?_cons_zero,Option.some.injEq] at ht
   rw [mM (Nat.le_refl _),h.len,← h.from_]; omega
 ·rcases List.mem_append.1 ht with ht|ht
  ·have:=h.mono t ht; omega
  ·rw [List.mem_singleton.1 ht]; exact Int.le_refl _
 ·rcases List.mem_append.1 hy with hy|hy
  ·exact rD (h.sig y hy)
  ·rw [List.mem_singleton.1 hy]
   exact ⟨b,at_+d,hx,hb,ht0,hw⟩
/-- what a clock tells, by a choice -/
theorem uS (hl:cw l=0) {y:aT} (hy:l.aa[b]? =some y) {t rd:Int} (he:gN l y.cO t=0) (hr:t+(cN l y.cO t).Lo≤rd∧rd≤t+(cN l y.cO t).Hi):(0≤t∧t≤86400000)∧(cp l ⟨(b:Int),rd⟩).Lo≤t∧t≤(cp l ⟨(b:Int),rd⟩).Hi:=by
 obtain ⟨_,hok⟩:=dD hl
 have hb:=(hok.ij _ (List.mem_of_getElem? hy)).2
 have ht:0≤t∧t≤86400000:=by
  apply Classical.byContradiction
  intro q
  rw [(jR hl (fun r=>q r.2)).1] at he
  omega
 obtain ⟨c,hc⟩: ∃ c,l.ag[y.cO.toNat]? =some c:=⟨l.ag[y.cO.toNat]'(by omega),List.getElem?_eq_getElem _⟩
 have hco:=hok.clock _ (List.mem_of_getElem? hc)
 have e:=jV (l:=l) (ck:=y.cO) (at_:=t) hl ⟨⟨hb.1,by omega⟩,ht⟩ hc
 rw [e.2] at hr
 refine ⟨ht,?_⟩
 unfold cp
 rw [qJ (l:=l) (s:=⟨(b:Int),rd⟩) (b:=y) (c:=c) (by simpa using hy) hc]
 exact (yC hco ht).1 (by dsimp only; omega)
theorem uO (hl:cw l=0) {y:aT} (hy:l.aa[b]? =some y) {t:Int} (he:gN l y.cO t=0):(0≤t∧t≤86400000)∧(-110000≤(cN l y.cO t).Lo∧(cN l y.cO t).Lo≤10000)∧(cN l y.cO t).Lo≤(cN l y.cO t).Hi∧(cN l y.cO t).Hi≤110000:=by
 obtain ⟨_,hok⟩:=dD hl
 have hb:=(hok.ij _ (List.mem_of_getElem? hy)).2
 have ht:0≤t∧t≤86400000:=by
  apply Classical.byContradiction
  intro q
  rw [(jR hl (fun r=>q r.2)).1] at he
  omega
 obtain ⟨c,hc⟩: ∃ c,l.ag[y.cO.toNat]? =some c:=⟨l.ag[y.cO.toNat]'(by omega),List.getElem?_eq_getElem _⟩
 have hco:=hok.clock _ (List.mem_of_getElem? hc)
 have e:=jV (l:=l) (ck:=y.cO) (at_:=t) hl ⟨⟨hb.1,by omega⟩,ht⟩ hc
 have h1:=mE hco (at_:=t) (by omega)
 have h2:=u9 hco (t:=t) (by omega)
 rw [e.2]
 omega
end
structure l7 (l:aV) (times:List Int) (nb sn:Nat) (al:List bh):Prop where
 sig: ∀ x∈al,x.oH= -1∨vC l times x
 BA:(al.length:Int)=(j_ nb (l8 al):Int)+(sn:Int)
 tk:(nb:Int)-(j_ nb (l8 al):Int)≤l.aO
section
variable {l:aV} {st at_ left:Int} {b nb sn:Nat} {times:List Int} {al al2:List bh}
theorem iN.all (h:iN l st b at_ left times al):l7 l times b 0 al:=⟨fun x hx=> .inr (h.sig x hx),by have:=h.BA; omega,by have:=h.jU; omega⟩
theorem yl (hp:al2.Perm al) {k:Nat}:l8 al2 k↔l8 al k:=⟨fun ⟨x,hx,e⟩=>⟨x,hp.mem_iff.1 hx,e⟩,fun ⟨x,hx,e⟩=>⟨x,hp.mem_iff.2 hx,e⟩⟩
theorem l7.perm (h:l7 l times nb sn al) (hp:al2.Perm al):l7 l times nb sn al2:=by
 have e:j_ nb (l8 al2)=j_ nb (l8 al):=lT fun k _=>yl hp
 exact ⟨fun x hx=>h.sig x (hp.mem_iff.1 hx),by rw [hp.length_eq,e]; exact h.BA,by rw [e]; exact h.tk⟩
theorem l7.EU (h:l7 l times nb sn al) {x:bh} (hx:x.oH= -1):l7 l times nb (sn+1) (al++[x]):=by
 have e:j_ nb (l8 (al++[x]))=j_ nb (l8 al):=lT fun k _=>⟨fun ⟨y,hy,e⟩=>by
  rcases List.mem_append.1 hy with hy|hy
  ·exact ⟨y,hy,e⟩
  ·rw [List.mem_singleton.1 hy] at e; omega,fun ⟨y,hy,e⟩=>⟨y,List.mem_append_left _ hy,e⟩⟩
 refine ⟨fun y hy=>?_,by rw [e,List.length_append]; have:=h.BA; simp only [List.length_singleton]; omega,by rw [e]; exact h.tk⟩
 rcases List.mem_append.1 hy with hy|hy
 ·exact h.sig y hy
 ·rw [List.mem_singleton.1 hy]; exact .inl hx
theorem l7.len (h:l7 l times nb sn al):al.length≤nb+sn:=by
 have:=h.BA
 have:=vB (N:=nb) (P:=l8 al)
 omega
theorem uP {α:Type} {l:List α} {k:Nat} {a c:α} (ha:l[k]? =some a) (hc:l[k+1]? =some c):((l.set k c).set (k+1) a).Perm l:=by
 induction l generalizing k with
 |nil=>simp at ha
 |cons x l ih=>
  cases k with
  |zero=>
   cases l with
   |nil=>simp at hc
   |cons y l=>
    simp at ha hc
    subst ha hc
    simp only [List.set_cons_zero,List.set_cons_succ]
    exact List.Perm.swap _ _ _
  |succ k=>
   simp only [List.set_cons_succ]
   exact (ih (by simpa using ha) (by simpa using hc)).cons x
end
section
variable {l:aV} {nb sn:Nat} {times:List Int} {al:List bh}
theorem tQ {α:Type} (n:Nat) (a:α):List.replicate (n+1) a=List.replicate n a++[a]:=List.replicate_succ'
theorem lY {α:Type} {l:List α} {k:Nat} {a c:α} (hk:0<k) (ha:l[k-1]? =some a) (hc:l[k]? =some c):((l.set (k-1) c).set k a).Perm l:=by
 obtain ⟨j,rfl⟩: ∃ j,k=j+1:=⟨k-1,by omega⟩
 rw [Nat.add_sub_cancel] at ha ⊢
 exact uP ha hc
theorem l7.of_lt (h:l7 l times nb sn al) (hl:times.length=nb) {x:bh} (hx:x∈al) (h0:0≤x.oH):0≤x.oH∧x.oH<(nb:Int):=by
 rcases h.sig x hx with q|⟨k,t,e,_,e2,_⟩
 ·omega
 ·have:=(List.getElem?_eq_some_iff.1 e2).1
  omega
end
def df (n:Nat) (al:List bh):Nat→List Int
 |0=>List.replicate n (-1)
 |i+1=>match al[i]? with
  |some x=>if 0≤x.oH then (df n al i).set x.oH.toNat (i:Int) else df n al i
  |none=>df n al i
section
variable {l:aV} {n i:Nat} {al:List bh} {x:bh}
@[simp] theorem je: ∀ i,(df n al i).length=n
 |0=>by simp [df]
 |i+1=>by
  rw [df]
  cases al[i]? with
  |none=>exact je i
  |some x=>
   simp only
   split
   ·rw [List.length_set]; exact je i
   ·exact je i
theorem uW (hx:al[i]? =some x) (h:0≤x.oH):(df n al i).set x.oH.toNat (i:Int)=df n al (i+1):=by rw [df,hx]; simp only; rw [if_pos h]
theorem wO (hx:al[i]? =some x) (h: ¬ 0≤x.oH):df n al (i+1)=df n al i:=by rw [df,hx]; simp only; rw [if_neg h]
theorem jy {b:Nat} {g:Int}: ∀ i,(df n al i)[b]? =some g→(g= -1∧ ∀ (k:Nat) x,k<i→al[k]? =some x→x.oH≠(b:Int))∨ ∃ (k:Nat) (x:bh),k<i∧g=(k:Int)∧al[k]? =some x∧x.oH=(b:Int)
 |0=>fun h=>by
  have hb:=(List.getElem?_eq_some_iff.1 h).1
  simp only [df] at h hb
  rw [List.length_replicate] at hb
  rw [List.getElem?_replicate,if_pos hb] at h
  exact .inl ⟨(Option.some.inj h).symm,fun k x hk=>absurd hk (Nat.not_lt_zero _)⟩
 |i+1=>fun h=>by
  rw [df] at h
  cases hx:al[i]? with
  |none=>
   rw [hx] at h
   rcases jy i h with ⟨h1,h2⟩|⟨k,x,h1,h2⟩
   ·refine .inl ⟨h1,fun k x hk hkx=>?_⟩
    rcases Nat.lt_or_ge k i with c|c
    ·exact h2 k x c hkx
    ·obtain rfl:k=i:=by omega
     rw [hx] at hkx; cases hkx
   ·exact .inr ⟨k,x,by omega,h2⟩
  |some y=>
   rw [hx] at h
   simp only at h
   have v9:(df n al i)[b]? =some g→y.oH≠(b:Int)→(g= -1∧ ∀ (k:Nat) x,k<i+1→al[k]? =some x→x.oH≠(b:Int))∨ ∃ (k:Nat) (x:bh),k<i+1∧g=(k:Int)∧al[k]? =some x∧x.oH=(b:Int):=fun h hne=>by
    rcases jy i h with ⟨h1,h2⟩|⟨k,x,h1,h2⟩
    ·refine .inl ⟨h1,fun k x hk hkx=>?_⟩
     rcases Nat.lt_or_ge k i with c|c
     ·exact h2 k x c hkx
     ·obtain rfl:k=i:=by omega
      rw [hx] at hkx; cases hkx; exact hne
    ·exact .inr ⟨k,x,by omega,h2⟩
   split at h
   ·rename_i h0
    rw [List.getElem?_set] at h
    split at h
    ·rename_i e
     split at h
     ·exact .inr ⟨i,y,by omega,(Option.some.inj h).symm,hx,by omega⟩
     ·cases h
    ·rename_i e
     exact v9 h (by omega)
   ·rename_i h0
    exact v9 h (by omega)
theorem rN {good:List Int}: ∀ k,k≤good.length→(j7 (good.take k)).right=(j_ k (fun b=> ∃ g,good[b]? =some g∧0≤g):Int)∧(j7 (good.take k)).dn=(k:Int)-(j_ k (fun b=> ∃ g,good[b]? =some g∧0≤g):Int)
 |0=>fun _=>by simp [j7,j_]
 |k+1=>fun hk=>by
  obtain ⟨h1,h2⟩:=rN (good:=good) k (by omega)
  have hg:good[k]? =some (good[k]'(by omega)):=List.getElem?_eq_getElem _
  rw [k6 hg,ku]
  by_cases c:0≤good[k]'(by omega)
  ·rw [gK.1 ⟨_,hg,c⟩]
   have e:dI (good[k]'(by omega))=⟨1,0⟩:=by unfold dI; rw [if_neg (by omega)]
   rw [e]
   simp only [dc]
   omega
  ·rw [gK.2 (fun ⟨g,hg',h0⟩=>by rw [hg] at hg'; cases hg'; exact c h0)]
   have e:dI (good[k]'(by omega))=⟨0,1⟩:=by unfold dI; rw [if_pos (by omega)]
   rw [e]
   simp only [dc]
   omega
end
theorem uf {l:aV} {st at_ left nw:Int} {nb sn:Nat} {times:List Int} {al0 al:List bh} (hD:iN l st nb at_ left times al0) (hA:l7 l times nb sn al) (hs:(sn:Int)≤l.aZ) (hn:nb≤l.aa.length) (hw:at_≤nw) (hr:c7 l ⟨st,nw,al.map (·.bQ)⟩):
 eh l ⟨st,nw,al.map (·.bQ)⟩ times (df nb al al.length):=by
 have hlen:=hD.len
 have hgl:(df nb al al.length).length=nb:=je _
 have xC: ∀ b,b<nb→((∃ g,(df nb al al.length)[b]? =some g∧0≤g)↔l8 al b):=fun b hb=>by
  constructor
  ·rintro ⟨g,hg,h0⟩
   rcases jy _ hg with ⟨h1,_⟩|⟨k,x,_,_,h3,h4⟩
   ·omega
   ·exact ⟨x,List.mem_of_getElem? h3,h4⟩
  ·rintro ⟨x,hx,e⟩
   have hg:(df nb al al.length)[b]? =some ((df nb al al.length)[b]'(by omega)):=List.getElem?_eq_getElem _
   refine ⟨_,hg,?_⟩
   obtain ⟨k,hk⟩:=List.getElem?_of_mem hx
   rcases jy _ hg with ⟨_,h2⟩|⟨k',x',_,h2,_,_⟩
   ·exact absurd e (h2 k x (List.getElem?_eq_some_iff.1 hk).1 hk)
   ·omega
 have htc:=rN (good:=df nb al al.length) nb (by omega)
 rw [List.take_of_length_le (by omega),lT xC] at htc
 refine ⟨hr,by omega,by omega,fun b t ht=>⟨hD.step b t ht,?_⟩,fun b t g ht hg=>?_,by rw [htc.2]; exact hA.tk,?_⟩
 ·have:=hD.mono t (List.mem_of_getElem? ht); show t≤nw; omega
 ·rcases jy _ hg with ⟨h1,_⟩|⟨k,x,_,h2,h3,h4⟩
  ·exact .inl h1
  ·rcases hA.sig x (List.mem_of_getElem? h3) with q|⟨k',t',e1,e2,e3,e4⟩
   ·omega
   ·obtain rfl:k'=b:=by omega
    rw [ht] at e3; cases e3
    exact .inr ⟨k,x.bQ,h2,by show (al.map (·.bQ))[k]? =_; rw [List.getElem?_map,h3]; rfl,e2,e4⟩
 ·show ((al.map (·.bQ)).length:Int)-_≤_
  rw [htc.1,List.length_map]
  have:=hA.BA
  omega
end
end Go.Proofs.YthiigjekcdjkkaaGreat
