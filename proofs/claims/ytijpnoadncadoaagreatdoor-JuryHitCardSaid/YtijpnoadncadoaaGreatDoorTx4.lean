/-
 The statement juryHit_said, part 4 of 8: Short, Grow, Global, RunA, Tab, Run, Comp, Ret, LoopK, MapK, Watch, Passes, Keys, MapR, RangeG, Nest, WMaps, WBounds, PassG, Drop, Spot, First, Line, Wrap, Goes, OpenW, Wheres, LineR, Race, RaceS, Vals, RaceO, RaceV, Jury, JHits, JMore.
 Conditions: none.
-/
import Derived.Test.YtijpnoadncadoaaGreatDoorTx1
import Derived.Test.YtijpnoadncadoaaGreatDoorTx2
import Derived.Test.YtijpnoadncadoaaGreatDoorTx3
import Derived.Test.YtijpnoadncadoaaGreatDoorProg
import Derived.KernelRfl
import Derived.WideKeyRuns
namespace Go.Proofs.YtijpnoadncadoaaGreatDoor
set_option maxRecDepth 100000
set_option maxHeartbeats 4000000
set_option linter.unusedVariables false
section
open Go.RowKit
/-- an operation that hands v to its slot d -/
structure SE (E:fg) (ops:Array Oper) (o:Oper) (D:g9) (L:dw) (C:List ax) (v:Value) (d:Nat):Prop where
 h:SD E ops o D L C v
 o:o.dst=some d
 n:Nat.blt d E.n=true
theorem rS {E:fg} {ops:Array Oper} {Q:dg} {o:Oper} {rest:List Oper} {D:g9} {L:dw} {C:List ax} {v:Value} {d:Nat}
 (h:SE E ops o D L C v d) (k:RJ E ops Q rest D ((d,v)::L) C):RJ E ops Q (o::rest) D L C:=Tl h.h h.o h.n k
theorem dS {E:fg} {ops:Array Oper} {F:dw→Prop} {o:Oper} {rest:List Oper} {D:g9} {L:dw} {C:List ax} {v:Value} {d:Nat}
 (h:SE E ops o D L C v d) (k:DJ E ops D C F rest ((d,v)::L)):DJ E ops D C F (o::rest) L:=TF h.h h.o h.n k
theorem eS {E:fg} {ops:Array Oper} {D:g9} {C' C1:List ax} {F:dw→Prop} {bs:List Bool} {o:Oper} {l rest:List Oper} {L:dw} {v:Value} {d:Nat}
 (hl:l=o::rest) (h:SE E ops o D L C' v d) (k:qw E ops D C' C1 F bs rest ((d,v)::L)):qw E ops D C' C1 F (false::bs) l L:=TK h.h hl h.o h.n k
theorem fS {E:fg} {ops:Array Oper} {D:g9} {C' C1:List ax} {F:dw→Prop} {bs:List Bool} {o:Oper} {l rest:List Oper} {L:dw} {v:Value} {d:Nat}
 (hl:l=o::rest) (h:SE E ops o D L C1 v d) (k:qw E ops D C' C1 F bs rest ((d,v)::L)):qw E ops D C' C1 F (true::bs) l L:=SR h.h hl h.o h.n k
def gB (n:Nat) (ops:Array Oper) (L:dw) (d:Nat) (g:Option (Nat×Bool)):Bool:=j0 ops L g&&Nat.blt d n
theorem OD {n:Nat} {ops:Array Oper} {L:dw} {d:Nat} {g:Option (Nat×Bool)} (h:gB n ops L d g=true):j0 ops L g=true:=by
 unfold gB at h; rw [db] at h; exact h.1
theorem OG {n:Nat} {ops:Array Oper} {L:dw} {d:Nat} {g:Option (Nat×Bool)} (h:gB n ops L d g=true):Nat.blt d n=true:=by
 unfold gB at h; rw [db] at h; exact h.2
def vF (n:Nat) (ops:Array Oper) (L:dw) (d:Nat) (g:Option (Nat×Bool)) (x:Operand):Option Value:=match gB n ops L d g with
 |true=>ev L x
 |false=>none
def bF (n:Nat) (ops:Array Oper) (L:dw) (d:Nat) (g:Option (Nat×Bool)) (x y:Operand):Option (Value×Value):=match gB n ops L d g with
 |true=>match ev L x,ev L y with
  |some u,some v=>some (u,v)
  |_,_=>none
 |false=>none
def pF (n:Nat) (ops:Array Oper) (L:dw) (d:Nat) (g:Option (Nat×Bool)) (c x y:Operand):Option Value:=match gB n ops L d g with
 |true=>match ev L c with
  |some (.bool true)=>ev L x
  |some (.bool false)=>ev L y
  |_=>none
 |false=>none
def xF (n:Nat) (ops:Array Oper) (L:dw) (d:Nat) (g:Option (Nat×Bool)) (x:Operand) (i:Nat):Option Value:=match vF n ops L d g x with
 |some (.tuple vs)=>vs.toList[i]?
 |_=>none
def uF (n:Nat) (ops:Array Oper) (L:dw) (d:Nat) (g:Option (Nat×Bool)) (xs ys:List Operand):Option (List Value×List Value):=match gB n ops L d g with
 |true=>match evs L xs,evs L ys with
  |some u,some v=>some (u,v)
  |_,_=>none
 |false=>none
def cF (n:Nat) (ops:Array Oper) (L:dw) (d:Nat) (g:Option (Nat×Bool)) (fop:Operand) (xs:List Operand):Option (FuncId×List Value):=match gB n ops L d g with
 |true=>match ev L fop,evs L xs with
  |some (.func (.func f) fi ca),some vs=>some (f,fi.toList++vs++ca.toList)
  |_,_=>none
 |false=>none
theorem jr {n:Nat} {ops:Array Oper} {L:dw} {d:Nat} {g:Option (Nat×Bool)} {x:Operand} {v:Value} (h:vF n ops L d g x=some v):j0 ops L g=true∧Nat.blt d n=true∧ev L x=some v:=by
 unfold vF at h
 split at h
 ·rename_i hb; exact ⟨OD hb,OG hb,h⟩
 ·cases h
theorem tf {n:Nat} {ops:Array Oper} {L:dw} {d:Nat} {g:Option (Nat×Bool)} {x y:Operand} {u v:Value} (h:bF n ops L d g x y=some (u,v)):j0 ops L g=true∧Nat.blt d n=true∧ev L x=some u∧ev L y=some v:=by
 unfold bF at h
 split at h
 ·rename_i hb
  split at h
  ·rename_i hx hy; cases h; exact ⟨OD hb,OG hb,hx,hy⟩
  ·cases h
 ·cases h
theorem QJ {n:Nat} {ops:Array Oper} {L:dw} {d:Nat} {g:Option (Nat×Bool)} {x y:List Operand} {u v:List Value} (h:uF n ops L d g x y=some (u,v)):j0 ops L g=true∧Nat.blt d n=true∧evs L x=some u∧evs L y=some v:=by
 unfold uF at h
 split at h
 ·rename_i hb
  split at h
  ·rename_i hx hy; cases h; exact ⟨OD hb,OG hb,hx,hy⟩
  ·cases h
 ·cases h
section
variable {E:fg} {ops:Array Oper} {Q:dg} {rest:List Oper} {D:List Deferred} {L:List (Nat×Value)} {C:List ax}
variable {d:Nat} {ty:TypeId} {ps:String} {af:Array Edge} {g:Option (Nat×Bool)}
theorem SX {o:Oper} {v:Value} (h:SD E ops o D L C v) (ho:o.dst=some d) (hd:Nat.blt d E.n=true):SE E ops o D L C v d:=⟨h,ho,hd⟩
theorem MV {x:Operand} {v:Value} (h:vF E.n ops L d g x=some v):SE E ops ⟨some d,.move x,ty,ps,af,g⟩ D L C v d:=by
 obtain ⟨A,B,F⟩:=jr h; exact ⟨Fa A F,rfl,B⟩
theorem AG {x:Operand} {v:Value} (h:vF E.n ops L d g x=some v):SE E ops ⟨some d,.assign x,ty,ps,af,g⟩ D L C v d:=by
 obtain ⟨A,B,F⟩:=jr h; exact ⟨zo A F,rfl,B⟩
theorem OX {op:Op} (h:(CR ops L g&&Nat.blt d E.n)=true):SE E ops ⟨some d,op,ty,ps,af,g⟩ D L C undef d:=by
 rw [db] at h; exact ⟨HY h.1,rfl,h.2⟩
theorem NT {xt:TypeId} {x:Operand} {b:Bool} (h:vF E.n ops L d g x=some (.bool b)):SE E ops ⟨some d,.unOp .not xt x,ty,ps,af,g⟩ D L C (.bool !b) d:=by
 obtain ⟨A,B,F⟩:=jr h; exact ⟨I0 A F,rfl,B⟩
theorem NG {xt:TypeId} {x:Operand} {n:Int} (h:vF E.n ops L d g x=some (.int .i64 n)) (hb:rj (-n)):SE E ops ⟨some d,.unOp .neg xt x,ty,ps,af,g⟩ D L C (.int .i64 (-n)) d:=by
 obtain ⟨A,B,F⟩:=jr h; exact ⟨ON A F hb,rfl,B⟩
theorem PK {c x y:Operand} {v:Value} (h:pF E.n ops L d g c x y=some v):SE E ops ⟨some d,.pick c x y,ty,ps,af,g⟩ D L C v d:=by
 unfold pF at h
 split at h
 ·rename_i hb
  split at h
  ·rename_i hc; exact ⟨yX (OD hb) hc h,rfl,OG hb⟩
  ·rename_i hc; exact ⟨yY (OD hb) hc h,rfl,OG hb⟩
  ·cases h
 ·cases h
theorem EX {x:Operand} {i:Nat} {v:Value} (h:xF E.n ops L d g x i=some v):SE E ops ⟨some d,.extract x i,ty,ps,af,g⟩ D L C v d:=by
 unfold xF at h
 split at h
 ·rename_i vs hv
  obtain ⟨A,B,F⟩:=jr hv
  exact ⟨xG (vs:=vs.toList) A (by simpa using F) h,U,B⟩
 ·cases h
theorem LN {x:Operand} {t e:TypeId} {A:OA} {n c:Nat} (h:vF E.n ops L d g x=some (.slice A n c)) (ht:E.P.underlying t=some (.slice e)):
 SE E ops ⟨some d,.call {callee:= .builtin .len,args:= #[x],argTypes:= #[t]},ty,ps,af,g⟩ D L C (.int .i64 n) d:=by
 obtain ⟨B,F,G⟩:=jr h; exact ⟨JR B G ht,rfl,F⟩
theorem BI {op:BinOp} {xt yt:TypeId} {x y:Operand} {u v r:Value} (h:bF E.n ops L d g x y=some (u,v)) (hb:iD E.P op xt x y u v r):SE E ops ⟨some d,.binOp op xt x y yt,ty,ps,af,g⟩ D L C r d:=by
 obtain ⟨A,B,F,G⟩:=tf h; exact ⟨gl A F G hb,rfl,B⟩
theorem MN {x y:Operand} {ts:Array TypeId} {a b:Int} {k:IntKind} (h:bF E.n ops L d g x y=some (.int k a,.int k b)):
 SE E ops ⟨some d,.call {callee:= .builtin .min,args:= #[x,y],argTypes:=ts},ty,ps,af,g⟩ D L C (.int k (min a b)) d:=by
 obtain ⟨A,B,F,G⟩:=tf h; exact ⟨O2 A F G,rfl,B⟩
theorem MX {x y:Operand} {ts:Array TypeId} {a b:Int} {k:IntKind} (h:bF E.n ops L d g x y=some (.int k a,.int k b)):
 SE E ops ⟨some d,.call {callee:= .builtin .max,args:= #[x,y],argTypes:=ts},ty,ps,af,g⟩ D L C (.int k (max a b)) d:=by
 obtain ⟨A,B,F,G⟩:=tf h; exact ⟨Pr A F G,rfl,B⟩
theorem FA (o':Nat) {x:Operand} {b o s f k:Nat} (h:vF E.n ops L d g x=some (.pointer (some ⟨b,o,none⟩))) (hf:sB E.P s f=some k) (ho:o+k=o'):
 SE E ops ⟨some d,.fieldAddr s x f,ty,ps,af,g⟩ D L C (.pointer (some ⟨b,o',none⟩)) d:=by
 obtain ⟨A,B,F⟩:=jr h; exact ⟨N3 A F hf ho,rfl,B⟩
theorem o9 (k':Nat) {x:Operand} {A:OA} {n sz:Nat} {es:List (List Value)} {k0 s f k:Nat} (h:vF E.n ops L d g x=some (.pointer (l7 A k0))) (hR:iK C (rd A n sz es).holds) (hn:0<n*sz)
 (hf:sB E.P s f=some k) (ho:k0+k=k'):SE E ops ⟨some d,.fieldAddr s x f,ty,ps,af,g⟩ D L C (.pointer (l7 A k')) d:=by
 obtain ⟨B,F,G⟩:=jr h; exact ⟨K9 B G hR hn hf ho,rfl,F⟩
theorem TV (k':Nat) {x:Operand} {A:OA} {ad:Addr} {k0 s f k:Nat} (h:vF E.n ops L d g x=some (.pointer (l7 A k0))) (hA:A=some ad)
 (hf:sB E.P s f=some k) (ho:k0+k=k'):SE E ops ⟨some d,.fieldAddr s x f,ty,ps,af,g⟩ D L C (.pointer (l7 A k')) d:=by
 obtain ⟨B,F,G⟩:=jr h; exact ⟨Ke B G hA hf ho,rfl,F⟩
theorem IA (k:Nat) {x ix:Operand} {A:OA} {n c sz e t:Nat} {es:List (List Value)} {j:Int} (h:bF E.n ops L d g x ix=some (.slice A n c,.int .i64 j)) (hR:iK C (rd A n sz es).holds)
 (ht:tE E.P t=some (e,sz)) (hz:0<sz) (hj:j=(k:Int)) (hk:k<n):SE E ops ⟨some d,.indexAddr t x ix,ty,ps,af,g⟩ D L C (.pointer (l7 A (k*sz))) d:=by
 obtain ⟨B,F,G,H⟩:=tf h; exact ⟨Rx B G H hR ht hz hj hk,rfl,F⟩
theorem Wt (k o':Nat) {x ix:Operand} {b o n c sz e t:Nat} {j:Int} (h:bF E.n ops L d g x ix=some (.slice (some ⟨b,o,none⟩) n c,.int .i64 j))
 (ht:tE E.P t=some (e,sz)) (hj:j=(k:Int)) (hk:k<n) (ho:o+k*sz=o'):SE E ops ⟨some d,.indexAddr t x ix,ty,ps,af,g⟩ D L C (.pointer (some ⟨b,o',none⟩)) d:=by
 obtain ⟨A,B,F,G⟩:=tf h; exact ⟨M7 A F G ht hj hk ho,rfl,B⟩
/-- the whole of a block, a part of it, one cell -/
theorem LW (i:Nat) {x:Operand} {b t tt n:Nat} {cs:List Value} (h:vF E.n ops L d g x=some (.pointer (some ⟨b,0,none⟩))) (ht:tK E.P t=some (true,n)) (hC:C[i]? =some (cu b tt cs)) (hn:cs.length=n):
 SE E ops ⟨some d,.load t x,ty,ps,af,g⟩ D L C (.agg cs.toArray) d:=by
 obtain ⟨A,B,F⟩:=jr h; exact ⟨x5 A F ht (qc i hC sm) hn,rfl,B⟩
theorem LP (vs:List Value) (i:Nat) {x:Operand} {b o t tt n:Nat} {cs:List Value} (h:vF E.n ops L d g x=some (.pointer (some ⟨b,o,none⟩))) (ht:tK E.P t=some (true,n)) (hC:C[i]? =some (cu b tt cs)) (hv:(cs.drop o).take vs.length=vs) (hn:vs.length=n):
 SE E ops ⟨some d,.load t x,ty,ps,af,g⟩ D L C (.agg vs.toArray) d:=by
 obtain ⟨A,B,F⟩:=jr h; exact ⟨x5 A F ht (qc i hC hv) hn,rfl,B⟩
theorem Wv (vs:List Value) (i:Nat) {x:Operand} {b o t tt n:Nat} {cs:List Value} (h:vF E.n ops L d g x=some (.pointer (some ⟨b,o,none⟩))) (ht:tK E.P t=some (true,n)) (hC:C[i]? =some (cu b tt cs).ro) (hv:(cs.drop o).take vs.length=vs) (hn:vs.length=n):
 SE E ops ⟨some d,.load t x,ty,ps,af,g⟩ D L C (.agg vs.toArray) d:=by
 obtain ⟨A,B,F⟩:=jr h; exact ⟨x5 A F ht (wE i hC hv) hn,rfl,B⟩
theorem L1 (v:Value) (i:Nat) {x:Operand} {b o t tt n:Nat} {cs:List Value} (h:vF E.n ops L d g x=some (.pointer (some ⟨b,o,none⟩))) (ht:tK E.P t=some (false,n)) (hC:C[i]? =some (cu b tt cs)) (hv:(cs.drop o).take 1=[v]):
 SE E ops ⟨some d,.load t x,ty,ps,af,g⟩ D L C v d:=by
 obtain ⟨A,B,F⟩:=jr h; exact ⟨vm A F ht (qc i hC hv),rfl,B⟩
theorem Lj (v:Value) (i:Nat) {x:Operand} {b o t tt n:Nat} {cs:List Value} (h:vF E.n ops L d g x=some (.pointer (some ⟨b,o,none⟩))) (ht:tK E.P t=some (false,n)) (hC:C[i]? =some (cu b tt cs).ro) (hv:(cs.drop o).take 1=[v]):
 SE E ops ⟨some d,.load t x,ty,ps,af,g⟩ D L C v d:=by
 obtain ⟨A,B,F⟩:=jr h; exact ⟨vm A F ht (wE i hC hv),rfl,B⟩
theorem Es (i:Nat) {x:Operand} {b t tt n:Nat} {v:Value} (h:vF E.n ops L d g x=some (.pointer (some ⟨b,0,none⟩))) (ht:tK E.P t=some (false,n)) (hC:C[i]? =some (cu b tt [v])):
 SE E ops ⟨some d,.load t x,ty,ps,af,g⟩ D L C v d:=by
 obtain ⟨A,B,F⟩:=jr h; exact ⟨vm A F ht (qc i hC rfl),rfl,B⟩
theorem V6 (i:Nat) {x:Operand} {b t tt n:Nat} {v:Value} (h:vF E.n ops L d g x=some (.pointer (some ⟨b,0,none⟩))) (ht:tK E.P t=some (false,n)) (hC:C[i]? =some (cu b tt [v]).ro):
 SE E ops ⟨some d,.load t x,ty,ps,af,g⟩ D L C v d:=by
 obtain ⟨A,B,F⟩:=jr h; exact ⟨vm A F ht (wE i hC rfl),rfl,B⟩
/-- what is read of a row -/
theorem g6 (k o:Nat) (v:Value) {x:Operand} {A:OA} {t m n sz:Nat} {es:List (List Value)} {e:List Value} (h:vF E.n ops L d g x=some (.pointer (l7 A m))) {nn:Nat} (ht:tK E.P t=some (false,nn)) (hR:iK C (rd A n sz es).holds) (he:es[k]? =some e) (hm:m=k*sz+o) (hz:0<sz) (hv:(e.drop o).take 1=[v]):
 SE E ops ⟨some d,.load t x,ty,ps,af,g⟩ D L C v d:=by
 obtain ⟨B,F,G⟩:=jr h; exact ⟨vm B G ht (Oe hR he hm hz hv),rfl,F⟩
theorem lx (k o:Nat) (vs:List Value) {x:Operand} {A:OA} {t m n sz:Nat} {es:List (List Value)} {e:List Value} (h:vF E.n ops L d g x=some (.pointer (l7 A m))) {nn:Nat} (ht:tK E.P t=some (true,nn)) (hR:iK C (rd A n sz es).holds) (he:es[k]? =some e) (hm:m=k*sz+o) (hz:0<sz) (hv:(e.drop o).take vs.length=vs) (hn:vs.length=nn):
 SE E ops ⟨some d,.load t x,ty,ps,af,g⟩ D L C (.agg vs.toArray) d:=by
 obtain ⟨B,F,G⟩:=jr h; exact ⟨x5 B G ht (Oe hR he hm hz hv) hn,rfl,F⟩
theorem CL {fop:Operand} {xs:Array Operand} {ts:Array TypeId} {f:FuncId} {args:List Value} {Cp:List ax} {v:Value} (c:dG E.P f args Cp v) (hC:kF C Cp) (h:cF E.n ops L d g fop xs.toList=some (f,args)):
 SE E ops ⟨some d,.call {callee:= .value fop,args:=xs,argTypes:=ts},ty,ps,af,g⟩ D L C v d:=by
 unfold cF at h
 split at h
 ·rename_i hb
  split at h
  ·rename_i hf hx; cases h; exact ⟨Fz (OD hb) hf hx rfl c hC,rfl,OG hb⟩
  ·cases h
 ·cases h
theorem FU {fn:Fn} {xs ys:Array Operand} {us vs:List Value} (h:uF E.n ops L d g xs.toList ys.toList=some (us,vs)):SE E ops ⟨some d,.makeFunc fn xs ys,ty,ps,af,g⟩ D L C (.func fn us.toArray vs.toArray) d:=by
 obtain ⟨A,B,F,G⟩:=QJ h; exact ⟨Ns A F G,rfl,B⟩
theorem cX {fop:Operand} {xs:Array Operand} {ts:Array TypeId} {f:FuncId} {args:List Value} {Cp:List ax} {α:Type} {V:α→Value} {p:α→Prop} {N:α→List ax} (c:pG E.P f args Cp V p N) (hC:kF C Cp)
 (h:cF E.n ops L d g fop xs.toList=some (f,args)) (k: ∀ x,p x→RJ E ops Q rest D ((d,V x)::L) (N x++C)):
 RJ E ops Q (⟨some d,.call {callee:= .value fop,args:=xs,argTypes:=ts},ty,ps,af,g⟩::rest) D L C:=by
 unfold cF at h
 split at h
 ·rename_i hb
  split at h
  ·rename_i hf hx; cases h; exact Qb (OD hb) hf hx rfl c hC (OG hb) k
  ·cases h
 ·cases h
/-- a box of a struct, of one cell -/
theorem eI {t:TypeId} {x:Operand} {cs:List Value} (h:vF E.n ops L d g x=some (.agg cs.toArray)) (k: ∀ b,RJ E ops Q rest D ((d,.pointer (some ⟨b,0,none⟩))::L) (cu b t cs::C)):
 RJ E ops Q (⟨some d,.box t x,ty,ps,af,g⟩::rest) D L C:=by
 obtain ⟨A,B,F⟩:=jr h; exact N6 A F rfl B k
theorem wJ {t:TypeId} {x:Operand} {v:Value} (h:vF E.n ops L d g x=some v) (hv:v.cells.toList=[v]) (k: ∀ b,RJ E ops Q rest D ((d,.pointer (some ⟨b,0,none⟩))::L) (cu b t [v]::C)):
 RJ E ops Q (⟨some d,.box t x,ty,ps,af,g⟩::rest) D L C:=by
 obtain ⟨A,B,F⟩:=jr h; exact N6 A F hv B k
theorem AL {t:TypeId} {cs:List Value} (h:gB E.n ops L d g=true) (hz:tZ E.P t=some cs) (k: ∀ b,RJ E ops Q rest D ((d,.pointer (some ⟨b,0,none⟩))::L) (cu b t cs::C)):
 RJ E ops Q (⟨some d,.alloc t,ty,ps,af,g⟩::rest) D L C:=MT (OD h) hz (OG h) k
/-- a store into the block at the place i of the state -/
def sF (ops:Array Oper) (L:dw) (g:Option (Nat×Bool)) (x y:Operand):Option (Value×Value):=match j0 ops L g with
 |true=>match ev L x,ev L y with
  |some u,some v=>some (u,v)
  |_,_=>none
 |false=>none
theorem Df {ops:Array Oper} {L:dw} {g:Option (Nat×Bool)} {x y:Operand} {u v:Value} (h:sF ops L g x y=some (u,v)):j0 ops L g=true∧ev L x=some u∧ev L y=some v:=by
 unfold sF at h
 split at h
 ·rename_i hb
  split at h
  ·rename_i hx hy; cases h; exact ⟨hb,hx,hy⟩
  ·cases h
 ·cases h
theorem LD {t n b o tt:Nat} {x y:Operand} {v:Value} {cs cs':List Value} {C':List ax} (i:Nat) (h:sF ops L g x y=some (.pointer (some ⟨b,o,none⟩),v)) (ht:(tK E.P t).map (·.2)=some n) (hC:C[i]? =some (cu b tt cs))
 (hk:(v.cells.toList.length==n&&v.cells.toList.all Value.oneCell'&&Nat.ble (o+n) cs.length)=true) (hcs:cs.take o++v.cells.toList++cs.drop (o+n)=cs') (hC':C.set i (cu b tt cs')=C') (k:RJ E ops Q rest D L C'):
 RJ E ops Q (⟨none,.store t x y,ty,ps,af,g⟩::rest) D L C:=by
 obtain ⟨A,B,F⟩:=Df h
 simp only [db,beq_iff_eq] at hk
 exact ir i A B F ht U hk.1.1 hk.1.2 hC hk.2 hcs hC' k
/-- a store of a whole block, by a struct, by one cell -/
theorem OI {t n b tt:Nat} {x y:Operand} {cs cs':List Value} {C':List ax} (i:Nat) (h:sF ops L g x y=some (.pointer (some ⟨b,0,none⟩),.agg cs'.toArray)) (ht:(tK E.P t).map (·.2)=some n) (hC:C[i]? =some (cu b tt cs))
 (hk:(Nat.beq cs'.length n&&cs'.all Value.oneCell'&&Nat.beq n cs.length)=true) (hC':C.set i (cu b tt cs')=C') (k:RJ E ops Q rest D L C'):
 RJ E ops Q (⟨none,.store t x y,ty,ps,af,g⟩::rest) D L C:=by
 obtain ⟨AA,J,K⟩:=Df h
 simp only [db] at hk
 obtain ⟨⟨A,B⟩,F⟩:=hk
 have H:=Nat.eq_of_beq_eq_true A
 have G:=Nat.eq_of_beq_eq_true F
 exact ir i AA J K ht U H B hC (by rw [Nat.zero_add,G]; exact Nat.ble_self_eq_true _) (by rw [Nat.zero_add,G,List.take_zero,List.drop_length]; show []++cs'++[]=cs'; simp) hC' k
theorem TU {t n b tt:Nat} {x y:Operand} {v u:Value} {C':List ax} (i:Nat) (h:sF ops L g x y=some (.pointer (some ⟨b,0,none⟩),v)) (ht:(tK E.P t).map (·.2)=some n) (hC:C[i]? =some (cu b tt [u]))
 (hv:v.cells.toList=[v]) (hk:(Nat.beq n 1&&v.oneCell')=true) (hC':C.set i (cu b tt [v])=C') (k:RJ E ops Q rest D L C'):
 RJ E ops Q (⟨none,.store t x y,ty,ps,af,g⟩::rest) D L C:=by
 obtain ⟨G,H,AA⟩:=Df h
 rw [db] at hk
 obtain ⟨A,B⟩:=hk
 have F:=Nat.eq_of_beq_eq_true A
 subst F
 exact ir i G H AA ht hv U (by simp [B]) hC U U hC' k
theorem fG {t n b tt:Nat} {x y:Operand} {cs cs':List Value} (h:sF ops L g x y=some (.pointer (some ⟨b,0,none⟩),.agg cs'.toArray)) (ht:(tK E.P t).map (·.2)=some n) (hk:(Nat.beq cs'.length n&&cs'.all Value.oneCell'&&Nat.beq n cs.length)=true) (k:RJ E ops Q rest D L (cu b tt cs'::C)):RJ E ops Q (⟨none,.store t x y,ty,ps,af,g⟩::rest) D L (cu b tt cs::C):=OI 0 h ht rfl hk rfl k
theorem MR {t n b tt:Nat} {x y:Operand} {v u:Value} (h:sF ops L g x y=some (.pointer (some ⟨b,0,none⟩),v)) (ht:(tK E.P t).map (·.2)=some n) (hv:v.cells.toList=[v]) (hk:(Nat.beq n 1&&v.oneCell')=true) (k:RJ E ops Q rest D L (cu b tt [v]::C)):RJ E ops Q (⟨none,.store t x y,ty,ps,af,g⟩::rest) D L (cu b tt [u]::C):=TU 0 h ht rfl hv hk rfl k
theorem qO {t n b tt:Nat} {x y:Operand} {cs cs':List Value} {A0:ax} (h:sF ops L g x y=some (.pointer (some ⟨b,0,none⟩),.agg cs'.toArray)) (ht:(tK E.P t).map (·.2)=some n) (hk:(Nat.beq cs'.length n&&cs'.all Value.oneCell'&&Nat.beq n cs.length)=true) (k:RJ E ops Q rest D L (A0::cu b tt cs'::C)):RJ E ops Q (⟨none,.store t x y,ty,ps,af,g⟩::rest) D L (A0::cu b tt cs::C):=OI 1 h ht rfl hk rfl k
theorem Wp (cs':List Value) {t n b o tt:Nat} {x y:Operand} {v:Value} {cs:List Value} {A0:ax} (h:sF ops L g x y=some (.pointer (some ⟨b,o,none⟩),v)) (ht:(tK E.P t).map (·.2)=some n) (hk:(v.cells.toList.length==n&&v.cells.toList.all Value.oneCell'&&Nat.ble (o+n) cs.length)=true) (hcs:cs.take o++v.cells.toList++cs.drop (o+n)=cs') (k:RJ E ops Q rest D L (A0::cu b tt cs'::C)):RJ E ops Q (⟨none,.store t x y,ty,ps,af,g⟩::rest) D L (A0::cu b tt cs::C):=LD 1 h ht rfl hk hcs rfl k
theorem Ha {t n b tt:Nat} {x y:Operand} {cs cs':List Value} {A0 A1:ax} (h:sF ops L g x y=some (.pointer (some ⟨b,0,none⟩),.agg cs'.toArray)) (ht:(tK E.P t).map (·.2)=some n) (hk:(Nat.beq cs'.length n&&cs'.all Value.oneCell'&&Nat.beq n cs.length)=true) (k:RJ E ops Q rest D L (A0::A1::cu b tt cs'::C)):RJ E ops Q (⟨none,.store t x y,ty,ps,af,g⟩::rest) D L (A0::A1::cu b tt cs::C):=OI 2 h ht rfl hk rfl k
theorem Vo (cs':List Value) {t n b o tt:Nat} {x y:Operand} {v:Value} {cs:List Value} {A0 A1:ax} (h:sF ops L g x y=some (.pointer (some ⟨b,o,none⟩),v)) (ht:(tK E.P t).map (·.2)=some n) (hk:(v.cells.toList.length==n&&v.cells.toList.all Value.oneCell'&&Nat.ble (o+n) cs.length)=true) (hcs:cs.take o++v.cells.toList++cs.drop (o+n)=cs') (k:RJ E ops Q rest D L (A0::A1::cu b tt cs'::C)):RJ E ops Q (⟨none,.store t x y,ty,ps,af,g⟩::rest) D L (A0::A1::cu b tt cs::C):=LD 2 h ht rfl hk hcs rfl k
theorem TW {t n b tt:Nat} {x y:Operand} {cs cs':List Value} {A0 A1 A2:ax} (h:sF ops L g x y=some (.pointer (some ⟨b,0,none⟩),.agg cs'.toArray)) (ht:(tK E.P t).map (·.2)=some n) (hk:(Nat.beq cs'.length n&&cs'.all Value.oneCell'&&Nat.beq n cs.length)=true) (k:RJ E ops Q rest D L (A0::A1::A2::cu b tt cs'::C)):RJ E ops Q (⟨none,.store t x y,ty,ps,af,g⟩::rest) D L (A0::A1::A2::cu b tt cs::C):=OI 3 h ht rfl hk rfl k
theorem Wg {t n b tt:Nat} {x y:Operand} {v u:Value} {A0 A1 A2:ax} (h:sF ops L g x y=some (.pointer (some ⟨b,0,none⟩),v)) (ht:(tK E.P t).map (·.2)=some n) (hv:v.cells.toList=[v]) (hk:(Nat.beq n 1&&v.oneCell')=true) (k:RJ E ops Q rest D L (A0::A1::A2::cu b tt [v]::C)):RJ E ops Q (⟨none,.store t x y,ty,ps,af,g⟩::rest) D L (A0::A1::A2::cu b tt [u]::C):=TU 3 h ht rfl hv hk rfl k
theorem PU (cs':List Value) {t n b o tt:Nat} {x y:Operand} {v:Value} {cs:List Value} {A0 A1 A2:ax} (h:sF ops L g x y=some (.pointer (some ⟨b,o,none⟩),v)) (ht:(tK E.P t).map (·.2)=some n) (hk:(v.cells.toList.length==n&&v.cells.toList.all Value.oneCell'&&Nat.ble (o+n) cs.length)=true) (hcs:cs.take o++v.cells.toList++cs.drop (o+n)=cs') (k:RJ E ops Q rest D L (A0::A1::A2::cu b tt cs'::C)):RJ E ops Q (⟨none,.store t x y,ty,ps,af,g⟩::rest) D L (A0::A1::A2::cu b tt cs::C):=LD 3 h ht rfl hk hcs rfl k
theorem TA {t n b tt:Nat} {x y:Operand} {cs cs':List Value} {A0 A1 A2 A3:ax} (h:sF ops L g x y=some (.pointer (some ⟨b,0,none⟩),.agg cs'.toArray)) (ht:(tK E.P t).map (·.2)=some n) (hk:(Nat.beq cs'.length n&&cs'.all Value.oneCell'&&Nat.beq n cs.length)=true) (k:RJ E ops Q rest D L (A0::A1::A2::A3::cu b tt cs'::C)):RJ E ops Q (⟨none,.store t x y,ty,ps,af,g⟩::rest) D L (A0::A1::A2::A3::cu b tt cs::C):=OI 4 h ht rfl hk rfl k
theorem Wq {t n b tt:Nat} {x y:Operand} {v u:Value} {A0 A1 A2 A3:ax} (h:sF ops L g x y=some (.pointer (some ⟨b,0,none⟩),v)) (ht:(tK E.P t).map (·.2)=some n) (hv:v.cells.toList=[v]) (hk:(Nat.beq n 1&&v.oneCell')=true) (k:RJ E ops Q rest D L (A0::A1::A2::A3::cu b tt [v]::C)):RJ E ops Q (⟨none,.store t x y,ty,ps,af,g⟩::rest) D L (A0::A1::A2::A3::cu b tt [u]::C):=TU 4 h ht rfl hv hk rfl k
theorem HV {t n b tt:Nat} {x y:Operand} {cs cs':List Value} {A0 A1 A2 A3 A4:ax} (h:sF ops L g x y=some (.pointer (some ⟨b,0,none⟩),.agg cs'.toArray)) (ht:(tK E.P t).map (·.2)=some n) (hk:(Nat.beq cs'.length n&&cs'.all Value.oneCell'&&Nat.beq n cs.length)=true) (k:RJ E ops Q rest D L (A0::A1::A2::A3::A4::cu b tt cs'::C)):RJ E ops Q (⟨none,.store t x y,ty,ps,af,g⟩::rest) D L (A0::A1::A2::A3::A4::cu b tt cs::C):=OI 5 h ht rfl hk rfl k
theorem Wn (cs':List Value) {t n b o tt:Nat} {x y:Operand} {v:Value} {cs:List Value} {A0 A1 A2 A3 A4:ax} (h:sF ops L g x y=some (.pointer (some ⟨b,o,none⟩),v)) (ht:(tK E.P t).map (·.2)=some n) (hk:(v.cells.toList.length==n&&v.cells.toList.all Value.oneCell'&&Nat.ble (o+n) cs.length)=true) (hcs:cs.take o++v.cells.toList++cs.drop (o+n)=cs') (k:RJ E ops Q rest D L (A0::A1::A2::A3::A4::cu b tt cs'::C)):RJ E ops Q (⟨none,.store t x y,ty,ps,af,g⟩::rest) D L (A0::A1::A2::A3::A4::cu b tt cs::C):=LD 5 h ht rfl hk hcs rfl k
theorem Sb {t n b tt:Nat} {x y:Operand} {cs cs':List Value} {A0 A1 A2 A3 A4 A5:ax} (h:sF ops L g x y=some (.pointer (some ⟨b,0,none⟩),.agg cs'.toArray)) (ht:(tK E.P t).map (·.2)=some n) (hk:(Nat.beq cs'.length n&&cs'.all Value.oneCell'&&Nat.beq n cs.length)=true) (k:RJ E ops Q rest D L (A0::A1::A2::A3::A4::A5::cu b tt cs'::C)):RJ E ops Q (⟨none,.store t x y,ty,ps,af,g⟩::rest) D L (A0::A1::A2::A3::A4::A5::cu b tt cs::C):=OI 6 h ht rfl hk rfl k
theorem Wo {t n b tt:Nat} {x y:Operand} {v u:Value} {A0 A1 A2 A3 A4 A5:ax} (h:sF ops L g x y=some (.pointer (some ⟨b,0,none⟩),v)) (ht:(tK E.P t).map (·.2)=some n) (hv:v.cells.toList=[v]) (hk:(Nat.beq n 1&&v.oneCell')=true) (k:RJ E ops Q rest D L (A0::A1::A2::A3::A4::A5::cu b tt [v]::C)):RJ E ops Q (⟨none,.store t x y,ty,ps,af,g⟩::rest) D L (A0::A1::A2::A3::A4::A5::cu b tt [u]::C):=TU 6 h ht rfl hv hk rfl k
theorem Wk (cs':List Value) {t n b o tt:Nat} {x y:Operand} {v:Value} {cs:List Value} {A0 A1 A2 A3 A4 A5:ax} (h:sF ops L g x y=some (.pointer (some ⟨b,o,none⟩),v)) (ht:(tK E.P t).map (·.2)=some n) (hk:(v.cells.toList.length==n&&v.cells.toList.all Value.oneCell'&&Nat.ble (o+n) cs.length)=true) (hcs:cs.take o++v.cells.toList++cs.drop (o+n)=cs') (k:RJ E ops Q rest D L (A0::A1::A2::A3::A4::A5::cu b tt cs'::C)):RJ E ops Q (⟨none,.store t x y,ty,ps,af,g⟩::rest) D L (A0::A1::A2::A3::A4::A5::cu b tt cs::C):=LD 6 h ht rfl hk hcs rfl k
theorem Wi (cs':List Value) {t n b o tt:Nat} {x y:Operand} {v:Value} {cs:List Value} {A0 A1 A2 A3 A4 A5 A6:ax} (h:sF ops L g x y=some (.pointer (some ⟨b,o,none⟩),v)) (ht:(tK E.P t).map (·.2)=some n) (hk:(v.cells.toList.length==n&&v.cells.toList.all Value.oneCell'&&Nat.ble (o+n) cs.length)=true) (hcs:cs.take o++v.cells.toList++cs.drop (o+n)=cs') (k:RJ E ops Q rest D L (A0::A1::A2::A3::A4::A5::A6::cu b tt cs'::C)):RJ E ops Q (⟨none,.store t x y,ty,ps,af,g⟩::rest) D L (A0::A1::A2::A3::A4::A5::A6::cu b tt cs::C):=LD 7 h ht rfl hk hcs rfl k
theorem Wr (cs':List Value) {t n b o tt:Nat} {x y:Operand} {v:Value} {cs:List Value} {A0 A1 A2 A3 A4 A5 A6 A7:ax} (h:sF ops L g x y=some (.pointer (some ⟨b,o,none⟩),v)) (ht:(tK E.P t).map (·.2)=some n) (hk:(v.cells.toList.length==n&&v.cells.toList.all Value.oneCell'&&Nat.ble (o+n) cs.length)=true) (hcs:cs.take o++v.cells.toList++cs.drop (o+n)=cs') (k:RJ E ops Q rest D L (A0::A1::A2::A3::A4::A5::A6::A7::cu b tt cs'::C)):RJ E ops Q (⟨none,.store t x y,ty,ps,af,g⟩::rest) D L (A0::A1::A2::A3::A4::A5::A6::A7::cu b tt cs::C):=LD 8 h ht rfl hk hcs rfl k
theorem Wj (cs':List Value) {t n b o tt:Nat} {x y:Operand} {v:Value} {cs:List Value} {A0 A1 A2 A3 A4 A5 A6 A7 A8:ax} (h:sF ops L g x y=some (.pointer (some ⟨b,o,none⟩),v)) (ht:(tK E.P t).map (·.2)=some n) (hk:(v.cells.toList.length==n&&v.cells.toList.all Value.oneCell'&&Nat.ble (o+n) cs.length)=true) (hcs:cs.take o++v.cells.toList++cs.drop (o+n)=cs') (k:RJ E ops Q rest D L (A0::A1::A2::A3::A4::A5::A6::A7::A8::cu b tt cs'::C)):RJ E ops Q (⟨none,.store t x y,ty,ps,af,g⟩::rest) D L (A0::A1::A2::A3::A4::A5::A6::A7::A8::cu b tt cs::C):=LD 9 h ht rfl hk hcs rfl k
theorem Uf {t n b tt:Nat} {x y:Operand} {cs cs':List Value} {A0 A1 A2 A3 A4 A5 A6 A7 A8 A9:ax} (h:sF ops L g x y=some (.pointer (some ⟨b,0,none⟩),.agg cs'.toArray)) (ht:(tK E.P t).map (·.2)=some n) (hk:(Nat.beq cs'.length n&&cs'.all Value.oneCell'&&Nat.beq n cs.length)=true) (k:RJ E ops Q rest D L (A0::A1::A2::A3::A4::A5::A6::A7::A8::A9::cu b tt cs'::C)):RJ E ops Q (⟨none,.store t x y,ty,ps,af,g⟩::rest) D L (A0::A1::A2::A3::A4::A5::A6::A7::A8::A9::cu b tt cs::C):=OI 10 h ht rfl hk rfl k
theorem Sa (cs':List Value) {t n b o tt:Nat} {x y:Operand} {v:Value} {cs:List Value} {A0 A1 A2 A3 A4 A5 A6 A7 A8 A9:ax} (h:sF ops L g x y=some (.pointer (some ⟨b,o,none⟩),v)) (ht:(tK E.P t).map (·.2)=some n) (hk:(v.cells.toList.length==n&&v.cells.toList.all Value.oneCell'&&Nat.ble (o+n) cs.length)=true) (hcs:cs.take o++v.cells.toList++cs.drop (o+n)=cs') (k:RJ E ops Q rest D L (A0::A1::A2::A3::A4::A5::A6::A7::A8::A9::cu b tt cs'::C)):RJ E ops Q (⟨none,.store t x y,ty,ps,af,g⟩::rest) D L (A0::A1::A2::A3::A4::A5::A6::A7::A8::A9::cu b tt cs::C):=LD 10 h ht rfl hk hcs rfl k
theorem QX (cs':List Value) {t n b o tt:Nat} {x y:Operand} {v:Value} {cs:List Value} {A0 A1 A2 A3 A4 A5 A6 A7 A8 A9 A10:ax} (h:sF ops L g x y=some (.pointer (some ⟨b,o,none⟩),v)) (ht:(tK E.P t).map (·.2)=some n) (hk:(v.cells.toList.length==n&&v.cells.toList.all Value.oneCell'&&Nat.ble (o+n) cs.length)=true) (hcs:cs.take o++v.cells.toList++cs.drop (o+n)=cs') (k:RJ E ops Q rest D L (A0::A1::A2::A3::A4::A5::A6::A7::A8::A9::A10::cu b tt cs'::C)):RJ E ops Q (⟨none,.store t x y,ty,ps,af,g⟩::rest) D L (A0::A1::A2::A3::A4::A5::A6::A7::A8::A9::A10::cu b tt cs::C):=LD 11 h ht rfl hk hcs rfl k
end
section
variable {E:fg} {y:Code} {Q:dg} {D:List Deferred} {L:List (Nat×Value)} {C:List ax}
theorem WS {id:Nat} {ops:Array Oper} (h: ∀ K:Act→World→Prop,(∀ D L C,WJ E y Q D L C→KJ E K D L C)→RJ E ops (Exit.then K Q) ops.toList D L C):WJ E (.seq (.region id ops false) y) Q D L C:=ak fun K hK=>au (h K hK)
theorem RK {ops:Array Oper} {K:Act→World→Prop} {Q':dg} (hK: ∀ D L C,WJ E y Q D L C→KJ E K D L C) (k:WJ E y Q D L C):RJ E ops (Exit.then K Q') [] D L C:=aF (bg (hK _ _ _ k))
theorem KK {K:Act→World→Prop} {Q':dg} (hK: ∀ D L C,WJ E y Q D L C→KJ E K D L C) (k:WJ E y Q D L C):KJ E (Exit.then K Q' .normal) D L C:=bg (hK _ _ _ k)
theorem WK {K:Act→World→Prop} {Q':dg} (hK: ∀ D L C,WJ E y Q D L C→KJ E K D L C) (k:WJ E y Q D L C):WJ E .skip (Exit.then K Q') D L C:=cf (bg (hK _ _ _ k))
end
theorem DT {p:Prop} [Decidable p] (h:decide p=true):p:=of_decide_eq_true h
theorem DF {p:Prop} [Decidable p] (h:decide p=false): ¬ p:=of_decide_eq_false h
theorem XT {p:Prop} [Decidable p] (h:(!decide p)=true): ¬ p:=by simpa using h
theorem XF {p:Prop} [Decidable p] (h:(!decide p)=false):p:=by simpa using h
/-- what a function hands back: one result, two, three, that lie in slots -/
theorem Q1 {E:fg} {fn:Func} {K:Act→World→Prop} {L:dw} {C:List ax} {t:Nat} {u v:Value} (hQ: ∀ D L C,LJ E fn (Aq E.w0 v) D L C→KJ E K D L C) (hS:E.S=tD) (hr:fn.results.toList=[.tmp t]) (hl:L.lookup t=some u) (e:u=v):KJ E K [] L C:=
 hQ _ _ _ (jV (vs:=[u]) (by rw [hr]; exact ⟨hl,trivial⟩) fun w hs=>By e (by rw [hS] at hs; exact hs))
theorem Q2 {E:fg} {fn:Func} {K:Act→World→Prop} {L:dw} {C:List ax} {t s:Nat} {u x v:Value} (hQ: ∀ D L C,LJ E fn (Aq E.w0 v) D L C→KJ E K D L C) (hS:E.S=tD) (hr:fn.results.toList=[.tmp t,.tmp s]) (hl:L.lookup t=some u) (hm:L.lookup s=some x) (e:vT [u,x]=v):KJ E K [] L C:=
 hQ _ _ _ (jV (vs:=[u,x]) (by rw [hr]; exact ⟨hl,hm,trivial⟩) fun w hs=>By e (by rw [hS] at hs; exact hs))
theorem Q3 {E:fg} {fn:Func} {K:Act→World→Prop} {L:dw} {C:List ax} {t s r:Nat} {u x y v:Value} (hQ: ∀ D L C,LJ E fn (Aq E.w0 v) D L C→KJ E K D L C) (hS:E.S=tD) (hr:fn.results.toList=[.tmp t,.tmp s,.tmp r]) (hl:L.lookup t=some u) (hm:L.lookup s=some x) (hn:L.lookup r=some y) (e:vT [u,x,y]=v):KJ E K [] L C:=
 hQ _ _ _ (jV (vs:=[u,x,y]) (by rw [hr]; exact ⟨hl,hm,hn,trivial⟩) fun w hs=>By e (by rw [hS] at hs; exact hs))
theorem N1 {E:fg} {ops:Array Oper} {D:g9} {C' C1:List ax} {F:dw→List ax→Prop} {tb rem:List Nat} {n:Nat} {L:dw} {C:List ax} (i:Nat)
 (h:Co E ops D C' C1 F tb n (rem.filter (· != i)) i L C) (hm:rem.filter (fun i=>rem.all fun j=> !iT (qv ops) j i)=[i]:=by kernel_rfl):TN E ops D C' C1 F tb (n+1) rem L C:=mU [i] hm (iI h qt)
theorem NO {E:fg} {ops:Array Oper} {D:g9} {C' C1:List ax} {F:dw→List ax→Prop} {tb rem:List Nat} {n i:Nat} {L:dw} {C:List ax} {o:Oper} (ho:ops[i]? =some o) (ht:tb.contains i=false) (rem':List Nat)
 (h: ∀ K:Act→World→Prop,(∀ L' C'',(∀ w,St E.S E.w0 C'' w→St E.S E.w0 C' w)→TN E ops D C' C1 F tb n rem' L' C''→KJ E K D L' C'')→RJ E ops (NQ K) [o] D L C) (hr:rem=rem':=by kernel_rfl):Co E ops D C' C1 F tb n rem i L C:=VI ho hr ht h
theorem RD {E:fg} {ops:Array Oper} {K:Act→World→Prop} {D:g9} {L:dw} {C C':List ax} {X:dw→List ax→Prop} (hT: ∀ L' C'',(∀ w,St E.S E.w0 C'' w→St E.S E.w0 C' w)→X L' C''→KJ E K D L' C'')
 (k:Nat) (h2:C.drop k=C') (h:X L C):RJ E ops (NQ K) [] D L C:=aF (hT _ _ (fun w hs=>h2▸hs.take (List.drop_sublist k C)) h)
theorem bB {L L':dw} (h:L'.map (fun p=>L.lookup p.1)=L'.map (fun p=>some p.2)):dh L L':=by
 induction L' with
 |nil=>exact dh.nil _
 |cons p t ih=>
  simp only [List.map_cons,List.cons.injEq] at h
  exact dh.cons h.1 (ih h.2)
theorem QN {C:List ax} {A A' B B' D D':ax} (i j k:Nat) (h1:C[i]? =some A') (e1:A'.holds=A.holds) (h2:C[j]? =some B') (e2:B'.holds=B.holds) (h3:C[k]? =some D') (e3:D'.holds=D.holds):kF C [A,B,D]:=gY i h1 e1 (gY j h2 e2 (gY k h3 e3 aO))
theorem bW {E:fg} {c:Operand} {x y:Code} {b:Bool} {Q:dg} {D:List Deferred} {L:List (Nat×Value)} {C:List ax} (hc:ev L c=some (.bool b)) (h2:b=false→WJ E y Q D L C) (h1:b=true→WJ E x Q D L C):WJ E (.cond c x y) Q D L C:=cx hc h1 h2
theorem cp {E:fg} {ops:Array Oper} {Q:dg} {rest:List Oper} {D:List Deferred} {L:List (Nat×Value)} {C:List ax} {t:Nat} {b:Bool} (h:L.lookup t=some (.bool b)) (h2:b=false→RJ E ops Q rest D ((t,.bool false)::L) C) (h1:b=true→RJ E ops Q rest D ((t,.bool true)::L) C):RJ E ops Q rest D L C:=b_ h h1 h2
theorem jy {E:fg} {ops:Array Oper} {Q:dg} {rest:List Oper} {D:List Deferred} {L:List (Nat×Value)} {C:List ax} {t:Nat} {b:Bool} {os:List Oper} (h:L.lookup t=some (.bool b)) (h2:b=false→DJ E ops D C (fun L2=>RJ E ops Q rest D L2 C) os ((t,.bool false)::L)) (h1:b=true→DJ E ops D C (fun L2=>RJ E ops Q rest D L2 C) os ((t,.bool true)::L)):DJ E ops D C (fun L2=>RJ E ops Q rest D L2 C) os L:=g_ h h1 h2
theorem cG {L:List (Nat×Value)}: ∀ (k:Nat) {L2:List (Nat×Value)} (q:dh L (L2.drop k)) (h:(L2.take k).map (fun p=>L.lookup p.1)=(L2.take k).map (fun p=>some p.2):=by rfl),dh L L2
 |0,_,q,_=>q
 |_+1,[],_,_=>dh.nil _
 |k+1,p::L2,q,h=>by
  obtain ⟨A,B⟩:=List.cons.inj (show L.lookup p.1::(L2.take k).map (fun p=>L.lookup p.1)=some p.2::(L2.take k).map (fun p=>some p.2) from h)
  exact dh.cons (t:=p.1) (v:=p.2) A (cG k q B)
theorem oX {E:fg} {ops:Array Oper} {Q:dg} {rest:List Oper} {D:List Deferred} {L:List (Nat×Value)} {C:List ax} {d:Nat} {ty:TypeId} {ps:String} {af:Array Edge} {g:Option (Nat×Bool)} {op:Op} (k:RJ E ops Q rest D ((d,undef)::L) C) (h:(CR ops L g&&Nat.blt d E.n)=true:=by rfl):RJ E ops Q (⟨some d,op,ty,ps,af,g⟩::rest) D L C:=rS (OX h) k
theorem dX {E:fg} {ops:Array Oper} {F:List (Nat×Value)→Prop} {rest:List Oper} {D:List Deferred} {L:List (Nat×Value)} {C:List ax} {d:Nat} {ty:TypeId} {ps:String} {af:Array Edge} {g:Option (Nat×Bool)} {op:Op} (k:DJ E ops D C F rest ((d,undef)::L)) (h:(CR ops L g&&Nat.blt d E.n)=true:=by rfl):DJ E ops D C F (⟨some d,op,ty,ps,af,g⟩::rest) L:=dS (OX h) k
end
section
open Go.RowKit
section
variable {E:fg} {ops:Array Oper} {Q:dg} {rest:List Oper} {D:List Deferred} {L:List (Nat×Value)} {C:List ax}
variable {d:Nat} {ty:TypeId} {ps:String} {af:Array Edge} {g:Option (Nat×Bool)}
theorem M8 {P:Program} {t e sz:Nat} (h:tE P t=some (e,sz)) (w:World):P.underlying t=some (.slice e)∧(sizeOf e).run P w= .ok sz w:=by
 unfold tE at h
 split at h
 ·rename_i e' hu
  split at h
  ·rename_i i hi
   cases h
   exact ⟨hu,by simp [sizeOf,typeInfo,hi]⟩
  ·cases h
 ·cases h
theorem ED {P:Program} {t e:Nat} (h:P.underlying t=some (.slice e)):P.underlying t=some (.slice (P.elem t)):=by
 rw [h]; simp [Program.elem,h]
theorem MP {P:Program} {t e:Nat} (h:P.underlying t=some (.slice e)):P.elem t=e:=by simp [Program.elem,h]
/-- s[:k] -/
theorem Wf (k:Nat) {x hi:Operand} {t e sz n c:Nat} {A:OA} {j:Int} (h:bF E.n ops L d g x hi=some (.slice A n c,.int .i64 j)) (ht:tE E.P t=some (e,sz)) (hj:j=(k:Int)) (hk:k≤c):
 SE E ops ⟨some d,.slice t x none (some hi) none,ty,ps,af,g⟩ D L C (.slice A k c) d:=by
 obtain ⟨H,AA,J,K⟩:=tf h
 subst hj
 refine ⟨eA H sm fun a w B hs=>?_,U,AA⟩
 obtain ⟨hu,hz⟩:=M8 ht w
 have hr:=run_slice_h (P:=E.P) w t A n c (ED hu) .i64 (k:Int) I I
 rw [MP hu,hz] at hr
 have G:(if c=0 then A else A.map (·.add (0*sz)))=A:=by
  split
  ·rfl
  ·cases A with
   |none=>rfl
   |some ad=>simp [Addr.add]
 simp only [Result.andThen,Int.toNat_natCast,sliced,G,Nat.sub_zero] at hr
 have F:=run_sliceAt_slice (P:=E.P) w t (.slice A n c) none (some (.int .i64 (k:Int))) none (ED hu)
 simp [execOp,B.ev J,B.ev K,F,hr]
/-- an element of a row whose place is known -/
theorem Wu (k:Nat) {x ix:Operand} {A:OA} {ad:Addr} {n c sz e t:Nat} {j:Int} (h:bF E.n ops L d g x ix=some (.slice A n c,.int .i64 j)) (hA:A=some ad) (ht:tE E.P t=some (e,sz)) (hj:j=(k:Int)) (hk:k<n):
 SE E ops ⟨some d,.indexAddr t x ix,ty,ps,af,g⟩ D L C (.pointer (l7 A (k*sz))) d:=by
 obtain ⟨F,G,H,AA⟩:=tf h
 refine ⟨eA F sm fun a w B hs=>?_,U,G⟩
 subst hA hj
 simp [execOp,B.ev H,B.ev AA,l7,ry ht hk]
end
theorem Mj {w:World} {a:OA} {c e sz:Nat} {es:List (List Value)} (h:(own a c e sz es).holds w):es.length≤c:=by
 rcases h.2.2 with ⟨A,B⟩|⟨g,cap,cur,hv,_,_,C,_⟩
 ·omega
 ·injection hv with _ _ hc; omega
end
section
open Go.RowKit
/-- an array's length, its elements' type and their size -/
def aE (P:Program) (t:TypeId):Option (Nat×TypeId×Nat):=
 match P.underlying t with
 |some (.array n e)=>match P.info? e with
  |some i=>some (n,e,i.size)
  |none=>none
 |_=>none
theorem FG {P:Program} {t n e sz:Nat} (h:aE P t=some (n,e,sz)) (w:World):P.underlying t=some (.array n e)∧(sizeOf e).run P w= .ok sz w:=by
 unfold aE at h
 split at h
 ·rename_i n' e' hu
  split at h
  ·rename_i i hi
   cases h
   exact ⟨hu,by simp [sizeOf,typeInfo,hi]⟩
  ·cases h
 ·cases h
theorem wg {P:Program} {t n e sz:Nat} (h:aE P t=some (n,e,sz)) (a:Addr) (w:World):
 (Instr.sliceAt t (.pointer (some a)) none none none).run P w= .ok (.slice (some a) n n) w:=by
 obtain ⟨hu,hz⟩:=FG h w
 have A:a.add 0=a:=by simp [Addr.add]
 simp [Instr.sliceAt,underlying,hu,Instr.sureAddr,Instr.sliceBounds,hz,A]
theorem wc {P:Program} {t n e sz:Nat} (h:aE P t=some (n,e,sz)) (a:Addr) {k:Nat} (hk:k<n) (w:World):
 (Instr.indexAt t (.pointer (some a)) (.int .i64 (k:Int))).run P w= .ok (.pointer (some (a.add (k*sz)))) w:=by
 obtain ⟨hu,hz⟩:=FG h w
 have A: ¬ n≤k:=by omega
 simp [Instr.indexAt,underlying,hu,Instr.sureAddr,asIntOf,hz,A]
 try exact fun h=>absurd h A
 try omega
section
variable {E:fg} {ops:Array Oper} {Q:dg} {rest:List Oper} {D:List Deferred} {L:List (Nat×Value)} {C:List ax}
variable {dst:Option Nat} {ty:TypeId} {ps:String} {af:Array Edge} {g:Option (Nat×Bool)}
theorem DB {x:Operand} {a:Addr} {t n e sz:Nat} (hg:j0 ops L g=true) (hx:ev L x=some (.pointer (some a))) (ht:aE E.P t=some (n,e,sz)):
 SD E ops ⟨dst,.slice t x none none none,ty,ps,af,g⟩ D L C (.slice (some a) n n):=
 eA hg sm fun b w A hs=>by
  simp [execOp,A.ev hx,wg ht]
theorem D0 {x ix:Operand} {a:Addr} {t n e sz k:Nat} {j:Int} (hg:j0 ops L g=true) (hx:ev L x=some (.pointer (some a))) (hi:ev L ix=some (.int .i64 j)) (ht:aE E.P t=some (n,e,sz)) (hj:j=(k:Int)) (hk:k<n):
 SD E ops ⟨dst,.indexAddr t x ix,ty,ps,af,g⟩ D L C (.pointer (l7 (some a) (k*sz))):=
 eA hg sm fun b w A hs=>by
  subst hj
  simp [execOp,A.ev hx,A.ev hi,l7,wc ht a hk]
end
end
section
open Go.RowKit
/-- a table of facts on the program's types -/
structure CY where
 tk:List (Nat×Bool×Nat)
 fo:List (Nat×List (Option Nat))
 sl:List Nat
def QW {α:Type}:List (Nat×α)→Nat→Option α
 |[],_=>none
 |(k,v)::l,t=>match Nat.beq k t with
  |true=>some v
  |false=>QW l t
theorem zE {α:Type}: ∀ {l:List (Nat×α)} {t:Nat} {v:α},QW l t=some v→(t,v)∈l
 |[],t,v,h=>by simp [QW] at h
 |(k,u)::l,t,v,h=>by
  unfold QW at h
  split at h
  ·rename_i hb
   cases h
   rw [Nat.eq_of_beq_eq_true hb]; exact cy
  ·exact dI _ (zE h)
def Lv:List Nat→Nat→Bool
 |[],_=>false
 |k::l,t=>match Nat.beq k t with
  |true=>true
  |false=>Lv l t
theorem CE: ∀ {l:List Nat} {t:Nat},Lv l t=true→t∈l
 |[],t,h=>by simp [Lv] at h
 |k::l,t,h=>by
  unfold Lv at h
  split at h
  ·rename_i hb
   rw [Nat.eq_of_beq_eq_true hb]; exact cy
  ·exact dI _ (CE h)
def CY.Jf (T:CY) (t:Nat):Option (Bool×Nat):=QW T.tk t
def CY.foF (T:CY) (s f:Nat):Option Nat:=match QW T.fo s with
 |some l=>match l[f]? with
  |some (some k)=>some k
  |_=>none
 |none=>none
structure lR (P:Program) (T:CY):Prop where
 tk: ∀ p∈T.tk,tK P p.1=some p.2
 fo: ∀ p∈T.fo,∀ f k,p.2[f]? =some (some k)→sB P p.1 f=some k
 sl: ∀ t∈T.sl,∃ e,P.underlying t=some (.slice e)
theorem lR.Jf {P:Program} {T:CY} (h:lR P T) {t:Nat} {r:Bool×Nat} (e:T.Jf t=some r):tK P t=some r:=h.tk _ (zE e)
theorem lR.foF {P:Program} {T:CY} (h:lR P T) {s f k:Nat} (e:T.foF s f=some k):sB P s f=some k:=by
 unfold CY.foF at e
 split at e
 ·rename_i l hl
  split at e
  ·rename_i k' hk
   cases e
   exact h.fo _ (zE hl) f k hk
  ·cases e
 ·cases e
def TQ (P:Program) (T:CY):Bool:=(T.tk.all fun p=>decide (tK P p.1=some p.2))&&(T.fo.all fun p=>(List.range p.2.length).all fun f=>match p.2[f]? with
 |some (some k)=>decide (sB P p.1 f=some k)
 |_=>true)&&T.sl.all fun t=>match P.underlying t with
 |some (.slice _)=>true
 |_=>false
theorem QG {P:Program} {T:CY} (h:TQ P T=true):lR P T:=by
 unfold TQ at h
 rw [db,db] at h
 obtain ⟨⟨B,C⟩,D⟩:=h
 refine ⟨fun p hp=>by simpa using cV.1 B p hp,fun p hp f k hk=>?_,fun t ht=>?_⟩
 ·have A:=cV.1 (cV.1 C p hp) f (List.mem_range.2 (aW.1 hk).1)
  rw [hk] at A
  simpa using A
 ·have A:=cV.1 D t ht
  split at A
  ·rename_i e he; exact ⟨e,he⟩
  ·cases A
end
section
theorem Dw:tK Tryz.prog 3=some (false,1):=by kernel_rfl
theorem V_:tK Tryz.prog 5=some (false,1):=by kernel_rfl
theorem TI:tK Tryz.prog 24=some (true,1):=by kernel_rfl
theorem PC:tK Tryz.prog 25=some (false,1):=by kernel_rfl
theorem UL:tK Tryz.prog 26=some (false,1):=by kernel_rfl
theorem V1:tK Tryz.prog 28=some (true,7):=by kernel_rfl
theorem UQ:tK Tryz.prog 29=some (false,1):=by kernel_rfl
theorem Ve:tK Tryz.prog 30=some (false,1):=by kernel_rfl
theorem UX:tK Tryz.prog 32=some (true,11):=by kernel_rfl
theorem Vh:tK Tryz.prog 33=some (false,1):=by kernel_rfl
theorem Ug:tK Tryz.prog 34=some (false,1):=by kernel_rfl
theorem Ub:tK Tryz.prog 36=some (true,15):=by kernel_rfl
theorem UM:tK Tryz.prog 42=some (false,1):=by kernel_rfl
theorem VU:tK Tryz.prog 47=some (true,5):=by kernel_rfl
theorem VW:tK Tryz.prog 51=some (false,1):=by kernel_rfl
theorem U3:tK Tryz.prog 53=some (true,2):=by kernel_rfl
theorem U_:tK Tryz.prog 54=some (false,1):=by kernel_rfl
theorem Vk:tK Tryz.prog 56=some (true,3):=by kernel_rfl
theorem VB:tK Tryz.prog 58=some (true,7):=by kernel_rfl
theorem RE:tK Tryz.prog 71=some (false,1):=by kernel_rfl
theorem Vl:tK Tryz.prog 73=some (true,2):=by kernel_rfl
theorem U9:tK Tryz.prog 75=some (true,3):=by kernel_rfl
theorem Ue:tK Tryz.prog 78=some (true,2):=by kernel_rfl
theorem UF:tK Tryz.prog 80=some (true,4):=by kernel_rfl
theorem Ut:tK Tryz.prog 93=some (true,15):=by kernel_rfl
theorem Sw:tK Tryz.prog 118=some (true,9):=by kernel_rfl
theorem SF:tK Tryz.prog 120=some (true,3):=by kernel_rfl
theorem Rh:tK Tryz.prog 132=some (true,2):=by kernel_rfl
theorem SK:tK Tryz.prog 133=some (true,8):=by kernel_rfl
theorem Si:tK Tryz.prog 137=some (true,4):=by kernel_rfl
theorem Ti:tK Tryz.prog 148=some (false,1):=by kernel_rfl
theorem Sx:tK Tryz.prog 153=some (false,1):=by kernel_rfl
theorem SC:tK Tryz.prog 156=some (false,1):=by kernel_rfl
theorem Tk:tK Tryz.prog 158=some (true,2):=by kernel_rfl
theorem RU:tK Tryz.prog 163=some (false,1):=by kernel_rfl
theorem Tm:tK Tryz.prog 175=some (true,1):=by kernel_rfl
theorem Tc:tK Tryz.prog 176=some (true,4):=by kernel_rfl
theorem Su:tK Tryz.prog 196=some (true,1):=by kernel_rfl
theorem Rs:tK Tryz.prog 204=some (false,1):=by kernel_rfl
theorem Rv:tK Tryz.prog 250=some (false,1):=by kernel_rfl
theorem Se:tK Tryz.prog 252=some (true,3):=by kernel_rfl
theorem CU:(tK Tryz.prog 3).map (·.2)=some 1:=by rw [Dw]; rfl
theorem RY:(tK Tryz.prog 24).map (·.2)=some 1:=by rw [TI]; rfl
theorem Vi:(tK Tryz.prog 25).map (·.2)=some 1:=by rw [PC]; rfl
theorem UE:(tK Tryz.prog 26).map (·.2)=some 1:=by rw [UL]; rfl
theorem O5:(tK Tryz.prog 28).map (·.2)=some 7:=by rw [V1]; rfl
theorem Gi:(tK Tryz.prog 29).map (·.2)=some 1:=by rw [UQ]; rfl
theorem UA:(tK Tryz.prog 30).map (·.2)=some 1:=by rw [Ve]; rfl
theorem Th:(tK Tryz.prog 32).map (·.2)=some 11:=by rw [UX]; rfl
theorem Vq:(tK Tryz.prog 33).map (·.2)=some 1:=by rw [Vh]; rfl
theorem UJ:(tK Tryz.prog 34).map (·.2)=some 1:=by rw [Ug]; rfl
theorem Qp:(tK Tryz.prog 36).map (·.2)=some 15:=by rw [Ub]; rfl
theorem Vc:(tK Tryz.prog 42).map (·.2)=some 1:=by rw [UM]; rfl
theorem QF:(tK Tryz.prog 47).map (·.2)=some 5:=by rw [VU]; rfl
theorem VH:(tK Tryz.prog 51).map (·.2)=some 1:=by rw [VW]; rfl
theorem cZ:(tK Tryz.prog 53).map (·.2)=some 2:=by rw [U3]; rfl
theorem U2:(tK Tryz.prog 54).map (·.2)=some 1:=by rw [U_]; rfl
theorem P9:(tK Tryz.prog 56).map (·.2)=some 3:=by rw [Vk]; rfl
theorem DC:(tK Tryz.prog 58).map (·.2)=some 7:=by rw [VB]; rfl
theorem U4:(tK Tryz.prog 71).map (·.2)=some 1:=by rw [RE]; rfl
theorem RO:(tK Tryz.prog 73).map (·.2)=some 2:=by rw [Vl]; rfl
theorem z5:(tK Tryz.prog 75).map (·.2)=some 3:=by rw [U9]; rfl
theorem uN:(tK Tryz.prog 78).map (·.2)=some 2:=by rw [Ue]; rfl
theorem Pj:(tK Tryz.prog 80).map (·.2)=some 4:=by rw [UF]; rfl
theorem DR:(tK Tryz.prog 93).map (·.2)=some 15:=by rw [Ut]; rfl
theorem Jw:(tK Tryz.prog 118).map (·.2)=some 9:=by rw [Sw]; rfl
theorem Oh:(tK Tryz.prog 120).map (·.2)=some 3:=by rw [SF]; rfl
theorem Jj:(tK Tryz.prog 132).map (·.2)=some 2:=by rw [Rh]; rfl
theorem TC:(tK Tryz.prog 133).map (·.2)=some 8:=by rw [SK]; rfl
theorem mF:(tK Tryz.prog 137).map (·.2)=some 4:=by rw [Si]; rfl
theorem y7:(tK Tryz.prog 148).map (·.2)=some 1:=by rw [Ti]; rfl
theorem E6:(tK Tryz.prog 153).map (·.2)=some 1:=by rw [Sx]; rfl
theorem Jk:(tK Tryz.prog 156).map (·.2)=some 1:=by rw [SC]; rfl
theorem sD:(tK Tryz.prog 158).map (·.2)=some 2:=by rw [Tk]; rfl
theorem Sh:(tK Tryz.prog 163).map (·.2)=some 1:=by rw [RU]; rfl
theorem Fu:(tK Tryz.prog 175).map (·.2)=some 1:=by rw [Tm]; rfl
theorem Q7:(tK Tryz.prog 176).map (·.2)=some 4:=by rw [Tc]; rfl
theorem Jp:(tK Tryz.prog 196).map (·.2)=some 1:=by rw [Su]; rfl
theorem Sp:(tK Tryz.prog 204).map (·.2)=some 1:=by rw [Rs]; rfl
theorem RX:(tK Tryz.prog 250).map (·.2)=some 1:=by rw [Rv]; rfl
theorem QZ:(tK Tryz.prog 252).map (·.2)=some 3:=by rw [Se]; rfl
theorem zm:aE Tryz.prog 232=some (3,231,2):=by kernel_rfl
theorem K_:sB Tryz.prog 28 2=some 2:=by kernel_rfl
theorem Ij:sB Tryz.prog 73 1=some 1:=by kernel_rfl
theorem Up:sv Tryz.prog 58=true:=by kernel_rfl
theorem tp (l:List aX): ∀ v∈(l.map aX.cells).flatten,v.oneCell'=true:=kT (fun _=>rfl) l
theorem kU (l:List ag): ∀ v∈(l.map ag.cells).flatten,v.oneCell'=true:=kT (fun _=>rfl) l
theorem wv (l:List cQ): ∀ v∈(l.map cQ.cells).flatten,v.oneCell'=true:=kT (fun _=>rfl) l
theorem tP (l:List aG): ∀ v∈(l.map aG.cells).flatten,v.oneCell'=true:=kT (fun _=>rfl) l
theorem vv (l:List aM): ∀ v∈(l.map aM.cells).flatten,v.oneCell'=true:=kT (fun _=>rfl) l
theorem sX (l:List ao): ∀ v∈(l.map ao.cells).flatten,v.oneCell'=true:=kT (fun _=>rfl) l
theorem wk (l:List bJ): ∀ v∈(l.map bJ.cells).flatten,v.oneCell'=true:=kT (fun _=>rfl) l
theorem T3:tA Tryz.prog 22=some (118,9,72,(Value.agg [(vI 0),(vI 0),(vI 0),(vI 0),(vI 0),(vI 0),(vI 0),(Value.int .u8 0),(vI 0)].toArray)):=by kernel_rfl
theorem Vy:tA Tryz.prog 25=some (73,2,32,(Value.agg [(vI 0),(vS none 0 0)].toArray)):=by kernel_rfl
theorem VK:tA Tryz.prog 26=some (122,4,32,(Value.agg [(vI 0),(vI 0),(vI 0),(vI 0)].toArray)):=by kernel_rfl
theorem sx:tA Tryz.prog 29=some (3,1,8,(vI 0)):=by kernel_rfl
theorem Uw:tA Tryz.prog 30=some (51,1,24,(vS none 0 0)):=by kernel_rfl
theorem V3:tA Tryz.prog 33=some (80,4,32,(Value.agg [(Value.int .u8 0),(vI 0),(vI 0),(vI 0)].toArray)):=by kernel_rfl
theorem U0:tA Tryz.prog 34=some (47,5,40,(Value.agg [(vI 0),(vI 0),(vI 0),(vI 0),(vI 0)].toArray)):=by kernel_rfl
theorem Uv:tA Tryz.prog 42=some (29,1,24,(vS none 0 0)):=by kernel_rfl
theorem UB:tA Tryz.prog 51=some (58,7,64,(Value.agg [(vB false),(vB false),(vI 0),(vI 0),(vI 0),(vI 0),(vS none 0 0)].toArray)):=by kernel_rfl
theorem US:tA Tryz.prog 54=some (78,2,16,(Value.agg [(vI 0),(vI 0)].toArray)):=by kernel_rfl
theorem U8:tA Tryz.prog 71=some (75,3,24,(Value.agg [(vI 0),(vI 0),(vI 0)].toArray)):=by kernel_rfl
theorem N5:tA Tryz.prog 147=some (153,1,8,(Value.map none)):=by kernel_rfl
theorem Cl:tA Tryz.prog 148=some (156,1,8,(Value.map none)):=by kernel_rfl
theorem OC:tA Tryz.prog 163=some (204,1,24,(vS none 0 0)):=by kernel_rfl
theorem FE:tA Tryz.prog 204=some (53,2,16,(Value.agg [(vI 0),(vI 0)].toArray)):=by kernel_rfl
theorem N8:tA Tryz.prog 238=some (255,3,72,(Value.agg [(vS none 0 0),(vS none 0 0),(vS none 0 0)].toArray)):=by kernel_rfl
theorem RR:tA Tryz.prog 250=some (4,1,1,(vB false)):=by kernel_rfl
theorem SU:tB Tryz.prog 24=some ([(vS none 0 0)],[(0,1)]):=by kernel_rfl
theorem Uz:tB Tryz.prog 28=some ([(vS none 0 0),(vI 0),(vS none 0 0),(vS none 0 0),(vI 0),(vI 0),(vI 0)],[(0,1),(1,1),(2,1),(3,1),(4,1),(5,1),(6,1)]):=by kernel_rfl
theorem Us:tB Tryz.prog 32=some ([(vS none 0 0),(vI 0),(vS none 0 0),(vS none 0 0),(vI 0),(vI 0),(vI 0),(vS none 0 0),(vS none 0 0),(vI 0),(vS none 0 0)],[(0,7),(7,1),(8,1),(9,1),(10,1)]):=by kernel_rfl
theorem UP:tB Tryz.prog 36=some ([(vS none 0 0),(vI 0),(vS none 0 0),(vS none 0 0),(vI 0),(vI 0),(vI 0),(vS none 0 0),(vS none 0 0),(vI 0),(vS none 0 0),(vS none 0 0),(vS none 0 0),(vI 0),(vI 0)],[(0,11),(11,1),(12,1),(13,1),(14,1)]):=by kernel_rfl
theorem Qn:tB Tryz.prog 47=some ([(vI 0),(vI 0),(vI 0),(vI 0),(vI 0)],[(0,1),(1,1),(2,1),(3,1),(4,1)]):=by kernel_rfl
theorem gX:tB Tryz.prog 53=some ([(vI 0),(vI 0)],[(0,1),(1,1)]):=by kernel_rfl
theorem Va:tB Tryz.prog 56=some ([(vI 0),(vI 0),(vS none 0 0)],[(0,1),(1,1),(2,1)]):=by kernel_rfl
theorem Sk:tB Tryz.prog 58=some ([(vB false),(vB false),(vI 0),(vI 0),(vI 0),(vI 0),(vS none 0 0)],[(0,1),(1,1),(2,2),(4,3)]):=by kernel_rfl
theorem U7:tB Tryz.prog 73=some ([(vI 0),(vS none 0 0)],[(0,1),(1,1)]):=by kernel_rfl
theorem Tu:tB Tryz.prog 75=some ([(vI 0),(vI 0),(vI 0)],[(0,1),(1,2)]):=by kernel_rfl
theorem Ji:tB Tryz.prog 78=some ([(vI 0),(vI 0)],[(0,1),(1,1)]):=by kernel_rfl
theorem NZ:tB Tryz.prog 80=some ([(Value.int .u8 0),(vI 0),(vI 0),(vI 0)],[(0,1),(1,1),(2,1),(3,1)]):=by kernel_rfl
theorem Vr:tB Tryz.prog 93=some ([(vS none 0 0),(vI 0),(vS none 0 0),(vS none 0 0),(vI 0),(vI 0),(vI 0),(vS none 0 0),(vS none 0 0),(vI 0),(vS none 0 0),(vS none 0 0),(vS none 0 0),(vI 0),(vI 0)],[(0,15)]):=by kernel_rfl
theorem SL:tB Tryz.prog 118=some ([(vI 0),(vI 0),(vI 0),(vI 0),(vI 0),(vI 0),(vI 0),(Value.int .u8 0),(vI 0)],[(0,1),(1,2),(3,2),(5,2),(7,1),(8,1)]):=by kernel_rfl
theorem KH:tB Tryz.prog 120=some ([(vI 0),(vI 0),(vI 0)],[(0,1),(1,2)]):=by kernel_rfl
theorem Jr:tB Tryz.prog 122=some ([(vI 0),(vI 0),(vI 0),(vI 0)],[(0,3),(3,1)]):=by kernel_rfl
theorem KP:tB Tryz.prog 132=some ([Value.nilFunc,Value.nilFunc],[(0,1),(1,1)]):=by kernel_rfl
theorem Q_:tB Tryz.prog 133=some ([Value.nilFunc,Value.nilFunc,Value.nilFunc,Value.nilFunc,Value.nilFunc,Value.nilFunc,Value.nilFunc,Value.nilFunc],[(0,2),(2,2),(4,2),(6,2)]):=by kernel_rfl
theorem FF:tB Tryz.prog 137=some ([(vI 0),(vI 0),(vB false),(vB false)],[(0,2),(2,1),(3,1)]):=by kernel_rfl
theorem Ox:tB Tryz.prog 150=some ([(vS none 0 0),(vI 0),(vS none 0 0),(vS none 0 0),(vI 0),(vI 0),(vI 0),(vI 0),(vI 0),(vS none 0 0),(vS none 0 0),(vS none 0 0),(vS none 0 0),(vS none 0 0)],[(0,7),(7,3),(10,1),(11,1),(12,1),(13,1)]):=by kernel_rfl
theorem BN:tB Tryz.prog 158=some ([(vI 0),(vI 0)],[(0,1),(1,1)]):=by kernel_rfl
theorem E4:tB Tryz.prog 175=some ([Value.nilFunc],[(0,1)]):=by kernel_rfl
theorem RZ:tB Tryz.prog 176=some ([Value.nilFunc,Value.nilFunc,Value.nilFunc,Value.nilFunc],[(0,1),(1,1),(2,1),(3,1)]):=by kernel_rfl
theorem Sm:tB Tryz.prog 196=some ([(vS none 0 0)],[(0,1)]):=by kernel_rfl
theorem SQ:tB Tryz.prog 212=some ([(vS none 0 0),(vI 0),(vS none 0 0),(vS none 0 0),(vI 0),(vI 0),(vI 0),(vS none 0 0),(vS none 0 0),(vI 0),(vS none 0 0),(vS none 0 0),(Value.map none)],[(0,11),(11,1),(12,1)]):=by kernel_rfl
theorem Tz:tB Tryz.prog 255=some ([(vS none 0 0),(vS none 0 0),(vS none 0 0)],[(0,1),(1,1),(2,1)]):=by kernel_rfl
theorem yw:tE Tryz.prog 22=some (118,9):=by kernel_rfl
theorem Az:tE Tryz.prog 25=some (73,2):=by kernel_rfl
theorem wq:tE Tryz.prog 26=some (122,4):=by kernel_rfl
theorem dv:tE Tryz.prog 29=some (3,1):=by kernel_rfl
theorem oh:tE Tryz.prog 30=some (51,1):=by kernel_rfl
theorem wi:tE Tryz.prog 33=some (80,4):=by kernel_rfl
theorem Bq:tE Tryz.prog 34=some (47,5):=by kernel_rfl
theorem Dy:tE Tryz.prog 42=some (29,1):=by kernel_rfl
theorem qJ:tE Tryz.prog 51=some (58,7):=by kernel_rfl
theorem yB:tE Tryz.prog 54=some (78,2):=by kernel_rfl
theorem wX:tE Tryz.prog 71=some (75,3):=by kernel_rfl
theorem OJ:tE Tryz.prog 145=some (111,1):=by kernel_rfl
theorem xI:tE Tryz.prog 147=some (153,1):=by kernel_rfl
theorem ow:tE Tryz.prog 148=some (156,1):=by kernel_rfl
theorem IM:tE Tryz.prog 163=some (204,1):=by kernel_rfl
theorem lq:tE Tryz.prog 204=some (53,2):=by kernel_rfl
theorem Kp:tE Tryz.prog 216=some (120,3):=by kernel_rfl
theorem Lt:tE Tryz.prog 229=some (231,2):=by kernel_rfl
theorem F2:tE Tryz.prog 238=some (255,3):=by kernel_rfl
theorem Oc:tE Tryz.prog 250=some (4,1):=by kernel_rfl
theorem JQ:(match Tryz.prog.underlying 53 with |some (.struct fs)=>(fs[0]?).map (fun fl=>tK Tryz.prog fl.type)|_=>none)=some (some (false,1)):=by kernel_rfl
theorem IW:(match Tryz.prog.underlying 53 with |some (.struct fs)=>(fs[1]?).map (fun fl=>tK Tryz.prog fl.type)|_=>none)=some (some (false,1)):=by kernel_rfl
theorem Wc:tV Tryz.prog 3=some (vI 0):=by kernel_rfl
theorem Wd:tV Tryz.prog 4=some (vB false):=by kernel_rfl
theorem UC:tV Tryz.prog 53=some (Value.agg [(vI 0),(vI 0)].toArray):=by kernel_rfl
theorem Kx:tX Tryz.prog 133=some (4,132):=by kernel_rfl
theorem E8:tX Tryz.prog 176=some (4,175):=by kernel_rfl
theorem kj:tZ Tryz.prog 3=some [(vI 0)]:=by kernel_rfl
theorem Wl:tZ Tryz.prog 4=some [(vB false)]:=by kernel_rfl
theorem VG:tZ Tryz.prog 24=some [(vS none 0 0)]:=by kernel_rfl
theorem Tb:tZ Tryz.prog 28=some [(vS none 0 0),(vI 0),(vS none 0 0),(vS none 0 0),(vI 0),(vI 0),(vI 0)]:=by kernel_rfl
theorem SV:tZ Tryz.prog 29=some [(vS none 0 0)]:=by kernel_rfl
theorem VP:tZ Tryz.prog 32=some [(vS none 0 0),(vI 0),(vS none 0 0),(vS none 0 0),(vI 0),(vI 0),(vI 0),(vS none 0 0),(vS none 0 0),(vI 0),(vS none 0 0)]:=by kernel_rfl
theorem QH:tZ Tryz.prog 36=some [(vS none 0 0),(vI 0),(vS none 0 0),(vS none 0 0),(vI 0),(vI 0),(vI 0),(vS none 0 0),(vS none 0 0),(vI 0),(vS none 0 0),(vS none 0 0),(vS none 0 0),(vI 0),(vI 0)]:=by kernel_rfl
theorem Mp:tZ Tryz.prog 47=some [(vI 0),(vI 0),(vI 0),(vI 0),(vI 0)]:=by kernel_rfl
theorem UZ:tZ Tryz.prog 51=some [(vS none 0 0)]:=by kernel_rfl
theorem dV:tZ Tryz.prog 53=some [(vI 0),(vI 0)]:=by kernel_rfl
theorem Ry:tZ Tryz.prog 56=some [(vI 0),(vI 0),(vS none 0 0)]:=by kernel_rfl
theorem Aa:tZ Tryz.prog 58=some [(vB false),(vB false),(vI 0),(vI 0),(vI 0),(vI 0),(vS none 0 0)]:=by kernel_rfl
theorem Qq:tZ Tryz.prog 73=some [(vI 0),(vS none 0 0)]:=by kernel_rfl
theorem yC:tZ Tryz.prog 75=some [(vI 0),(vI 0),(vI 0)]:=by kernel_rfl
theorem Hw:tZ Tryz.prog 78=some [(vI 0),(vI 0)]:=by kernel_rfl
theorem NY:tZ Tryz.prog 80=some [(Value.int .u8 0),(vI 0),(vI 0),(vI 0)]:=by kernel_rfl
theorem Ez:tZ Tryz.prog 93=some [(vS none 0 0),(vI 0),(vS none 0 0),(vS none 0 0),(vI 0),(vI 0),(vI 0),(vS none 0 0),(vS none 0 0),(vI 0),(vS none 0 0),(vS none 0 0),(vS none 0 0),(vI 0),(vI 0)]:=by kernel_rfl
theorem So:tZ Tryz.prog 111=some [Value.nilFunc]:=by kernel_rfl
theorem FT:tZ Tryz.prog 118=some [(vI 0),(vI 0),(vI 0),(vI 0),(vI 0),(vI 0),(vI 0),(Value.int .u8 0),(vI 0)]:=by kernel_rfl
theorem FQ:tZ Tryz.prog 120=some [(vI 0),(vI 0),(vI 0)]:=by kernel_rfl
theorem Sf:tZ Tryz.prog 122=some [(vI 0),(vI 0),(vI 0),(vI 0)]:=by kernel_rfl
theorem Jq:tZ Tryz.prog 132=some [Value.nilFunc,Value.nilFunc]:=by kernel_rfl
theorem Tr:tZ Tryz.prog 133=some [Value.nilFunc,Value.nilFunc,Value.nilFunc,Value.nilFunc,Value.nilFunc,Value.nilFunc,Value.nilFunc,Value.nilFunc]:=by kernel_rfl
theorem oN:tZ Tryz.prog 137=some [(vI 0),(vI 0),(vB false),(vB false)]:=by kernel_rfl
theorem SP:tZ Tryz.prog 153=some [(Value.map none)]:=by kernel_rfl
theorem uG:tZ Tryz.prog 158=some [(vI 0),(vI 0)]:=by kernel_rfl
theorem Fq:tZ Tryz.prog 175=some [Value.nilFunc]:=by kernel_rfl
theorem Tq:tZ Tryz.prog 176=some [Value.nilFunc,Value.nilFunc,Value.nilFunc,Value.nilFunc]:=by kernel_rfl
theorem IS:tZ Tryz.prog 196=some [(vS none 0 0)]:=by kernel_rfl
theorem Ou:tZ Tryz.prog 204=some [(vS none 0 0)]:=by kernel_rfl
theorem Oq:tZ Tryz.prog 252=some [(vS none 0 0),(vS none 0 0),(vS none 0 0)]:=by kernel_rfl
theorem Rq:tZ Tryz.prog 255=some [(vS none 0 0),(vS none 0 0),(vS none 0 0)]:=by kernel_rfl
theorem si:Tryz.prog.underlying 3=some (.int .i64):=by kernel_rfl
theorem UR:Tryz.prog.underlying 4=some .bool:=by kernel_rfl
theorem L_:Tryz.prog.underlying 5=some (.int .u8):=by kernel_rfl
theorem Wm:Tryz.prog.underlying 9=some .string:=by kernel_rfl
theorem Tx:Tryz.prog.underlying 22=some (.slice 118):=by kernel_rfl
theorem Vb:Tryz.prog.underlying 25=some (.slice 73):=by kernel_rfl
theorem PJ:Tryz.prog.underlying 26=some (.slice 122):=by kernel_rfl
theorem UD:Tryz.prog.underlying 29=some (.slice 3):=by kernel_rfl
theorem V4:Tryz.prog.underlying 30=some (.slice 51):=by kernel_rfl
theorem V0:Tryz.prog.underlying 33=some (.slice 80):=by kernel_rfl
theorem Uo:Tryz.prog.underlying 34=some (.slice 47):=by kernel_rfl
theorem HE:Tryz.prog.underlying 45=some (.map 3 4):=by kernel_rfl
theorem VD:Tryz.prog.underlying 51=some (.slice 58):=by kernel_rfl
theorem VM:Tryz.prog.underlying 54=some (.slice 78):=by kernel_rfl
theorem MK:Tryz.prog.underlying 65=some (.int .u32):=by kernel_rfl
theorem UG:Tryz.prog.underlying 71=some (.slice 75):=by kernel_rfl
theorem sO:Tryz.prog.underlying 153=some (.map 3 53):=by kernel_rfl
theorem pw:Tryz.prog.underlying 156=some (.map 158 3):=by kernel_rfl
theorem Ts:Tryz.prog.underlying 245=some (.int .u64):=by kernel_rfl
theorem RI:Tryz.prog.underlying 266=some (.int .u64):=by kernel_rfl
theorem PR:fL Tryz.prog 53=some [(3,0),(3,1)]:=by kernel_rfl
theorem Ok (d:Nat) (s z:ag) (w:World):(Op.equalIn (d+2) 53 (.agg s.cells.toArray) (.agg z.cells.toArray)).run Tryz.prog w= .ok (decide (s=z)) w:=by
 have hc:(decide (s.Lo=z.Lo)&&(decide (s.Hi=z.Hi)&&true))=decide (s=z):=by rw [Bool.eq_iff_iff]; simp [ag.ext_iff]
 rw [← hc]
 exact sY (d+1) PR w (mL w (gZ Dw U w) (gZ Dw U w) (oI _ si w) (mL w (gZ Dw U w) (gZ Dw U w) (oI _ si w) (z3 w)))
theorem x3 (x y:Operand) (s z:ag):iD Tryz.prog .eql 53 x y (.agg s.cells.toArray) (.agg z.cells.toArray) (.bool (decide (s=z))):=zu x y (xn PR) fun w=>Ok 9998 s z w
theorem Tp (x y:Operand) (s z:ag):iD Tryz.prog .neq 53 x y (.agg s.cells.toArray) (.agg z.cells.toArray) (.bool (!decide (s=z))):=Gp x y (xn PR) fun w=>Ok 9998 s z w
theorem Oy:fL Tryz.prog 158=some [(3,0),(3,1)]:=by kernel_rfl
theorem PX (d:Nat) (s z:aI) (w:World):(Op.equalIn (d+2) 158 (.agg s.cells.toArray) (.agg z.cells.toArray)).run Tryz.prog w= .ok (decide (s=z)) w:=by
 have hc:(decide (s.right=z.right)&&(decide (s.eT=z.eT)&&true))=decide (s=z):=by rw [Bool.eq_iff_iff]; simp [aI.ext_iff]
 rw [← hc]
 exact sY (d+1) Oy w (mL w (gZ Dw U w) (gZ Dw U w) (oI _ si w) (mL w (gZ Dw U w) (gZ Dw U w) (oI _ si w) (z3 w)))
theorem Ri:fL Tryz.prog 80=some [(5,0),(3,1),(3,2),(3,3)]:=by kernel_rfl
theorem Q4 (d:Nat) (s z:aM) (w:World):(Op.equalIn (d+2) 80 (.agg s.cells.toArray) (.agg z.cells.toArray)).run Tryz.prog w= .ok (decide (s=z)) w:=by
 have hc:(decide (s.Kind=z.Kind)&&(decide (s.eL=z.eL)&&(decide (s.gu=z.gu)&&(decide (s.To=z.To)&&true))))=decide (s=z):=by rw [Bool.eq_iff_iff]; simp [aM.ext_iff]
 rw [← hc]
 exact sY (d+1) Ri w (mL w (gZ V_ U w) (gZ V_ U w) (oI _ L_ w) (mL w (gZ Dw U w) (gZ Dw U w) (oI _ si w) (mL w (gZ Dw U w) (gZ Dw U w) (oI _ si w) (mL w (gZ Dw U w) (gZ Dw U w) (oI _ si w) (z3 w)))))
theorem SZ (x y:Operand) (s z:aM):iD Tryz.prog .eql 80 x y (.agg s.cells.toArray) (.agg z.cells.toArray) (.bool (decide (s=z))):=zu x y (xn Ri) fun w=>Q4 9998 s z w
theorem ct:Tryz.prog.follows .mixedOrders=true:=by kernel_rfl
def TT:CY:=⟨[(1,false,1),(2,false,1),(3,false,1),(4,false,1),(5,false,1),(6,false,1),(7,true,4),(8,true,4),(12,false,1),(15,false,1),(16,false,1),(17,false,1),(18,true,1),(19,true,1),(21,false,1),(22,false,1),(23,true,1),(24,true,1),(25,false,1),(26,false,1),(27,true,7),(28,true,7),(29,false,1),(30,false,1),(31,true,11),(32,true,11),(33,false,1),(34,false,1),(35,true,15),(36,true,15),(37,false,1),(38,false,1),(39,false,1),(41,false,1),(42,false,1),(44,false,1),(45,false,1),(46,true,5),(47,true,5),(49,false,1),(50,false,1),(51,false,1),(52,true,2),(53,true,2),(54,false,1),(55,true,3),(56,true,3),(57,true,7),(58,true,7),(59,false,1),(61,false,1),(63,false,1),(64,false,1),(65,false,1),(66,false,1),(67,false,1),(68,false,1),(69,false,1),(70,false,1),(71,false,1),(72,true,2),(73,true,2),(74,true,3),(75,true,3),(76,false,1),(77,true,2),(78,true,2),(79,true,4),(80,true,4),(81,false,1),(82,false,1),(83,false,1),(85,false,1),(86,false,1),(87,false,1),(88,false,1),(89,false,1),(90,false,1),(91,false,1),(92,true,15),(93,true,15),(95,false,1),(96,false,1),(97,false,1),(98,false,1),(99,false,1),(100,false,1),(101,false,1),(102,false,1),(103,false,1),(104,false,1),(105,false,1),(106,false,1),(107,false,1),(108,false,1),(110,false,1),(111,false,1),(112,false,1),(113,false,1),(114,false,1),(115,false,1),(116,false,1),(117,true,9),(118,true,9),(119,true,3),(120,true,3),(121,true,4),(122,true,4),(123,false,1),(124,false,1),(125,false,1),(126,false,1),(127,false,1),(128,false,1),(129,false,1),(130,false,1),(131,true,2),(132,true,2),(133,true,8),(134,false,1),(136,true,4),(137,true,4),(138,false,1),(139,false,1),(140,false,1),(141,false,1),(142,false,1),(143,false,1),(144,false,1),(145,false,1),(146,false,1),(147,false,1),(148,false,1),(149,true,14),(150,true,14),(151,false,1),(152,false,1),(153,false,1),(154,false,1),(155,false,1),(156,false,1),(157,true,2),(158,true,2),(159,false,1),(160,false,1),(161,false,1),(162,false,1),(163,false,1),(165,false,1),(166,false,1),(167,false,1),(168,false,1),(169,false,1),(170,false,1),(171,false,1),(172,false,1),(173,false,1),(174,false,1),(175,true,1),(176,true,4),(177,false,1),(178,false,1),(179,false,1),(180,false,1),(181,false,1),(183,false,1),(184,false,1),(186,false,1),(187,false,1),(189,false,1),(190,false,1),(191,false,1),(192,false,1),(193,false,1),(194,false,1),(195,true,1),(196,true,1),(198,false,1),(199,false,1),(201,false,1),(202,false,1),(203,false,1),(204,false,1),(206,false,1),(207,false,1),(208,false,1),(209,false,1),(210,false,1),(211,true,13),(212,true,13),(213,false,1),(214,false,1),(215,false,1),(216,false,1),(217,false,1),(218,false,1),(219,false,1),(220,false,1),(221,false,1),(222,false,1),(223,false,1),(224,false,1),(226,false,1),(227,false,1),(228,false,1),(229,false,1),(230,true,2),(231,true,2),(232,true,6),(233,false,1),(234,false,1),(235,false,1),(236,false,1),(237,false,1),(238,false,1),(240,false,1),(241,false,1),(242,false,1),(243,false,1),(244,false,1),(245,false,1),(246,false,1),(247,false,1),(248,false,1),(249,false,1),(250,false,1),(251,true,3),(252,true,3),(253,false,1),(254,true,3),(255,true,3),(256,false,1),(257,false,1),(259,false,1),(260,false,1),(261,false,1),(262,false,1),(263,false,1),(264,false,1),(265,false,1),(266,false,1),(267,false,1),(268,false,1),(269,false,1),(270,false,1),(271,false,1),(272,false,1),(273,false,1),(274,false,1),(275,false,1),(276,false,1),(277,false,1),(280,true,0),(281,true,0),(282,true,0),(283,false,1),(284,false,1),(285,false,1),(286,false,1),(287,false,1),(288,false,1),(289,false,1),(290,true,11),(291,true,11),(292,false,1),(294,false,1)],[(7,[some 0,some 1,some 2,some 3]),(8,[some 0,some 1,some 2,some 3]),(18,[some 0]),(19,[some 0]),(23,[some 0]),(24,[some 0]),(27,[some 0,some 1,some 2,some 3,some 4,some 5,some 6]),(28,[some 0,some 1,some 2,some 3,some 4,some 5,some 6]),(31,[some 0,some 7,some 8,some 9,some 10]),(32,[some 0,some 7,some 8,some 9,some 10]),(35,[some 0,some 11,some 12,some 13,some 14]),(36,[some 0,some 11,some 12,some 13,some 14]),(46,[some 0,some 1,some 2,some 3,some 4]),(47,[some 0,some 1,some 2,some 3,some 4]),(52,[some 0,some 1]),(53,[some 0,some 1]),(55,[some 0,some 1,some 2]),(56,[some 0,some 1,some 2]),(57,[some 0,some 1,some 2,some 4]),(58,[some 0,some 1,some 2,some 4]),(72,[some 0,some 1]),(73,[some 0,some 1]),(74,[some 0,some 1]),(75,[some 0,some 1]),(77,[some 0,some 1]),(78,[some 0,some 1]),(79,[some 0,some 1,some 2,some 3]),(80,[some 0,some 1,some 2,some 3]),(92,[some 0]),(93,[some 0]),(117,[some 0,some 1,some 3,some 5,some 7,some 8]),(118,[some 0,some 1,some 3,some 5,some 7,some 8]),(119,[some 0,some 1]),(120,[some 0,some 1]),(121,[some 0,some 3]),(122,[some 0,some 3]),(131,[some 0,some 1]),(132,[some 0,some 1]),(136,[some 0,some 2,some 3]),(137,[some 0,some 2,some 3]),(149,[some 0,some 7,some 10,some 11,some 12,some 13]),(150,[some 0,some 7,some 10,some 11,some 12,some 13]),(157,[some 0,some 1]),(158,[some 0,some 1]),(175,[some 0]),(195,[some 0]),(196,[some 0]),(211,[some 0,some 11,some 12]),(212,[some 0,some 11,some 12]),(230,[some 0,some 1]),(231,[some 0,some 1]),(251,[some 0,some 1,some 2]),(252,[some 0,some 1,some 2]),(254,[some 0,some 1,some 2]),(255,[some 0,some 1,some 2]),(290,[some 0,some 1,some 2,some 3,some 4,some 5,some 6,some 7,some 8,some 9,some 10]),(291,[some 0,some 1,some 2,some 3,some 4,some 5,some 6,some 7,some 8,some 9,some 10])],[22,25,26,29,30,33,34,42,51,54,67,71,145,147,148,163,204,216,229,238,250]⟩
theorem qp:lR Tryz.prog TT:=QG kr
theorem cj {t:TypeId} {x:Bool×Nat} (h:TT.Jf t=some x:=by rfl):tK Tryz.prog t=some x:=qp.Jf h
theorem fj {s f k:Nat} (h:TT.foF s f=some k:=by rfl):sB Tryz.prog s f=some k:=qp.foF h
end
section
open Go.RowKit
/-- blocks that are read -/
def MM (C:List ax) (M:List (Nat×List Value)):Prop:= ∀ p∈M,∀ o vs,(p.2.drop o).take vs.length=vs→At C (some ⟨p.1,o,none⟩) vs
theorem mn {C:List ax}:MM C []:=fun p h=>by cases h
theorem mc {C:List ax} {b t:Nat} {cs:List Value} {M:List (Nat×List Value)} (i:Nat) (hC:C[i]? =some (cu b t cs)) (h:MM C M):MM C ((b,cs)::M):=fun p hp o vs hv=>by
 rcases bT.1 hp with rfl|hp
 ·exact qc i hC hv
 ·exact h p hp o vs hv
theorem mr {C:List ax} {b t:Nat} {cs:List Value} {M:List (Nat×List Value)} (i:Nat) (hC:C[i]? =some (cu b t cs).ro) (h:MM C M):MM C ((b,cs)::M):=fun p hp o vs hv=>by
 rcases bT.1 hp with rfl|hp
 ·exact wE i hC hv
 ·exact h p hp o vs hv
def p6:List Prop→Prop
 |[]=>True
 |p::l=>p∧p6 l
theorem kx {p:Prop} {l:List Prop} (h:p) (h2:p6 l):p6 (p::l):=⟨h,h2⟩
/-- the value of an operation, what it asks for, and what is left of the list of places -/
def pv (T:CY) (ops:Array Oper) (M:List (Nat×List Value)) (L:dw) (hs:List Nat) (g:Option (Nat×Bool)) (op:Op):Option (Value×List Prop×List Nat):=
 match CR ops L g with
 |true=>some (undef,[],hs)
 |false=>match j0 ops L g with
  |false=>none
  |true=>match op with
   | .move x=>match ev L x with
    |some v=>some (v,[],hs)
    |none=>none
   | .assign x=>match ev L x with
    |some v=>some (v,[],hs)
    |none=>none
   | .pick c x y=>match ev L c with
    |some (.bool true)=>match ev L x with
     |some v=>some (v,[],hs)
     |none=>none
    |some (.bool false)=>match ev L y with
     |some v=>some (v,[],hs)
     |none=>none
    |_=>none
   | .unOp .not _ x=>match ev L x with
    |some (.bool b)=>some (.bool !b,[],hs)
    |_=>none
   | .extract x i=>match ev L x with
    |some (.tuple vs)=>match vs.toList[i]? with
     |some v=>some (v,[],hs)
     |none=>none
    |_=>none
   | .fieldAddr s x f=>match ev L x with
    |some (.pointer (some ⟨b,o,none⟩))=>match T.foF s f with
     |some k=>some (.pointer (some ⟨b,o+k,none⟩),[],hs)
     |none=>none
    |_=>none
   | .binOp op _ x y _=>match ev L x with
    |some (.int .i64 a)=>match ev L y with
     |some (.int .i64 b)=>match op with
      | .lss=>some (.bool (decide (a<b)),[],hs)
      | .leq=>some (.bool (decide (a≤b)),[],hs)
      | .gtr=>some (.bool (decide (b<a)),[],hs)
      | .geq=>some (.bool (decide (b≤a)),[],hs)
      | .eql=>some (.bool (decide (a=b)),[],hs)
      | .neq=>some (.bool (!decide (a=b)),[],hs)
      | .add=>some (.int .i64 (a+b),[-9223372036854775808≤a+b,a+b≤9223372036854775807],hs)
      | .sub=>some (.int .i64 (a-b),[-9223372036854775808≤a-b,a-b≤9223372036854775807],hs)
      |_=>none
     |_=>none
    |_=>none
   | .load t x=>match ev L x with
    |some (.pointer (some ⟨b,o,none⟩))=>match M[hs.headD 0]? with
     |some (b',cs)=>match T.Jf t with
      |some (false,_)=>match cs[o]? with
       |some v=>some (v,[b'=b],hs.tail)
       |none=>none
      |some (true,n)=>match Nat.beq o 0 with
       |true=>match Nat.beq cs.length n with
        |true=>some (.agg cs.toArray,[b'=b],hs.tail)
        |false=>none
       |false=>none
      |none=>none
     |none=>none
    |_=>none
   | .call c=>match c with
    |{callee:= .builtin .len,args:=xs,argTypes:=ts}=>match xs.toList with
     |[x]=>match ts.toList with
      |[t]=>match ev L x with
       |some (.slice A n c)=>match Lv T.sl t with
        |true=>some (.int .i64 n,[],hs)
        |false=>none
       |_=>none
      |_=>none
     |_=>none
    |_=>none
   |_=>none
section
variable {E:fg} {T:CY} {ops:Array Oper} {M:List (Nat×List Value)} {D:List Deferred} {L:List (Nat×Value)} {C:List ax} {hs hs':List Nat}
theorem vG {cs:List Value} {o:Nat} {v:Value} (h:cs[o]? =some v):(cs.drop o).take [v].length=[v]:=by
 obtain ⟨hl,rfl⟩:=aW.1 h
 rw [List.drop_eq_getElem_cons hl]; rfl
theorem RQ {o:Oper} {v:Value} {S:List Prop} (hT:lR E.P T) (hM:MM C M) (h:pv T ops M L hs o.guard o.op=some (v,S,hs')) (hS:p6 S):SD E ops o D L C v:=by
 obtain ⟨dst,op,ty,ps,af,g⟩:=o
 unfold pv at h
 simp only at h
 split at h
 ·rename_i hg
  cases h
  exact HY hg
 ·split at h
  ·cases h
  ·rename_i hg
   split at h
   ·split at h
    ·rename_i hx; cases h; exact Fa hg hx
    ·cases h
   ·split at h
    ·rename_i hx; cases h; exact zo hg hx
    ·cases h
   ·split at h
    ·rename_i hc
     split at h
     ·rename_i hx; cases h; exact yX hg hc hx
     ·cases h
    ·rename_i hc
     split at h
     ·rename_i hx; cases h; exact yY hg hc hx
     ·cases h
    ·cases h
   ·split at h
    ·rename_i hx; cases h; exact I0 hg hx
    ·cases h
   ·split at h
    ·rename_i vs hx
     split at h
     ·rename_i v' hv; cases h; exact xG (vs:=vs.toList) hg (by simpa using hx) hv
     ·cases h
    ·cases h
   ·split at h
    ·rename_i hx
     split at h
     ·rename_i hk; cases h; exact N3 hg hx (hT.foF hk) rfl
     ·cases h
    ·cases h
   ·split at h
    ·rename_i hx
     split at h
     ·rename_i hy
      split at h
      ·cases h; exact gl hg hx hy pg
      ·cases h; exact gl hg hx hy Rw
      ·cases h; exact gl hg hx hy Rm
      ·cases h; exact gl hg hx hy E1
      ·cases h; exact gl hg hx hy lE
      ·cases h; exact gl hg hx hy qh
      ·cases h; exact gl hg hx hy (nO ⟨hS.1,hS.2.1⟩)
      ·cases h; exact gl hg hx hy (vK ⟨hS.1,hS.2.1⟩)
      ·cases h
     ·cases h
    ·cases h
   ·split at h
    ·rename_i hx
     split at h
     ·rename_i b' cs hm
      have A:=aR hm
      split at h
      ·rename_i hk
       split at h
       ·rename_i hv
        cases h
        obtain rfl:=hS.1
        exact vm hg hx (hT.Jf hk) (hM _ A _ _ (vG hv))
       ·cases h
      ·rename_i n hk
       split at h
       ·rename_i ho
        split at h
        ·rename_i hn
         cases h
         obtain rfl:=hS.1
         have H:=Nat.eq_of_beq_eq_true ho
         subst H
         exact x5 hg hx (hT.Jf hk) (hM _ A 0 cs sm) (Nat.eq_of_beq_eq_true hn)
        ·cases h
       ·cases h
      ·cases h
     ·cases h
    ·cases h
   ·split at h
    ·rename_i xs ts
     split at h
     ·rename_i x G
      split at h
      ·rename_i t F
       split at h
       ·rename_i hx
        split at h
        ·rename_i B
         cases h
         obtain ⟨e,he⟩:=hT.sl t (CE B)
         have AA:xs= #[x]:=by apply Array.ext'; simpa using G
         have J:ts= #[t]:=by apply Array.ext'; simpa using F
         subst AA J
         exact JR hg hx he
        ·cases h
       ·cases h
      ·cases h
     ·cases h
    ·cases h
   ·cases h
def pr (T:CY) (n:Nat) (ops:Array Oper) (M:List (Nat×List Value)):Nat→List Nat→dw→List Oper→Option (dw×List Oper×List Prop)
 |0,_,L,rest=>some (L,rest,[])
 |k+1,hs,L,[]=>none
 |k+1,hs,L,o::rest=>match o.dst with
  |none=>none
  |some d=>match Nat.blt d n with
   |false=>none
   |true=>match pv T ops M L hs o.guard o.op with
    |none=>none
    |some (v,S,hs')=>match pr T n ops M k hs' ((d,v)::L) rest with
     |none=>none
     |some (L',rest',S')=>some (L',rest',S++S')
theorem xe: ∀ {S S':List Prop},p6 (S++S')→p6 S∧p6 S'
 |[],S',h=>⟨trivial,h⟩
 |p::S,S',h=>⟨⟨h.1,(xe h.2).1⟩,(xe h.2).2⟩
/-- whatever is closed under single steps -/
theorem Ix {J:List Oper→dw→Prop} (hT:lR E.P T) (hM:MM C M) (hJ: ∀ o rest L d v,SD E ops o D L C v→o.dst=some d→Nat.blt d E.n=true→J rest ((d,v)::L)→J (o::rest) L):
 ∀ (k:Nat) (hs:List Nat) (L:dw) (rest:List Oper) {L':dw} {rest':List Oper} {S:List Prop},pr T E.n ops M k hs L rest=some (L',rest',S)→p6 S→J rest' L'→J rest L
 |0,hs,L,rest,L',rest',S,h,hS,hj=>by
  unfold pr at h
  cases h
  exact hj
 |k+1,hs,L,[],L',rest',S,h,hS,hj=>by unfold pr at h; cases h
 |k+1,hs,L,o::rest,L',rest',S,h,hS,hj=>by
  unfold pr at h
  split at h
  ·cases h
  ·rename_i d hd
   split at h
   ·cases h
   ·rename_i hn
    split at h
    ·cases h
    ·rename_i v S1 A hv
     split at h
     ·cases h
     ·rename_i L1 G S2 hr
      cases h
      obtain ⟨B,F⟩:=xe hS
      exact hJ o rest L d v (RQ hT hM hv B) hd hn (Ix hT hM hJ k A _ rest hr F hj)
variable {Q:dg} {rest rest':List Oper} {L0 L':List (Nat×Value)} {S:List Prop} {F:List (Nat×Value)→Prop}
/-- a run of operations, one after the other -/
theorem rP (k:Nat) (hs:List Nat) (hM:MM C M) (j:RJ E ops Q rest' D L' C) (hT:lR E.P T:=by exact qp) (h:pr T E.n ops M k hs L rest=some (L0,rest',S):=by rfl) (hL:L0=L':=by (try dsimp only)<;>rfl) (hS:p6 S:=by repeat' first|exact True.intro |refine kx ?_ ?_ |exact rfl|omega|(dsimp only; omega)):RJ E ops Q rest D L C:=by
 subst hL
 exact Ix (J:=fun r L=>RJ E ops Q r D L C) hT hM (fun o rest L d v A B F G=>Tl A B F G) k hs L rest h hS j
theorem dP (k:Nat) (hs:List Nat) (hM:MM C M) (j:DJ E ops D C F rest' L') (hT:lR E.P T:=by exact qp) (h:pr T E.n ops M k hs L rest=some (L0,rest',S):=by rfl) (hL:L0=L':=by (try dsimp only)<;>rfl) (hS:p6 S:=by repeat' first|exact True.intro |refine kx ?_ ?_ |exact rfl|omega|(dsimp only; omega)):DJ E ops D C F rest L:=by
 subst hL
 exact Ix (J:=fun r L=>DJ E ops D C F r L) hT hM (fun o rest L d v A B G H=>TF A B G H) k hs L rest h hS j
end
section
variable {P:Program} {r:Option Nat} {n:Nat} {B:BS} {w0:World} {ops:Array Oper} {M:List (Nat×List Value)} {D:List Deferred} {L L':List (Nat×Value)} {C:List ax} {Q:dg} {rest rest':List Oper} {S:List Prop} {F:List (Nat×Value)→Prop}
theorem eQ (k:Nat) (hs:List Nat) (hM:MM C M) (h:pr TT n ops M k hs L rest=some (L',rest',S)) (j:RJ ⟨P,r,n,B,w0⟩ ops Q rest' D L' C) (hS:p6 S:=by repeat' first|exact True.intro |refine kx ?_ ?_ |exact rfl|omega|(dsimp only; omega)) (hT:lR P TT:=by exact qp):RJ ⟨P,r,n,B,w0⟩ ops Q rest D L C:=rP k hs hM j hT h rfl hS
theorem lU (k:Nat) (hs:List Nat) (hM:MM C M) (h:pr TT n ops M k hs L rest=some (L',rest',S)) (j:DJ ⟨P,r,n,B,w0⟩ ops D C F rest' L') (hS:p6 S:=by repeat' first|exact True.intro |refine kx ?_ ?_ |exact rfl|omega|(dsimp only; omega)) (hT:lR P TT:=by exact qp):DJ ⟨P,r,n,B,w0⟩ ops D C F rest L:=dP k hs hM j hT h rfl hS
theorem bD (k:Nat) (h:pr TT n ops [] k [] L rest=some (L',rest',S)) (j:RJ ⟨P,r,n,B,w0⟩ ops Q rest' D L' C) (hS:p6 S:=by repeat' first|exact True.intro |refine kx ?_ ?_ |exact rfl|omega|(dsimp only; omega)) (hT:lR P TT:=by exact qp):RJ ⟨P,r,n,B,w0⟩ ops Q rest D L C:=rP k [] mn j hT h rfl hS
theorem kX (k:Nat) (h:pr TT n ops [] k [] L rest=some (L',rest',S)) (j:DJ ⟨P,r,n,B,w0⟩ ops D C F rest' L') (hS:p6 S:=by repeat' first|exact True.intro |refine kx ?_ ?_ |exact rfl|omega|(dsimp only; omega)) (hT:lR P TT:=by exact qp):DJ ⟨P,r,n,B,w0⟩ ops D C F rest L:=dP k [] mn j hT h rfl hS
end
end
section
open Go.RowKit
/-- parts of a context, reckoned to the end -/
def oo (C:List ax):List Nat→Option (List ax)
 |[]=>some []
 |i::is=>match C[i]? with
  |some A=>match oo C is with
   |some l=>some (A::l)
   |none=>none
  |none=>none
theorem nj {C:List ax}: ∀ {is:List Nat} {C':List ax},oo C is=some C'→ko C is=C'
 |[],C',h=>by cases h; rfl
 |i::is,C',h=>by
  unfold oo at h
  split at h
  ·rename_i A hA
   split at h
   ·rename_i l hl
    cases h
    show List.filterMap (C[·]?) (i::is)=A::l
    rw [List.filterMap_cons_some hA]
    exact congrArg _ (nj hl)
   ·cases h
  ·cases h
/-- a part of a context in place of the whole -/
theorem aQ {S:BS} {w0:World} {C C':List ax} (is:List Nat) (hn:decide is.Nodup=true:=by rfl) (hC:ko C is=C':=by rfl): ∀ w,St S w0 C w→St S w0 C' w:=fun w h=>St.ko is hn hC h
theorem Q0 {S:BS} {w0:World} {C C':List ax} (is:List Nat) (hC:oo C is=some C') (hn:decide is.Nodup=true:=by rfl): ∀ w,St S w0 C w→St S w0 C' w:=fun w h=>St.ko is hn (nj hC) h
def N0 (C:List ax) (i:Nat) (B:ax):Option (List ax):=match i,C with
 |0,_::C=>some (B::C)
 |i+1,A::C=>match N0 C i B with
  |some l=>some (A::l)
  |none=>none
 |_,[]=>none
theorem FC: ∀ {C:List ax} {i:Nat} {B:ax} {C':List ax},N0 C i B=some C'→C.set i B=C'
 |[],0,B,C',h=>by cases h
 |[],i+1,B,C',h=>by cases h
 |A::C,0,B,C',h=>by cases h; rfl
 |A::C,i+1,B,C',h=>by
  unfold N0 at h
  split at h
  ·rename_i l hl
   cases h
   exact congrArg _ (FC hl)
  ·cases h
theorem qX {E:fg} {K:Act→World→Prop} {D:g9} {L:dw} {C C':List ax} {A B:ax} (i:Nat) (hC:C[i]? =some A) (hh:(∀ w,A.holds w→B.holds w)∧(∀ b,B.fr b→A.fr b)∧ ∀ b,B.wf b→A.wf b) (hC':N0 C i B=some C') (h:KJ E K D L C'):KJ E K D L C:=IH i hC hh (FC hC') h
/-- the operations of a region but these; marks of some places -/
def U6 (n:Nat) (T:List Nat):List Nat:=(List.range n).filter fun i=> !T.contains i
def Wb (k:Nat) (t:List Nat):List Bool:=(List.range k).map fun i=>t.contains i
theorem dA {E:fg} {id:Nat} {ops:Array Oper} {Q:dg} {D:g9} {L:dw} {C:List ax} (hm:E.P.follows .mixedOrders=true) (T fe tb i1 i2:List Nat) {C' C1:List ax} {free:List Nat} {feb tbb:List Bool}
 (h1:oo C i1=some C') (h2:oo C i2=some C1) (hf:free=U6 ops.size T) (hfe:feb=Wb free.length fe) (htb:tbb=Wb T.length tb)
 (h:qw E ops D C' C1 (fun L'=>TJ E ops D C' C1 (fun L C=>KJ E (Q .normal) D L C) tbb (eV ops T) L' C) feb (eV ops free) L)
 (hc:NV ops free T feb tbb=true:=by kernel_rfl) (n1:decide i1.Nodup=true:=by rfl) (n2:decide i2.Nodup=true:=by rfl):WJ E (.region id ops true) Q D L C:=
 NM hm free T feb tbb C' C1 hc (Q0 i1 h1 n1) (Q0 i2 h2 n2) h
end
section
open Go.RowKit
def wB (T:CY) (M:List (Nat×List Value)) (L:dw):List ResultVar→List Nat→Option (List Value×List Prop)
 |[],_=>some ([],[])
 | .tmp t::rs,hs=>match L.lookup t with
  |some v=>match wB T M L rs hs with
   |some (vs,S)=>some (v::vs,S)
   |none=>none
  |none=>none
 | .cell a t::rs,hs=>match L.lookup a with
  |some (.pointer (some ⟨b,o,none⟩))=>match M[hs.headD 0]? with
   |some (b',cs)=>match T.Jf t with
    |some (false,_)=>match cs[o]? with
     |some v=>match wB T M L rs hs.tail with
      |some (vs,S)=>some (v::vs,(b'=b)::S)
      |none=>none
     |none=>none
    |some (true,n)=>match Nat.beq o 0 with
     |true=>match Nat.beq cs.length n with
      |true=>match wB T M L rs hs.tail with
       |some (vs,S)=>some (.agg cs.toArray::vs,(b'=b)::S)
       |none=>none
      |false=>none
     |false=>match wB T M L rs hs.tail with
      |some (vs,S)=>some (.agg ((cs.drop o).take n).toArray::vs,(b'=b)::(((cs.drop o).take n).length=n)::S)
      |none=>none
    |none=>none
   |none=>none
  |_=>none
theorem oG {P:Program} {T:CY} {M:List (Nat×List Value)} {L:dw} {C:List ax} (hT:lR P T) (hM:MM C M): ∀ (rs:List ResultVar) (hs:List Nat) {vs:List Value} {S:List Prop},wB T M L rs hs=some (vs,S)→p6 S→G_ P L C rs vs
 |[],_,vs,S,h,hS=>by unfold wB at h; cases h; exact trivial
 | .tmp t::rs,hs,vs,S,h,hS=>by
  unfold wB at h
  split at h
  ·rename_i v hv
   split at h
   ·rename_i vs' S' hr
    cases h
    exact ⟨hv,oG hT hM rs hs hr hS⟩
   ·cases h
  ·cases h
 | .cell a t::rs,hs,vs,S,h,hS=>by
  unfold wB at h
  split at h
  ·rename_i b o hl
   split at h
   ·rename_i b' cs hm
    have A:=aR hm
    split at h
    ·rename_i hk
     split at h
     ·rename_i v hv
      split at h
      ·rename_i vs' S' hr
       cases h
       obtain ⟨rfl,hS⟩:=hS
       exact ⟨⟨_,hl,.inr ⟨_,hT.Jf hk,hM _ A _ _ (vG hv)⟩⟩,oG hT hM rs _ hr hS⟩
      ·cases h
     ·cases h
    ·rename_i n hk
     split at h
     ·rename_i ho
      split at h
      ·rename_i hn
       split at h
       ·rename_i vs' S' hr
        cases h
        obtain ⟨rfl,hS⟩:=hS
        have D:=Nat.eq_of_beq_eq_true ho
        subst D
        exact ⟨⟨_,hl,.inl ⟨_,cs,hT.Jf hk,hM _ A 0 cs sm,Nat.eq_of_beq_eq_true hn,U⟩⟩,oG hT hM rs _ hr hS⟩
       ·cases h
      ·cases h
     ·split at h
      ·rename_i vs' S' hr
       cases h
       obtain ⟨rfl,B,hS⟩:=hS
       exact ⟨⟨_,hl,.inl ⟨_,_,hT.Jf hk,hM _ A o _ (by rw [B]),B,U⟩⟩,oG hT hM rs _ hr hS⟩
      ·cases h
    ·cases h
   ·cases h
  ·cases h
section
variable {P:Program} {n:Nat} {fn:Func} {w0:World} {K:Act→World→Prop} {L:List (Nat×Value)} {C:List ax} {M:List (Nat×List Value)} {vs:List Value} {S:List Prop} {u x v:Value}
theorem CV (hQ: ∀ D L C,LJ ⟨P,none,n,tD,w0⟩ fn (Aq w0 v) D L C→KJ ⟨P,none,n,tD,w0⟩ K D L C) (hs:List Nat) (hM:MM C M) (h:wB TT M L fn.results.toList hs=some ([u],S)) (e:u=v) (hS:p6 S:=by repeat' first|exact True.intro |refine kx rfl ?_) (hT:lR P TT:=by exact qp):KJ ⟨P,none,n,tD,w0⟩ K [] L C:=
 hQ _ _ _ (jV (oG hT hM _ _ h hS) fun w hs=>By e hs)
theorem mV (hQ: ∀ D L C,LJ ⟨P,none,n,tD,w0⟩ fn (Aq w0 v) D L C→KJ ⟨P,none,n,tD,w0⟩ K D L C) (hs:List Nat) (hM:MM C M) (h:wB TT M L fn.results.toList hs=some (u::x::vs,S)) (e:Value.tuple (u::x::vs).toArray=v) (hS:p6 S:=by repeat' first|exact True.intro |refine kx rfl ?_) (hT:lR P TT:=by exact qp):KJ ⟨P,none,n,tD,w0⟩ K [] L C:=
 hQ _ _ _ (jV (oG hT hM _ _ h hS) fun w hs=>By e hs)
theorem LX {α:Type} {V:α→Value} {p:α→Prop} {N:α→List ax} (hQ: ∀ D L C,LJ ⟨P,none,n,tD,w0⟩ fn (KD w0 V p N) D L C→KJ ⟨P,none,n,tD,w0⟩ K D L C) (x:α) (is hs:List Nat) (hM:MM C M) (h:wB TT M L fn.results.toList hs=some (vs,S)) (hw:(N x).all (·.wr)=true) (hN:ko C is=N x) (hV:QP vs=V x) (hp:p x) (hn:decide is.Nodup=true:=by rfl) (hS:p6 S:=by repeat' first|exact True.intro |refine kx rfl ?_) (hT:lR P TT:=by exact qp):KJ ⟨P,none,n,tD,w0⟩ K [] L C:=
 hQ _ _ _ (jV (oG hT hM _ _ h hS) fun w hs=>QC x is hV hp hn hN hw hs)
theorem LM {A:ax} {α:Type} {V:α→Value} {p:α→Prop} {A':α→ax} (hQ: ∀ D L C,LJ ⟨P,none,n,⟨A.wf,fun _=>True⟩,w0⟩ fn (NF w0 A V p A') D L C→KJ ⟨P,none,n,⟨A.wf,fun _=>True⟩,w0⟩ K D L C) (x:α) (i:Nat) (hs:List Nat) (hM:MM C M) (h:wB TT M L fn.results.toList hs=some (vs,S)) (hw:(A' x).wr=true) (hC:C[i]? =some (A' x)) (hV:QP vs=V x) (hp:p x) (hS:p6 S:=by repeat' exact True.intro) (hT:lR P TT:=by exact qp):KJ ⟨P,none,n,⟨A.wf,fun _=>True⟩,w0⟩ K [] L C:=
 hQ _ _ _ (jV (oG hT hM _ _ h hS) fun w hs=>Q6 x i hV hp hC hw hs)
end
end
section
open Go.RowKit
def EB {α:Type _}:List α→List α→Option (List α)
 |[],m=>some m
 |a::l,m=>match EB l m with
  |some r=>some (a::r)
  |none=>none
theorem Ft {α:Type _}: ∀ {l m r:List α},EB l m=some r→l++m=r
 |[],m,r,h=>by cases h; rfl
 |a::l,m,r,h=>by
  unfold EB at h
  split at h
  ·rename_i r' hr
   cases h
   exact congrArg (a:: ·) (Ft hr)
  ·cases h
def TR (L:dw):List Nat→Option (dw)
 |[]=>some []
 |t::ts=>match L.lookup t with
  |some v=>match TR L ts with
   |some r=>some ((t,v)::r)
   |none=>none
  |none=>none
theorem EI {L M:dw} (k:dh L M): ∀ {ts:List Nat} {r:dw},TR L ts=some r→dh L (r++M)
 |[],r,h=>by cases h; exact k
 |t::ts,r,h=>by
  unfold TR at h
  split at h
  ·rename_i v hv
   split at h
   ·rename_i r' hr
    cases h
    exact dh.cons hv (EI k hr)
   ·cases h
  ·cases h
section
variable {E:fg} {Q:dg} {D:List Deferred} {L L0:List (Nat×Value)} {C C0:List ax} {ι:Type} {Li:ι→List (Nat×Value)} {Ci:ι→List ax}
theorem bY {c:Code} (kL kC:List Nat) (hL:TR L kL=some L0) (hC0:oo C kC=some C0) (S:ι→dw) (G:ι→List ax) (hLi: ∀ x,EB L0 (S x)=some (Li x)) (hCi: ∀ x,EB C0 (G x)=some (Ci x)) (μ:ι→Nat) (x0:ι)
 (h0:dh L (S x0)) (hC: ∀ w,St E.S E.w0 C w→St E.S E.w0 (Ci x0) w)
 (round: ∀ x (J:Act→World→Prop),(∀ y D' L' C',D'=D→μ y<μ x→dh L' (Li y)→(∀ w,St E.S E.w0 C' w→St E.S E.w0 (Ci y) w)→KJ E J D' L' C')→WJ E c (Exit.then J Q) D (Li x) (Ci x)):WJ E (.loop c) Q D L C:=
 PS Li Ci μ x0 (Ft (hLi x0)▸EI h0 hL) hC round
theorem mD {x y:Code} (kL kC:List Nat) (hL:TR L kL=some L0) (hC0:oo C kC=some C0) (S:ι→dw) (G:ι→List ax) (hLi: ∀ x,EB L0 (S x)=some (Li x)) (hCi: ∀ x,EB C0 (G x)=some (Ci x))
 (hy: ∀ z,WJ E y Q D (Li z) (Ci z)) (h: ∀ K:Act→World→Prop,(∀ z,KJ E K D (Li z) (Ci z))→WJ E x (Exit.then K Q) D L C):WJ E (.seq x y) Q D L C:=Qv Li Ci hy h
end
end
section
open Go.RowKit
set_option linter.unusedSectionVars false
/-- what is asked of keys -/
structure vg (P:Program) (kt:Nat) {K:Type} (kV:K→Value):Prop where
 check: ∀ (e:Bool) (x:K) (w:World),(Instr.checkKey e 10000 kt (kV x)).run P w= .ok () w
 find: ∀ (x:K) (w:World) (es:List MapEntry),(∀ e∈es,∃ k,e.key=kV k)→
  ((Instr.findKey kt (kV x) es).run P w= .ok none w∧ ∀ e∈es,e.key≠kV x)∨ ∃ j e,(Instr.findKey kt (kV x) es).run P w= .ok (some (j,e.val)) w∧es[j]? =some e∧e.key=kV x
 bits: ∀ x,Instr.sameBits 10000 (kV x) (kV x)=true
 inj: ∀ x y,kV x=kV y→x=y
section
variable {K:Type} [DecidableEq K] {kV:K→Value}
def ed {β:Type} (l:List (K×β)) (x:K) (y:β):List (K×β):=if (l.lookup x).isSome then l.map (fun p=>if p.1=x then (x,y) else p) else l++[(x,y)]
def e9 {β:Type} (l:List (K×β)) (x:K):List (K×β):=l.filter fun p=> !decide (p.1=x)
def cS {β γ:Type} (f:β→γ) (l:List (K×β)):List (K×γ):=l.map fun p=>(p.1,f p.2)
theorem nc {β γ:Type} (f:β→γ) (x:K): ∀ l:List (K×β),(cS f l).lookup x=(l.lookup x).map f
 |[]=>rfl
 |p::l=>by
  obtain ⟨k,v⟩:=p
  have ih:=nc f x l
  by_cases h:x=k
  ·subst h; simp [cS,List.lookup]
  ·have:(x==k)=false:=by simpa using h
   simp only [cS,List.map_cons,List.lookup,this] at ih ⊢
   exact ih
theorem gp {β γ:Type} (f:β→γ) (l:List (K×β)) (x:K) (y:β):cS f (ed l x y)=ed (cS f l) x (f y):=by
 unfold ed
 rw [nc,Option.isSome_map]
 split
 ·simp only [cS,List.map_map]
  refine List.map_congr_left fun p _=>?_
  simp only [Function.comp]
  split<;>rfl
 ·simp [cS]
theorem nK {β γ:Type} (f:β→γ) (l:List (K×β)) (x:K):cS f (e9 l x)=e9 (cS f l) x:=by
 unfold e9 cS
 rw [List.filter_map]
 rfl
theorem iu {β:Type} {x:K}: ∀ {l:List (K×β)},l.lookup x=none↔ ∀ p∈l,p.1≠x
 |[]=>by simp
 |p::l=>by
  obtain ⟨k,v⟩:=p
  by_cases h:x=k
  ·subst h; simp [List.lookup]
  ·have hb:(x==k)=false:=by simpa using h
   simp only [List.lookup,hb,bT,forall_eq_or_imp]
   rw [iu (l:=l)]
   exact ⟨fun q=>⟨fun e=>h e.symm,q⟩,fun q=>q.2⟩
theorem lv {β:Type} {x:K} {y:β}: ∀ {l:List (K×β)},(l.map (·.1)).Nodup→((x,y)∈l↔l.lookup x=some y)
 |[],_=>by simp
 |p::l,hn=>by
  obtain ⟨k,v⟩:=p
  simp only [List.map_cons,List.nodup_cons] at hn
  by_cases h:x=k
  ·subst h
   simp only [List.lookup,beq_self_eq_true,bT,Prod.mk.injEq,true_and,Option.some.injEq]
   constructor
   ·rintro (e|e)
    ·exact e.symm
    ·exact absurd (cE.2 ⟨_,e,U⟩) hn.1
   ·intro e; exact .inl e.symm
  ·have hb:(x==k)=false:=by simpa using h
   simp only [List.lookup,hb,bT,Prod.mk.injEq,h,false_and,false_or]
   exact lv hn.2
structure jv (kV:K→Value) (es:Array MapEntry) (c:Nat) (m:List (K×Value)):Prop where
 list:es.toList.map (fun (e:MapEntry)=>(e.key,e.val))=m.map (fun p=>(kV p.1,p.2))
 keys:(m.map (·.1)).Nodup
 IB: ∀ e∈es.toList,e.born<c
 born:(es.toList.map (·.born)).Nodup
def j1 (kV:K→Value) (b:Nat) (m:List (K×Value)):ax where
 fr k:=k=b
 wf k:=k=b
 holds w:= ∃ es c,w.heap[b]? =some (.map es c)∧jv kV es c m
 wr:=true
 kB _ h:=h
 whole _ _ h:=h
 lt w h k hk:=by obtain ⟨es,c,he,_⟩:=h; exact hk▸dQ he
 oW w w' hk h:=by obtain ⟨es,c,he,hm⟩:=h; exact ⟨es,c,(hk b rfl).trans he,hm⟩
theorem jv.nil:jv kV #[] 0 []:=⟨rfl,List.nodup_nil,sm,List.nodup_nil⟩
theorem jv.size {es:Array MapEntry} {c:Nat} {m:List (K×Value)} (h:jv kV es c m):es.size=m.length:=by
 have:=congrArg List.length h.list
 simpa using this
theorem C5 {P:Program} {kt:Nat} (hk:vg P kt kV) (x:K): ∀ (es:List MapEntry) (m:List (K×Value)),es.map (fun (e:MapEntry)=>(e.key,e.val))=m.map (fun p=>(kV p.1,p.2))→
 ((∀ e∈es,e.key≠kV x)→m.lookup x=none)∧ ∀ (j:Nat) (e:MapEntry),es[j]? =some e→e.key=kV x→m[j]? =some (x,e.val):=by
 intro es m h
 refine ⟨fun hn=>iu.2 fun p hp e=>?_,fun j e he hx=>?_⟩
 ·have:(kV p.1,p.2)∈es.map (fun (e:MapEntry)=>(e.key,e.val)):=by rw [h]; exact cE.2 ⟨p,hp,rfl⟩
  obtain ⟨z,hz,B⟩:=cE.1 this
  simp only [Prod.mk.injEq] at B
  exact hn z hz (by rw [B.1,e])
 ·have A:(es.map (fun (e:MapEntry)=>(e.key,e.val)))[j]? =some (e.key,e.val):=by rw [fM,he]; rfl
  rw [h,fM] at A
  cases hm:m[j]? with
  |none=>simp [hm] at A
  |some p=>
   simp only [hm,Option.map_some,Option.some.injEq,Prod.mk.injEq] at A
   have:=hk.inj _ _ (A.1.trans hx)
   obtain ⟨k,v⟩:=p
   simp only at this A
   rw [this,A.2]
theorem px {P:Program} {w:World} {kt:Nat} {x:K} {es:Array MapEntry} {c:Nat} {m:List (K×Value)} (hk:vg P kt kV) (h:jv kV es c m):
 ((Instr.findKey kt (kV x) es.toList).run P w= .ok none w∧m.lookup x=none)∨
 ∃ j v,(Instr.findKey kt (kV x) es.toList).run P w= .ok (some (j,v)) w∧m[j]? =some (x,v)∧m.lookup x=some v:=by
 obtain ⟨D,E⟩:=C5 hk x es.toList m h.list
 rcases hk.find x w es.toList (fun e he=>by
  have:(e.key,e.val)∈m.map (fun p=>(kV p.1,p.2)):=by rw [← h.list]; exact cE.2 ⟨e,he,rfl⟩
  obtain ⟨p,_,hp⟩:=cE.1 this
  simp only [Prod.mk.injEq] at hp
  exact ⟨p.1,hp.1.symm⟩) with ⟨A,B⟩|⟨j,e,A,B,C⟩
 ·exact .inl ⟨A,D B⟩
 ·have:=E j e B C
  exact .inr ⟨j,e.val,A,this,(lv h.keys).1 (aR this)⟩
theorem jf {P:Program} {w:World} {kt:Nat} {x:K} (hk:vg P kt kV) (e:Bool):(Instr.checkKey e 10000 kt (kV x)).run P w= .ok () w:=hk.check e x w
section
variable {E:fg} {ops:Array Oper} {Q:dg} {rest:List Oper} {D:List Deferred} {L:List (Nat×Value)} {C:List ax}
variable {dst:Option Tmp} {d:Nat} {ty:TypeId} {ps:String} {af:Array Edge} {g:Option (Nat×Bool)}
theorem lF {t:TypeId} (hg:j0 ops L g=true) (hd:Nat.blt d E.n=true) (k: ∀ b,RJ E ops Q rest D ((d,.map (some b))::L) (j1 kV b []::C)):RJ E ops Q (⟨some d,.makeMap t none,ty,ps,af,g⟩::rest) D L C:=by
 intro a w B hs
 have hd':d<E.n:=by rw [← Nat.blt_eq]; exact hd
 unfold sR
 rw [if_pos (ep B hg)]
 refine iZ (v:= .map (some w.heap.size)) (w':=w.alloc (.map #[] 0)) sm ?_ ?_
 ·simp [execOp,Instr.makeMap,newObj,Sem.run]
 ·refine k _ _ _ (B.put hd' _) (hs.grow (dT.alloc no w _) (N:=[j1 kV w.heap.size []]) ⟨fun A hA=>?_,fun A hA b hb=>?_,List.pairwise_singleton _ _⟩)
  ·simp at hA; subst hA; exact ⟨#[],0,heap_alloc_new w _,jv.nil⟩
  ·simp at hA; subst hA; exact Nat.le_of_eq (Eq.symm hb)
theorem jv.push {es:Array MapEntry} {c:Nat} {m:List (K×Value)} (h:jv kV es c m) {x:K} (hx:m.lookup x=none) (v:Value):jv kV (es.push {key:=kV x,val:=v,born:=c}) (c+1) (m++[(x,v)]):=by
 refine ⟨by simp [h.list],?_,?_,?_⟩
 ·rw [List.map_append,List.nodup_append]
  refine ⟨h.keys,sm,fun a ha b hb=>?_⟩
  simp at hb; subst hb
  obtain ⟨p,hp,rfl⟩:=cE.1 ha
  exact iu.1 hx p hp
 ·intro e he
  simp only [Array.toList_push,gJ,cq] at he
  rcases he with he|rfl
  ·exact Nat.lt_succ_of_lt (h.IB e he)
  ·exact Nat.lt_succ_self _
 ·simp only [Array.toList_push,List.map_append,List.map_cons,List.map_nil]
  rw [List.nodup_append]
  refine ⟨h.born,sm,fun a ha b hb=>?_⟩
  simp at hb; subst hb
  obtain ⟨p,hp,rfl⟩:=cE.1 ha
  exact Nat.ne_of_lt (h.IB p hp)
theorem MA {m:List (K×Value)} {j:Nat} {x:K} {v0 v:Value} (hn:(m.map (·.1)).Nodup) (hj:m[j]? =some (x,v0)):m.map (fun p=>if p.1=x then (x,v) else p)=m.set j (x,v):=by
 refine List.ext_getElem? fun i=>?_
 rw [fM,List.getElem?_set]
 by_cases e:j=i
 ·subst e
  have hl:=(aW.1 hj).1
  rw [hj]; simp [hl]
 ·rw [if_neg e]
  cases hi:m[i]? with
  |none=>rfl
  |some p=>
   simp only [Option.map_some]
   rw [if_neg]
   intro hp
   have B:(m.map (·.1))[i]? =some x:=by rw [fM,hi]; simp [hp]
   have C:(m.map (·.1))[j]? =some x:=by rw [fM,hj]; rfl
   have A:=(aW.1 B).1
   exact e (((List.getElem?_inj A hn).1 (B.trans C.symm)).symm)
theorem jv.set {es:Array MapEntry} {c:Nat} {m:List (K×Value)} (h:jv kV es c m) {x:K} {j:Nat} {v0:Value} (hj:m[j]? =some (x,v0)) (hx:m.lookup x=some v0) (v:Value):
 jv kV (es.modify j fun e=>{e with key:=kV x,val:=v}) c (ed m x v):=by
 have C:ed m x v=m.set j (x,v):=by unfold ed; rw [hx]; simpa using MA h.keys hj
 have hl:=(aW.1 hj).1
 have E:=h.size
 have A:j<es.size:=by omega
 have B:(es.modify j fun e=>{e with key:=kV x,val:=v}).toList=es.toList.set j {(es[j]) with key:=kV x,val:=v}:=by
  refine List.ext_getElem? fun i=>?_
  rw [Array.getElem?_toList,Array.getElem?_modify,List.getElem?_set]
  by_cases e:j=i
  ·subst e; simp [A]
  ·simp [e]
 have D:(es.toList.set j {(es[j]) with key:=kV x,val:=v}).map (·.born)=es.toList.map (·.born):=by
  rw [List.map_set]
  refine List.ext_getElem? fun i=>?_
  rw [List.getElem?_set]
  by_cases e:j=i
  ·subst e; simp [A]
  ·rw [if_neg e]
 refine ⟨?_,?_,?_,?_⟩
 ·rw [B,C,List.map_set,List.map_set,h.list]
 ·rw [C,List.map_set]
  have:(m.map (·.1)).set j x=m.map (·.1):=by
   refine List.ext_getElem? fun i=>?_
   rw [List.getElem?_set]
   by_cases e:j=i
   ·subst e; simp [hl]; simpa using (congrArg Prod.fst ((aW.1 hj).2)).symm
   ·rw [if_neg e]
  simp only [this]
  exact h.keys
 ·intro e he
  rw [B] at he
  have hb:e.born∈(es.toList.set j {(es[j]) with key:=kV x,val:=v}).map (·.born):=cE.2 ⟨e,he,rfl⟩
  rw [D] at hb
  obtain ⟨e',he',hq⟩:=cE.1 hb
  rw [← hq]; exact h.IB e' he'
 ·rw [B,D]; exact h.born
/-- m[x] = y -/
theorem iX {t kt et:TypeId} {xm xk xv:Operand} {b:Nat} {x:K} {v:Value} {m m':List (K×Value)} {C':List ax} (i:Nat) (hg:j0 ops L g=true) (hm:ev L xm=some (.map (some b))) (hk:ev L xk=some (kV x)) (hv:ev L xv=some v)
 (ht:E.P.underlying t=some (.map kt et)) (hkt:vg E.P kt kV) (hC:C[i]? =some (j1 kV b m)) (hm':ed m x v=m') (hC':C.set i (j1 kV b m')=C') (k:RJ E ops Q rest D L C'):
 RJ E ops Q (⟨none,.mapUpdate t xm xk xv,ty,ps,af,g⟩::rest) D L C:=by
 subst hm' hC'
 intro a w A hs
 unfold sR
 rw [if_pos (ep A hg)]
 obtain ⟨es,c,he,hi⟩:=hs.holds _ (aR hC)
 have B:(getObj b).run E.P w= .ok (.map es c) w:=MapKept.run_getObj_map he
 rcases px (P:=E.P) (w:=w) (x:=x) hkt hi with ⟨AA,F⟩|⟨j,N,AA,F,J⟩
 ·refine su (w':={w with heap:=w.heap.setIfInBounds b (.map (es.push {key:=kV x,val:=v,born:=c}) (c+1))}) sm ?_ ?_
  ·simp [execOp,A.ev hm,A.ev hk,A.ev hv,Instr.mapUpdate,run_underlying ht,B,jf hkt,AA,MapKept.run_setObj_map _ he]
  ·refine k _ _ ⟨A.defers,A.size,A.at_⟩ (hs.yU (b:=b) i hC U U (nD _) (fun _ h=>h) ⟨_,_,pE he,?_⟩)
   have:ed m x v=m++[(x,v)]:=by unfold ed; rw [F]; rfl
   rw [this]; exact hi.push F v
 ·have M:=hi.size
  have G:j<es.size:=by have:=(aW.1 F).1; omega
  have H:(es[j]).key=kV x:=by
   have:=congrArg (fun l=>l[j]?) hi.list
   simp [G,F] at this
   exact this.1
  refine su (w':={w with heap:=w.heap.setIfInBounds b (.map (es.modify j fun e=>{e with key:=kV x,val:=v}) c)}) sm ?_ ?_
  ·simp [execOp,A.ev hm,A.ev hk,A.ev hv,Instr.mapUpdate,run_underlying ht,B,jf hkt,AA,MapKept.run_setObj_map _ he,Instr.keyThatStays,G,H,hkt.bits x]
  ·exact k _ _ ⟨A.defers,A.size,A.at_⟩ (hs.yU (b:=b) i hC U U (nD _) (fun _ h=>h) ⟨_,_,pE he,hi.set F J v⟩)
theorem jv.del {es:Array MapEntry} {c:Nat} {m:List (K×Value)} (h:jv kV es c m) {x:K} {j:Nat} {v0:Value} (hj:m[j]? =some (x,v0)):jv kV (es.eraseIdxIfInBounds j) c (e9 m x):=by
 have hl:=(aW.1 hj).1
 have D:=h.size
 have A:j<es.size:=by omega
 have B:(es.eraseIdxIfInBounds j).toList=es.toList.eraseIdx j:=by simp [Array.eraseIdxIfInBounds,A]
 have E:e9 m x=m.eraseIdx j:=by
  have hn:=h.keys
  clear h D A B
  induction m generalizing j with
  |nil=>simp at hj
  |cons p m ih=>
   obtain ⟨k,v⟩:=p
   simp only [List.map_cons,List.nodup_cons] at hn
   cases j with
   |zero=>
    simp at hj
    obtain ⟨rfl,rfl⟩:=hj
    simp only [e9,List.eraseIdx_zero,List.tail_cons]
    rw [List.filter_cons_of_neg sm]
    refine List.filter_eq_self.2 fun p hp=>?_
    have:p.1≠k:=fun e=>hn.1 (cE.2 ⟨p,hp,e⟩)
    simpa using this
   |succ j=>
    simp only [List.getElem?_cons_succ] at hj
    have C:k≠x:=fun e=>hn.1 (cE.2 ⟨_,aR hj,e.symm⟩)
    simp only [e9,List.eraseIdx_cons_succ] at ih ⊢
    rw [List.filter_cons_of_pos (by simpa using C),ih hj (by simpa using (aW.1 hj).1) hn.2]
 have sub:(es.eraseIdxIfInBounds j).toList.Sublist es.toList:=by rw [B]; exact List.eraseIdx_sublist _ _
 refine ⟨?_,?_,fun e he=>h.IB e (sub.subset he),h.born.sublist (sub.map _)⟩
 ·rw [B,E,ChangeMaps.map_eraseIdx,ChangeMaps.map_eraseIdx,h.list]
 ·rw [E]; exact h.keys.sublist ((List.eraseIdx_sublist _ _).map _)
theorem Ey {m:List (K×Value)} {x:K} (h:m.lookup x=none):e9 m x=m:=List.filter_eq_self.2 fun p hp=>by simpa using iu.1 h p hp
/-- y, ok := m[x] -/
theorem K2 {t kt et:TypeId} {xm xk:Operand} {b:Nat} {x:K} {z:Value} {m:List (K×Value)} (hg:j0 ops L g=true) (hm:ev L xm=some (.map (some b))) (hk:ev L xk=some (kV x))
 (ht:E.P.underlying t=some (.map kt et)) (hkt:vg E.P kt kV) (hz:tV E.P et=some z) (hC:iK C (j1 kV b m).holds):
 SD E ops ⟨dst,.lookup t xm xk true,ty,ps,af,g⟩ D L C (.tuple [(m.lookup x).getD z,.bool (m.lookup x).isSome].toArray):=
 eA hg sm fun a w A hs=>by
  obtain ⟨es,c,he,hi⟩:=hs.has hC
  have B:(getObj b).run E.P w= .ok (.map es c) w:=MapKept.run_getObj_map he
  rcases px (P:=E.P) (w:=w) (x:=x) hkt hi with ⟨F,G⟩|⟨j,AA,F,G,H⟩
  ·simp [execOp,Instr.lookup,A.ev hm,A.ev hk,run_underlying ht,B,jf hkt,F,G,KO hz]
  ·simp [execOp,Instr.lookup,A.ev hm,A.ev hk,run_underlying ht,B,jf hkt,F,H]
/-- m[x] -/
theorem Gv {t kt et:TypeId} {xm xk:Operand} {b:Nat} {x:K} {z:Value} {m:List (K×Value)} (hg:j0 ops L g=true) (hm:ev L xm=some (.map (some b))) (hk:ev L xk=some (kV x))
 (ht:E.P.underlying t=some (.map kt et)) (hkt:vg E.P kt kV) (hz:tV E.P et=some z) (hC:iK C (j1 kV b m).holds):
 SD E ops ⟨dst,.lookup t xm xk false,ty,ps,af,g⟩ D L C ((m.lookup x).getD z):=
 eA hg sm fun a w A hs=>by
  obtain ⟨es,c,he,hi⟩:=hs.has hC
  have B:(getObj b).run E.P w= .ok (.map es c) w:=MapKept.run_getObj_map he
  rcases px (P:=E.P) (w:=w) (x:=x) hkt hi with ⟨F,G⟩|⟨j,AA,F,G,H⟩
  ·simp [execOp,Instr.lookup,A.ev hm,A.ev hk,run_underlying ht,B,jf hkt,F,G,KO hz]
  ·simp [execOp,Instr.lookup,A.ev hm,A.ev hk,run_underlying ht,B,jf hkt,F,H]
theorem sW {β:Type} {t kt et:TypeId} {xm xk:Operand} {b:Nat} {x:K} {f:β→Value} {z:β} {l:List (K×β)} (hg:j0 ops L g=true) (hm:ev L xm=some (.map (some b))) (hk:ev L xk=some (kV x))
 (ht:E.P.underlying t=some (.map kt et)) (hkt:vg E.P kt kV) (hz:tV E.P et=some (f z)) (hC:iK C (j1 kV b (cS f l)).holds):
 SD E ops ⟨dst,.lookup t xm xk true,ty,ps,af,g⟩ D L C (.tuple [f ((l.lookup x).getD z),.bool (l.lookup x).isSome].toArray):=by
 have:=K2 (dst:=dst) (ty:=ty) (ps:=ps) (af:=af) (D:=D) hg hm hk ht hkt hz hC
 rw [nc] at this
 have A:((l.lookup x).map f).getD (f z)=f ((l.lookup x).getD z):=by cases l.lookup x<;>rfl
 rw [A,Option.isSome_map] at this
 exact this
theorem vL {β:Type} {t kt et:TypeId} {xm xk:Operand} {b:Nat} {x:K} {f:β→Value} {z:β} {l:List (K×β)} (hg:j0 ops L g=true) (hm:ev L xm=some (.map (some b))) (hk:ev L xk=some (kV x))
 (ht:E.P.underlying t=some (.map kt et)) (hkt:vg E.P kt kV) (hz:tV E.P et=some (f z)) (hC:iK C (j1 kV b (cS f l)).holds):
 SD E ops ⟨dst,.lookup t xm xk false,ty,ps,af,g⟩ D L C (f ((l.lookup x).getD z)):=by
 have:=Gv (dst:=dst) (ty:=ty) (ps:=ps) (af:=af) (D:=D) hg hm hk ht hkt hz hC
 rw [nc] at this
 have A:((l.lookup x).map f).getD (f z)=f ((l.lookup x).getD z):=by cases l.lookup x<;>rfl
 rw [A] at this
 exact this
end
theorem mG {β:Type} {x:K} {y:β} {l:List (K×β)} (h:(x,y)∈l):(e9 l x).length<l.length:=by
 unfold e9
 exact List.length_filter_lt_length_iff_exists.2 ⟨_,h,sm⟩
theorem zB {β:Type} {x:K} {p:K×β} {l:List (K×β)}:p∈e9 l x↔p∈l∧p.1≠x:=by simp [e9]
/-- an iterator over a map: what is left; what came last -/
def zD (kV:K→Value) (r b:Nat) (m left:List (K×Value)) (cur:Option (K×Value)):ax where
 fr k:=k=r∨k=b
 wf k:=k=r∨k=b
 holds w:=r≠b∧ ∃ (es:Array MapEntry) (c since:Nat) (seen:Array Nat) (st:Nat),w.heap[b]? =some (.map es c)∧jv kV es c m∧w.heap[r]? =some (.mapIter (some b) since seen st)∧(∀ e∈es.toList,e.born<since)∧since≤st∧since≤c∧
  (leftOf es seen).toList.map (fun (e:MapEntry)=>(e.key,e.val))=left.map (fun p=>(kV p.1,p.2))∧
  ∀ p,cur=some p→ ∃ (e:MapEntry) (seen0:Array Nat),e∈es.toList∧seen=seen0.push e.born∧st=c∧e.key=kV p.1∧e.val=p.2
 wr:=true
 kB _ h:=h
 whole _ _ h:=h
 lt w h k hk:=by
  obtain ⟨_,es,c,since,seen,st,h1,_,h2,_⟩:=h
  rcases hk with rfl|rfl
  ·exact dQ h2
  ·exact dQ h1
 oW w w' hk h:=by
  obtain ⟨hne,es,c,since,seen,st,h1,h2,h3,h4⟩:=h
  exact ⟨hne,es,c,since,seen,st,(hk b (.inr rfl)).trans h1,h2,(hk r (.inl rfl)).trans h3,h4⟩
theorem Cu {r b:Nat} {m left:List (K×Value)} {cur:Option (K×Value)}:(∀ w,(zD kV r b m left cur).holds w→(zD kV r b m left none).holds w)∧(∀ k,(zD kV r b m left none).fr k→(zD kV r b m left cur).fr k)∧ ∀ k,(zD kV r b m left none).wf k→(zD kV r b m left cur).wf k:=
 ⟨fun w h=>by
  obtain ⟨A,es,c,since,seen,st,B,C,D,E,F,h5',G,_⟩:=h
  exact ⟨A,es,c,since,seen,st,B,C,D,E,F,h5',G,fun p hp=>by cases hp⟩,fun _ h=>h,fun _ h=>h⟩
theorem HX {r b:Nat} {m left:List (K×Value)} {cur:Option (K×Value)}:(∀ w,(zD kV r b m left cur).holds w→(j1 kV b m).holds w)∧(∀ k,(j1 kV b m).fr k→(zD kV r b m left cur).fr k)∧ ∀ k,(j1 kV b m).wf k→(zD kV r b m left cur).wf k:=
 ⟨fun w h=>by
  obtain ⟨C,es,c,since,seen,st,A,B,_⟩:=h
  exact ⟨es,c,A,B⟩,fun _ h=> .inr h,fun _ h=> .inr h⟩
theorem Bn {es:Array MapEntry} {c:Nat} {m:List (K×Value)} (hinj: ∀ x y,kV x=kV y→x=y) (hi:jv kV es c m) {x y:MapEntry} (hx:x∈es.toList) (hy:y∈es.toList) (e:x.key=y.key):x=y:=by
 have hk:(es.toList.map (·.key))=(m.map (·.1)).map kV:=by
  have:=congrArg (List.map Prod.fst) hi.list
  simpa [Function.comp_def] using this
 have h:(es.toList.map (·.key)).Nodup:=by
  rw [hk,List.nodup_iff_pairwise_ne,List.pairwise_map]
  exact hi.keys.imp (fun B he=>B (hinj _ _ he))
 obtain ⟨i,A⟩:=List.getElem?_of_mem hx
 obtain ⟨j,hj⟩:=List.getElem?_of_mem hy
 have C:(es.toList.map (·.key))[i]? =some x.key:=by rw [fM,A]; rfl
 have D:(es.toList.map (·.key))[j]? =some x.key:=by rw [fM,hj,e]; rfl
 have E:=(List.getElem?_inj (aW.1 C).1 h).1 (C.trans D.symm)
 subst E
 exact Option.some.inj (A.symm.trans hj)
section
variable {E:fg} {ops:Array Oper} {Q:dg} {rest:List Oper} {D:List Deferred} {L:List (Nat×Value)} {C:List ax}
variable {dst:Option Tmp} {d:Nat} {ty:TypeId} {ps:String} {af:Array Edge} {g:Option (Nat×Bool)}
theorem yS {t kt et:TypeId} {xm:Operand} {b:Nat} {m:List (K×Value)} (i:Nat) (hg:j0 ops L g=true) (hm:ev L xm=some (.map (some b))) (ht:E.P.underlying t=some (.map kt et)) (hC:C[i]? =some (j1 kV b m)) (hd:Nat.blt d E.n=true)
 (k: ∀ r,RJ E ops Q rest D ((d,.pointer (some ⟨r,0,none⟩))::L) (C.set i (zD kV r b m m none))):RJ E ops Q (⟨some d,.range t xm,ty,ps,af,g⟩::rest) D L C:=by
 intro a w A hs
 have hd':d<E.n:=by rw [← Nat.blt_eq]; exact hd
 unfold sR
 rw [if_pos (ep A hg)]
 obtain ⟨es,c,he,hi⟩:=hs.holds _ (aR hC)
 have F:b<w.heap.size:=dQ he
 have B:(getObj b).run E.P w= .ok (.map es c) w:=MapKept.run_getObj_map he
 refine iZ (v:= .pointer (some ⟨w.heap.size,0,none⟩)) (w':=w.alloc (.mapIter (some b) c #[] c)) sm ?_ ?_
 ·simp [execOp,Instr.range,A.ev hm,run_underlying ht,B,newObj,Sem.run]
 ·refine k _ _ _ (A.put hd' _) (hs.mv i hC ⟨⟨I,es,c,c,#[],c,?_,hi,heap_alloc_new w _,hi.IB,Nat.le_refl _,Nat.le_refl _,?_,fun p hp=>by cases hp⟩,dT.alloc _ w _,fun q hq=>?_,fun q hq=>?_⟩)
  ·rw [Below.heap_alloc w _ b F]; exact he
  ·have:leftOf es #[]=es:=by unfold leftOf; exact Array.filter_eq_self.2 sm
   rw [this]; exact hi.list
  ·rcases hq with rfl|rfl
   ·exact .inr (Nat.le_refl _)
   ·exact .inl U
  ·rcases hq with rfl|rfl
   ·exact .inr (Nat.le_refl _)
   ·exact .inl U
theorem wZ {es:Array MapEntry} {c:Nat} {m left:List (K×Value)} {seen:Array Nat} (hinj: ∀ x y,kV x=kV y→x=y) (hi:jv kV es c m) (h:(leftOf es seen).toList.map (fun (e:MapEntry)=>(e.key,e.val))=left.map (fun p=>(kV p.1,p.2))):(left.map (·.1)).Nodup:=by
 have B:((leftOf es seen).toList.map (·.key)).Sublist (es.toList.map (·.key)):=by
  unfold leftOf; rw [Array.toList_filter]; exact List.filter_sublist.map _
 have D:(es.toList.map (·.key))=(m.map (·.1)).map kV:=by
  have:=congrArg (List.map Prod.fst) hi.list
  simpa [Function.comp_def] using this
 have E:((leftOf es seen).toList.map (·.key))=(left.map (·.1)).map kV:=by
  have:=congrArg (List.map Prod.fst) h
  simpa [Function.comp_def] using this
 rw [D,E] at B
 have F:((m.map (·.1)).map kV).Nodup:=by
  rw [List.nodup_iff_pairwise_ne,List.pairwise_map]
  exact hi.keys.imp (fun A he=>A (hinj _ _ he))
 have C:=F.sublist B
 rw [List.nodup_iff_pairwise_ne,List.pairwise_map] at C
 rw [List.nodup_iff_pairwise_ne]
 exact C.imp (fun A he=>A (by rw [he]))
theorem Io (hinj: ∀ x y,kV x=kV y→x=y) {xi:Operand} {r b:Nat} {m left:List (K×Value)} {cur:Option (K×Value)} (i:Nat) (hg:j0 ops L g=true) (hm:ev L xi=some (.pointer (some ⟨r,0,none⟩))) (hC:C[i]? =some (zD kV r b m left cur)) (hd:Nat.blt d E.n=true)
 (k0:left=[]→RJ E ops Q rest D ((d,.tuple [.bool false].toArray)::L) C)
 (k1: ∀ x v,(x,v)∈left→(left.map (·.1)).Nodup→RJ E ops Q rest D ((d,.tuple [.bool true,kV x,v].toArray)::L) (C.set i (zD kV r b m (e9 left x) (some (x,v))))):
 RJ E ops Q (⟨some d,.next xi false,ty,ps,af,g⟩::rest) D L C:=by
 intro a w G hs
 have hd':d<E.n:=by rw [← Nat.blt_eq]; exact hd
 unfold sR
 rw [if_pos (ep G hg)]
 obtain ⟨R,es,c,since,seen,st,X,hi,Y,J,V,M,A,_⟩:=hs.holds _ (aR hC)
 rcases run_next_at (P:=E.P) w ty r b since st seen es c Y X J V with ⟨Z,hr⟩|⟨e,he,N,H,hr⟩
 ·refine iZ (v:= .tuple #[.bool false]) (w':=w) sm ?_ ?_
  ·simp [execOp,G.ev hm,hr]
  ·refine k0 ?_ _ _ (G.put hd' _) hs
   have:(leftOf es seen).toList=[]:=by rw [← List.length_eq_zero_iff,Array.length_toList]; exact Z
   rw [this] at A
   exact List.map_eq_nil_iff.1 A.symm
 ·have O:(e.key,e.val)∈left.map (fun p=>(kV p.1,p.2)):=by rw [← A]; exact cE.2 ⟨e,he,rfl⟩
  obtain ⟨p,hp,S⟩:=cE.1 O
  obtain ⟨x,v⟩:=p
  simp only [Prod.mk.injEq] at S
  obtain ⟨hk,hv⟩:=S
  refine iZ (v:= .tuple #[.bool true,e.key,e.val]) (w':=ChangeMaps.setBlock N r (.mapIter (some b) since (seen.push e.born) c)) sm ?_ ?_
  ·simp [execOp,G.ev hm,hr]
  ·rw [← hk,← hv]
   have AA:=wZ hinj hi A
   have F:e∈es.toList:=by unfold leftOf at he; rw [Array.toList_filter] at he; exact (List.mem_filter.1 he).1
   have f:c=c:=rfl
   have B:N.heap=w.heap:=by rcases H with rfl|rfl<;>rfl
   refine k1 x v hp AA _ _ (G.put hd' _) (hs.mv i hC ⟨⟨R,es,c,since,seen.push e.born,c,?_,hi,?_,J,M,M,?_,fun q hq=>?_⟩,?_,fun q hq=> .inl hq,fun q hq=> .inl hq⟩)
   ·show (N.heap.setIfInBounds r _)[b]? =_
    rw [Array.getElem?_setIfInBounds_ne R,B]; exact X
   ·show (N.heap.setIfInBounds r _)[r]? =_
    rw [Array.getElem?_setIfInBounds_self_of_lt (by rw [B]; exact dQ Y)]
   ·have T:leftOf es (seen.push e.born)=(leftOf es seen).filter (fun z=> !(z.born==e.born)):=by
     unfold leftOf
     rw [Array.filter_filter]
     congr 1
     funext z
     simp only [Array.contains_push,Bool.not_or]
     rw [Bool.and_comm]
    rw [T,Array.toList_filter]
    have key: ∀ (l:List MapEntry) (ll:List (K×Value)),(∀ z∈l,z∈es.toList)→l.map (fun (e:MapEntry)=>(e.key,e.val))=ll.map (fun p=>(kV p.1,p.2))→
     (l.filter (fun z=> !(z.born==e.born))).map (fun (e:MapEntry)=>(e.key,e.val))=(e9 ll x).map (fun p=>(kV p.1,p.2)):=by
     intro l
     induction l with
     |nil=>intro ll _ h; cases ll with
      |nil=>rfl
      |cons p ll=>simp at h
     |cons z l ih=>
      intro ll hz h
      cases ll with
      |nil=>simp at h
      |cons p ll=>
       simp only [List.map_cons,List.cons.injEq,Prod.mk.injEq] at h
       have ih':=ih ll (fun y hy=>hz y (by simp [hy])) h.2
       have AB:(z.born=e.born)↔(p.1=x):=by
        constructor
        ·intro hb
         have:z=e:=CS hi.born (hz z sm) F hb
         rw [this] at h
         have:=h.1.1.symm.trans hk.symm
         exact hinj _ _ this
        ·intro hx
         have W:z.key=e.key:=by rw [h.1.1,hx,hk]
         rw [Bn hinj hi (hz z sm) F W]
       unfold e9 at ih' ⊢
       by_cases hx:p.1=x
       ·rw [List.filter_cons_of_neg (by simp [AB.2 hx]),List.filter_cons_of_neg (by simp [hx])]; exact ih'
       ·rw [List.filter_cons_of_pos (by simpa using fun hb=>hx (AB.1 hb)),List.filter_cons_of_pos (by simpa using hx)]
        simp only [List.map_cons,h.1.1,h.1.2,ih']
    exact key _ _ (fun z hz=>by unfold leftOf at hz; rw [Array.toList_filter] at hz; exact (List.mem_filter.1 hz).1) A
   ·cases hq
    exact ⟨e,seen,F,U,U,hk.symm,hv.symm⟩
   ·refine ⟨?_,?_,?_,?_,fun q hq hn=>?_⟩
    ·rcases H with rfl|rfl<;>rfl
    ·rcases H with rfl|rfl<;>rfl
    ·rcases H with rfl|rfl<;>rfl
    ·show w.heap.size≤(N.heap.setIfInBounds r _).size
     simp [B]
    ·show (N.heap.setIfInBounds r _)[q]? =_
     rw [Array.getElem?_setIfInBounds_ne (fun e=>hn (.inl e.symm)),B]
theorem yf {xi:Operand} {r b:Nat} {m left:List (K×Value)} {x:K} {v:Value} (i:Nat) (hg:j0 ops L g=true) (hm:ev L xi=some (.pointer (some ⟨r,0,none⟩))) (hC:C[i]? =some (zD kV r b m left (some (x,v)))):
 SD E ops ⟨dst,.entry xi,ty,ps,af,g⟩ D L C (.tuple [kV x,v].toArray):=
 eA hg sm fun a w F hs=>by
  obtain ⟨N,es,c,since,seen,st,J,hi,M,H,O,AA,G,B⟩:=hs.holds _ (aR hC)
  obtain ⟨e,A,he,rfl,rfl,hk,hv⟩:=B _ rfl
  have:=run_entry_at (P:=E.P) w r b since A es st e M J he hi.born
  simp [execOp,F.ev hm,this,hk,hv]
theorem xM (hinj: ∀ x y,kV x=kV y→x=y) {β:Type} {f:β→Value} {xi:Operand} {r b:Nat} {m:List (K×Value)} {ll:List (K×β)} {cur:Option (K×Value)} (i:Nat) (hg:j0 ops L g=true) (hm:ev L xi=some (.pointer (some ⟨r,0,none⟩))) (hC:C[i]? =some (zD kV r b m (cS f ll) cur)) (hd:Nat.blt d E.n=true)
 (k0:ll=[]→RJ E ops Q rest D ((d,.tuple [.bool false].toArray)::L) C)
 (k1: ∀ x y,(x,y)∈ll→(ll.map (·.1)).Nodup→RJ E ops Q rest D ((d,.tuple [.bool true,kV x,f y].toArray)::L) (C.set i (zD kV r b m (cS f (e9 ll x)) (some (x,f y))))):
 RJ E ops Q (⟨some d,.next xi false,ty,ps,af,g⟩::rest) D L C:=by
 refine Io hinj i hg hm hC hd (fun h=>k0 (List.map_eq_nil_iff.1 h)) (fun x v B hn=>?_)
 obtain ⟨p,hp,A⟩:=cE.1 B
 simp only [Prod.mk.injEq] at A
 obtain ⟨rfl,rfl⟩:=A
 have:=k1 p.1 p.2 hp (by simpa [cS,Function.comp_def] using hn)
 rwa [nK] at this
end
end
end
section
structure bZ where
 Start:Int
 fR:Int
 qm:List Int
 vM:List (List (Int×ag))
 dL:Int
 fZ:Int
 O8:Int
def bZ.n (w:bZ):Nat:=w.qm.length
def fD (s:Int):aI:=if s<0 then ⟨0,1⟩ else ⟨1,0⟩
def dF (a b:aI):aI:=⟨a.right+b.right,a.eT+b.eT⟩
def tU (w:bZ) (b:Nat):List (Int×ag):=(w.vM[b]?).getD []
def iN (w:bZ) (b:Nat):List (Int×ag):=(-1,⟨w.Start,w.fR⟩)::tU w b
def cg (w:bZ) (b:Nat):Int:=(w.qm[b]?).getD 0
def kZ (w:bZ) (b:Nat) (p:aI×Int) (o:Int×ag):Option (aI×Int):=if max (p.2+cg w b) o.2.Lo≤min o.2.Hi w.fR then some (dF p.1 (fD o.1),max (p.2+cg w b) o.2.Lo) else none
def fwd (w:bZ):Nat→List (aI×Int)
 |0=>[(⟨0,0⟩,w.Start)]
 |b+1=>(fwd w b).flatMap fun p=>(iN w b).filterMap (kZ w b p)
def oi (w:bZ) (b:Nat) (p:aI×Int) (o:Int×ag):Option (aI×Int):=if o.2.Lo≤min p.2 o.2.Hi then some (dF p.1 (fD o.1),min p.2 o.2.Hi-cg w b) else none
def bwd (w:bZ):Nat→List (aI×Int)
 |0=>[(⟨0,0⟩,w.fR)]
 |k+1=>(⟨0,0⟩,w.fR)::(bwd w k).flatMap fun p=>(iN w (w.n-(k+1))).filterMap (oi w (w.n-(k+1)) p)
def back (w:bZ) (b:Nat):List (aI×Int):=bwd w (w.n-b)
def kM (w:bZ) (t:aI):Bool:=decide (t.eT≤w.dL∧w.O8-t.right≤w.fZ)
theorem gd {w:bZ} {b:Nat} {q:aI×Int}:q∈fwd w (b+1)↔ ∃ p∈fwd w b,∃ o∈iN w b,kZ w b p o=some q:=by
 simp only [fwd,List.mem_flatMap,List.mem_filterMap]
theorem uT {w:bZ} {b:Nat} (h:w.n≤b):back w b=[(⟨0,0⟩,w.fR)]:=by
 unfold back; rw [Nat.sub_eq_zero_of_le h]; rfl
theorem pB {w:bZ} {b:Nat} (h:b<w.n) {q:aI×Int}:q∈back w b↔q=(⟨0,0⟩,w.fR)∨ ∃ p∈back w (b+1),∃ o∈iN w b,oi w b p o=some q:=by
 unfold back
 have e:w.n-b=(w.n-(b+1))+1:=by omega
 rw [e]
 simp only [bwd,bT,List.mem_flatMap,List.mem_filterMap]
 rw [show w.n-(w.n-(b+1)+1)=b by omega]
def tR (m c:List (aI×Int)):Prop:=(∀ t v,m.lookup t=some v→(t,v)∈c)∧ ∀ t y,(t,y)∈c→ ∃ v,m.lookup t=some v∧v≤y
def v8 (m c:List (aI×Int)):Prop:=(∀ t v,m.lookup t=some v→(t,v)∈c)∧ ∀ t y,(t,y)∈c→ ∃ v,m.lookup t=some v∧y≤v
def vE (m c:List (aI×Int)):Prop:= ∀ t v,m.lookup t=some v→(t,v)∈c
theorem lS {K β:Type} [DecidableEq K] {m:List (K×β)} {x t:K} {y:β}:(ed m x y).lookup t=if t=x then some y else m.lookup t:=by
 unfold ed
 by_cases hx:(m.lookup x).isSome
 ·rw [if_pos hx]
  have key: ∀ l:List (K×β),(l.lookup x).isSome∨True→(l.map (fun p=>if p.1=x then (x,y) else p)).lookup t=if t=x then (if (l.lookup x).isSome then some y else none) else l.lookup t:=by
   intro l _
   induction l with
   |nil=>simp
   |cons p l ih=>
    obtain ⟨k,v⟩:=p
    have ih:=ih (.inr trivial)
    by_cases hk:k=x
    ·subst hk
     by_cases ht:t=k
     ·subst ht; simp [List.lookup]
     ·have:(t==k)=false:=by simpa using ht
      simp only [List.map_cons,if_true,List.lookup,this,ih,if_neg ht]
    ·have hk':(x==k)=false:=by simpa using fun e=>hk e.symm
     by_cases ht:t=k
     ·subst ht; simp [List.lookup,hk]
     ·have A:(t==k)=false:=by simpa using ht
      simp only [List.map_cons,if_neg hk,List.lookup,A,ih,hk']
  rw [key m (.inr trivial)]
  by_cases ht:t=x
  ·subst ht
   rw [if_pos rfl,if_pos rfl,if_pos hx]
  ·rw [if_neg ht,if_neg ht]
 ·rw [if_neg hx]
  have hn:m.lookup x=none:=by cases h0:m.lookup x with
   |none=>rfl
   |some v=>exact absurd (by rw [h0]; rfl) hx
  by_cases ht:t=x
  ·subst ht
   rw [if_pos rfl]
   have:=iu.1 hn
   clear hn hx
   induction m with
   |nil=>simp
   |cons p m ih=>
    obtain ⟨k,v⟩:=p
    have hk:(t==k)=false:=by simpa using fun e=>this (k,v) sm e.symm
    simp only [List.cons_append,List.lookup,hk]
    exact ih (fun q hq=>this q (dI _ hq))
  ·rw [if_neg ht]
   clear hn hx
   induction m with
   |nil=>
    have:(t==x)=false:=by simpa using ht
    simp [List.lookup,this]
   |cons p m ih=>
    obtain ⟨k,v⟩:=p
    by_cases hk:t=k
    ·subst hk; simp [List.lookup]
    ·have:(t==k)=false:=by simpa using hk
     simp only [List.cons_append,List.lookup,this]
     exact ih
/-- what a map is after a try -/
def pD (m:List (aI×Int)) (q:aI×Int):List (aI×Int):=match m.lookup q.1 with
 |none=>ed m q.1 q.2
 |some v=>if q.2<v then ed m q.1 q.2 else m
def pz (m:List (aI×Int)) (q:aI×Int):List (aI×Int):=match m.lookup q.1 with
 |none=>ed m q.1 q.2
 |some v=>if v<q.2 then ed m q.1 q.2 else m
theorem w4 {m:List (aI×Int)} {q:aI×Int} {t:aI}:(pD m q).lookup t=if t=q.1 then some (match m.lookup q.1 with |none=>q.2|some v=>min q.2 v) else m.lookup t:=by
 unfold pD
 cases h:m.lookup q.1 with
 |none=>simp only; rw [lS]
 |some v=>
  simp only
  split
  ·rename_i A
   rw [lS,Int.min_eq_left I]
  ·rename_i A
   split
   ·rename_i e; subst e; rw [h,Int.min_eq_right I]
   ·rfl
theorem yh {m:List (aI×Int)} {q:aI×Int} {t:aI}:(pz m q).lookup t=if t=q.1 then some (match m.lookup q.1 with |none=>q.2|some v=>max q.2 v) else m.lookup t:=by
 unfold pz
 cases h:m.lookup q.1 with
 |none=>simp only; rw [lS]
 |some v=>
  simp only
  split
  ·rename_i A
   rw [lS,Int.max_eq_left I]
  ·rename_i A
   split
   ·rename_i e; subst e; rw [h,Int.max_eq_right I]
   ·rfl
def xA (m m':List (aI×Int)):Prop:= ∀ t v,m.lookup t=some v→ ∃ v',m'.lookup t=some v'∧v'≤v
def xJ (m m':List (aI×Int)):Prop:= ∀ t v,m.lookup t=some v→ ∃ v',m'.lookup t=some v'∧v≤v'
theorem xA.refl (m:List (aI×Int)):xA m m:=fun t v h=>⟨v,h,I⟩
theorem xJ.refl (m:List (aI×Int)):xJ m m:=fun t v h=>⟨v,h,I⟩
theorem v7 {m:List (aI×Int)} {q:aI×Int}:xA m (pD m q):=fun t v h=>by
 rw [w4]
 split
 ·rename_i e; subst e; rw [h]; exact ⟨_,rfl,by simp only; omega⟩
 ·exact ⟨v,h,I⟩
theorem q_ {m:List (aI×Int)} {q:aI×Int}:xJ m (pz m q):=fun t v h=>by
 rw [yh]
 split
 ·rename_i e; subst e; rw [h]; exact ⟨_,rfl,by simp only; omega⟩
 ·exact ⟨v,h,I⟩
theorem Gl {m c:List (aI×Int)} {q:aI×Int} (h:vE m c) (hq:q∈c):vE (pD m q) c:=fun t v hv=>by
 rw [w4] at hv
 split at hv
 ·rename_i e
  subst e
  cases hm:m.lookup q.1 with
  |none=>simp only [hm,Option.some.injEq] at hv; subst hv; exact hq
  |some x=>
   simp only [hm,Option.some.injEq] at hv; subst hv
   rcases Int.lt_or_le q.2 x with A|A
   ·rw [Int.min_eq_left I]; exact hq
   ·rw [Int.min_eq_right I]; exact h _ _ hm
 ·exact h t v hv
theorem HC {m c:List (aI×Int)} {q:aI×Int} (h:vE m c) (hq:q∈c):vE (pz m q) c:=fun t v hv=>by
 rw [yh] at hv
 split at hv
 ·rename_i e
  subst e
  cases hm:m.lookup q.1 with
  |none=>simp only [hm,Option.some.injEq] at hv; subst hv; exact hq
  |some x=>
   simp only [hm,Option.some.injEq] at hv; subst hv
   rcases Int.lt_or_le q.2 x with A|A
   ·rw [Int.max_eq_right I]; exact h _ _ hm
   ·rw [Int.max_eq_left I]; exact hq
 ·exact h t v hv
theorem HK {m:List (aI×Int)} {q:aI×Int}: ∃ v,(pD m q).lookup q.1=some v∧v≤q.2:=by
 rw [w4,if_pos rfl]
 refine ⟨_,U,?_⟩
 cases m.lookup q.1<;>simp only <;>omega
theorem GP {m:List (aI×Int)} {q:aI×Int}: ∃ v,(pz m q).lookup q.1=some v∧q.2≤v:=by
 rw [yh,if_pos rfl]
 refine ⟨_,U,?_⟩
 cases m.lookup q.1<;>simp only <;>omega
/-- all that comes of one entry, by some options, is held -/
def jt (w:bZ) (b:Nat) (m:List (aI×Int)) (p:aI×Int) (os:List (Int×ag)):Prop:= ∀ o∈os,∀ q,kZ w b p o=some q→ ∃ v,m.lookup q.1=some v∧v≤q.2
def jo (w:bZ) (b:Nat) (m:List (aI×Int)) (p:aI×Int) (os:List (Int×ag)):Prop:= ∀ o∈os,∀ q,oi w b p o=some q→ ∃ v,m.lookup q.1=some v∧q.2≤v
theorem jt.lower {w:bZ} {b:Nat} {m m':List (aI×Int)} {p:aI×Int} {os:List (Int×ag)} (h:jt w b m p os) (hl:xA m m'):jt w b m' p os:=fun o ho q hq=>by
 obtain ⟨v,A,C⟩:=h o ho q hq
 obtain ⟨v',B,D⟩:=hl _ _ A
 exact ⟨v',B,I⟩
theorem jo.upper {w:bZ} {b:Nat} {m m':List (aI×Int)} {p:aI×Int} {os:List (Int×ag)} (h:jo w b m p os) (hl:xJ m m'):jo w b m' p os:=fun o ho q hq=>by
 obtain ⟨v,A,C⟩:=h o ho q hq
 obtain ⟨v',B,D⟩:=hl _ _ A
 exact ⟨v',B,I⟩
theorem jt.sub {w:bZ} {b:Nat} {m:List (aI×Int)} {p:aI×Int} {os os':List (Int×ag)} (h:jt w b m p os) (hs: ∀ o∈os',o∈os):jt w b m p os':=fun o ho=>h o (hs o ho)
theorem jo.sub {w:bZ} {b:Nat} {m:List (aI×Int)} {p:aI×Int} {os os':List (Int×ag)} (h:jo w b m p os) (hs: ∀ o∈os',o∈os):jo w b m p os':=fun o ho=>h o (hs o ho)
theorem jt.add {w:bZ} {b:Nat} {m m':List (aI×Int)} {p:aI×Int} {os:List (Int×ag)} {o:Int×ag} (h:jt w b m p os) (hl:xA m m') (hn: ∀ q,kZ w b p o=some q→ ∃ v,m'.lookup q.1=some v∧v≤q.2):jt w b m' p (os++[o]):=fun o' ho q hq=>by
 rcases gJ.1 ho with ho|ho
 ·exact h.lower hl o' ho q hq
 ·simp only [cq] at ho; subst ho; exact hn q hq
theorem jo.add {w:bZ} {b:Nat} {m m':List (aI×Int)} {p:aI×Int} {os:List (Int×ag)} {o:Int×ag} (h:jo w b m p os) (hl:xJ m m') (hn: ∀ q,oi w b p o=some q→ ∃ v,m'.lookup q.1=some v∧q.2≤v):jo w b m' p (os++[o]):=fun o' ho q hq=>by
 rcases gJ.1 ho with ho|ho
 ·exact h.upper hl o' ho q hq
 ·simp only [cq] at ho; subst ho; exact hn q hq
theorem fO {m:List (aI×Int)} (hn:(m.map (·.1)).Nodup) {t:aI} {v:Int}:(t,v)∈m↔m.lookup t=some v:=lv hn
theorem o_ {z t:aI} {x v:Int}:List.lookup t [(z,x)]=some v↔t=z∧v=x:=by
 by_cases e:t=z
 ·subst e; simp [List.lookup,eq_comm]
 ·have:(t==z)=false:=by simpa using e
  simp [List.lookup,this,e]
theorem Gc {w:bZ}:tR [(⟨0,0⟩,w.Start)] (fwd w 0):=by
 refine ⟨fun t v h=>?_,fun t y h=>?_⟩
 ·obtain ⟨rfl,rfl⟩:=o_.1 h
  simp [fwd]
 ·simp only [fwd,cq,Prod.mk.injEq] at h
  obtain ⟨rfl,rfl⟩:=h
  exact ⟨w.Start,o_.2 ⟨U,U⟩,Int.le_refl _⟩
theorem KT {w:bZ} {b:Nat} {mb m:List (aI×Int)} (hn:(mb.map (·.1)).Nodup) (h:tR mb (fwd w b)) (hs:vE m (fwd w (b+1))) (hd: ∀ p∈mb,jt w b m p (iN w b)):tR m (fwd w (b+1)):=⟨hs,fun t y hy=>by
 obtain ⟨p,hp,o,ho,e⟩:=gd.1 hy
 obtain ⟨v,B,E⟩:=h.2 p.1 p.2 hp
 unfold kZ at e
 split at e
 ·rename_i D
  simp only [Option.some.injEq,Prod.mk.injEq] at e
  obtain ⟨v',A,C⟩:=hd (p.1,v) ((fO hn).2 B) o ho (dF p.1 (fD o.1),max (v+cg w b) o.2.Lo) (by unfold kZ; rw [if_pos (by simp only; omega)])
  simp only at A C
  rw [e.1] at A
  exact ⟨v',A,I⟩
 ·cases e⟩
theorem KC {w:bZ} {b:Nat} (hb:w.n≤b):v8 [(⟨0,0⟩,w.fR)] (back w b):=by
 rw [uT hb]
 refine ⟨fun t v h=>?_,fun t y h=>?_⟩
 ·obtain ⟨rfl,rfl⟩:=o_.1 h
  simp
 ·simp only [cq,Prod.mk.injEq] at h
  obtain ⟨rfl,rfl⟩:=h
  exact ⟨w.fR,o_.2 ⟨U,U⟩,Int.le_refl _⟩
theorem Je {w:bZ} {b:Nat} (hb:b<w.n) {mb m:List (aI×Int)} (hn:(mb.map (·.1)).Nodup) (h:v8 mb (back w (b+1))) (hs:vE m (back w b)) (h0: ∃ v,m.lookup ⟨0,0⟩=some v∧w.fR≤v) (hd: ∀ p∈mb,jo w b m p (iN w b)):v8 m (back w b):=⟨hs,fun t y hy=>by
 rcases (pB hb).1 hy with e|⟨p,hp,o,ho,e⟩
 ·simp only [Prod.mk.injEq] at e
  obtain ⟨rfl,rfl⟩:=e
  exact h0
 obtain ⟨v,B,E⟩:=h.2 p.1 p.2 hp
 unfold oi at e
 split at e
 ·rename_i D
  simp only [Option.some.injEq,Prod.mk.injEq] at e
  obtain ⟨v',A,C⟩:=hd (p.1,v) ((fO hn).2 B) o ho (dF p.1 (fD o.1),min v o.2.Hi-cg w b) (by unfold oi; rw [if_pos (by simp only; omega)])
  simp only at A C
  rw [e.1] at A
  exact ⟨v',A,I⟩
 ·cases e⟩
end
section
def jF (w:bZ) (b:Nat) (p u:aI×Int) (o:Int×ag):ag:=⟨max (p.2+cg w b) o.2.Lo,min u.2 o.2.Hi⟩
def xh (p u:aI×Int) (o:Int×ag):aI:=dF (dF p.1 u.1) (fD o.1)
def mQ (w:bZ) (b:Nat) (p u:aI×Int) (o:Int×ag):Option (Int×ag):=if (jF w b p u o).Lo≤(jF w b p u o).Hi∧kM w (xh p u o)=true then some (o.1,jF w b p u o) else none
def qq (w:bZ) (b:Nat) (mf mb:List (aI×Int)):List (Int×ag):=(iN w b).flatMap fun o=>mf.flatMap fun p=>mb.filterMap fun u=>mQ w b p u o
def j_ (w:bZ) (b:Nat):List (Int×ag):=qq w b (fwd w b) (back w (b+1))
theorem iA {w:bZ} {b:Nat} {mf mb:List (aI×Int)} {q:Int×ag}:q∈qq w b mf mb↔ ∃ o∈iN w b,∃ p∈mf,∃ u∈mb,mQ w b p u o=some q:=by
 simp only [qq,List.mem_flatMap,List.mem_filterMap]
theorem jz {w:bZ} {b:Nat} {p u:aI×Int} {o q:Int×ag}:mQ w b p u o=some q↔(jF w b p u o).Lo≤(jF w b p u o).Hi∧kM w (xh p u o)=true∧q=(o.1,jF w b p u o):=by
 unfold mQ
 split
 ·rename_i h
  simp only [Option.some.injEq]
  exact ⟨fun e=>⟨h.1,h.2,e.symm⟩,fun e=>e.2.2.symm⟩
 ·rename_i h
  simp only [reduceCtorEq,false_iff]
  exact fun e=>h ⟨e.1,e.2.1⟩
theorem jD {w:bZ} {b:Nat} {mf mb:List (aI×Int)} {q:Int×ag} (h:q∈qq w b mf mb):q.2.Lo≤q.2.Hi:=by
 obtain ⟨o,_,p,_,u,_,e⟩:=iA.1 h
 obtain ⟨A,_,rfl⟩:=jz.1 e
 exact A
/-- what the maps tell is what all ways tell -/
theorem ME {w:bZ} {b:Nat} {mf mb:List (aI×Int)} (hf:tR mf (fwd w b)) (hb:v8 mb (back w (b+1))) (nf:(mf.map (·.1)).Nodup) (nb:(mb.map (·.1)).Nodup) {q:Int×ag} (h:q∈qq w b mf mb):q∈j_ w b:=by
 obtain ⟨o,ho,p,hp,u,hu,e⟩:=iA.1 h
 exact iA.2 ⟨o,ho,p,hf.1 _ _ ((fO nf).1 hp),u,hb.1 _ _ ((fO nb).1 hu),e⟩
theorem KZ {w:bZ} {b:Nat} {mf mb:List (aI×Int)} (hf:tR mf (fwd w b)) (hb:v8 mb (back w (b+1))) (nf:(mf.map (·.1)).Nodup) (nb:(mb.map (·.1)).Nodup) {q:Int×ag} (h:q∈j_ w b): ∃ q'∈qq w b mf mb,q'.1=q.1∧q'.2.Lo≤q.2.Lo∧q.2.Hi≤q'.2.Hi:=by
 obtain ⟨o,ho,p,hp,u,hu,e⟩:=iA.1 h
 obtain ⟨A,B,rfl⟩:=jz.1 e
 obtain ⟨v,hv,C⟩:=hf.2 p.1 p.2 hp
 obtain ⟨y,hy,D⟩:=hb.2 u.1 u.2 hu
 simp only [jF] at A
 refine ⟨(o.1,jF w b (p.1,v) (u.1,y) o),iA.2 ⟨o,ho,(p.1,v),(fO nf).2 hv,(u.1,y),(fO nb).2 hy,jz.2 ⟨?_,B,U⟩⟩,U,?_,?_⟩
 ·simp only [jF]; omega
 ·simp only [jF]; omega
 ·simp only [jF]; omega
def lH:ag:=⟨1,0⟩
def mH (h x:ag):ag:=if h=lH then x else ⟨min x.Lo h.Lo,max x.Hi h.Hi⟩
def sP (l:List (Int×ag)):ag:=l.foldl (fun h q=>mH h q.2) lH
structure oQ (l:List (Int×ag)) (h:ag):Prop where
 le:h.Lo≤h.Hi
 lo: ∃ x∈l,x.2.Lo=h.Lo
 hi: ∃ x∈l,x.2.Hi=h.Hi
 all: ∀ x∈l,h.Lo≤x.2.Lo∧x.2.Hi≤h.Hi
def kE (l:List (Int×ag)) (h:ag):Prop:=(l=[]∧h=lH)∨oQ l h
theorem oQ.ne {l:List (Int×ag)} {h:ag} (hh:oQ l h):h≠lH:=fun e=>by
 have:=hh.le; rw [e] at this; simp [lH] at this
theorem Bd:kE [] lH:= .inl ⟨rfl,rfl⟩
theorem vl {l:List (Int×ag)} {h:ag} {q:Int×ag} (hh:kE l h) (hq:q.2.Lo≤q.2.Hi):kE (l++[q]) (mH h q.2):=by
 right
 rcases hh with ⟨rfl,rfl⟩|hh
 ·unfold mH
  rw [if_pos rfl]
  exact ⟨hq,⟨q,sm,rfl⟩,⟨q,sm,rfl⟩,fun x hx=>by simp at hx; subst hx; exact ⟨Int.le_refl _,Int.le_refl _⟩⟩
 ·unfold mH
  rw [if_neg hh.ne]
  have A:=hh.le
  obtain ⟨a,ha,ea⟩:=hh.lo
  obtain ⟨c,hc,ec⟩:=hh.hi
  refine ⟨by simp only; omega,?_,?_,fun x hx=>?_⟩
  ·rcases Int.lt_or_le q.2.Lo h.Lo with p|p
   ·exact ⟨q,sm,by simp only; omega⟩
   ·exact ⟨a,by simp [ha],by simp only; omega⟩
  ·rcases Int.lt_or_le h.Hi q.2.Hi with p|p
   ·exact ⟨q,sm,by simp only; omega⟩
   ·exact ⟨c,by simp [hc],by simp only; omega⟩
  ·rcases gJ.1 hx with hx|hx
   ·have:=hh.all x hx; simp only; omega
   ·simp at hx; subst hx; simp only; omega
theorem oT {l:List (Int×ag)} (hl: ∀ q∈l,q.2.Lo≤q.2.Hi):kE l (sP l):=by
 have key: ∀ (r d:List (Int×ag)) (h:ag),(∀ q∈r,q.2.Lo≤q.2.Hi)→kE d h→kE (d++r) (r.foldl (fun h q=>mH h q.2) h):=by
  intro r
  induction r with
  |nil=>intro d h _ hd; simpa using hd
  |cons q r ih=>
   intro d h hr hd
   have:=ih (d++[q]) (mH h q.2) (fun x hx=>hr x (dI _ hx)) (vl hd (hr q sm))
   simpa using this
 have:=key l [] lH hl Bd
 rw [List.nil_append] at this
 exact this
def D6 (a b:List (Int×ag)):Prop:= ∀ x∈b,∃ y∈a,y.2.Lo≤x.2.Lo∧x.2.Hi≤y.2.Hi
theorem Mc {a b:List (Int×ag)} {h k:ag} (ha:kE a h) (hb:kE b k) (hab:D6 a b) (hba:D6 b a):h=k:=by
 rcases ha with ⟨rfl,rfl⟩|ha
 ·rcases hb with ⟨rfl,rfl⟩|hb
  ·rfl
  ·obtain ⟨x,hx,_⟩:=hb.lo
   obtain ⟨y,hy,_⟩:=hab x hx
   cases hy
 ·rcases hb with ⟨rfl,rfl⟩|hb
  ·obtain ⟨x,hx,_⟩:=ha.lo
   obtain ⟨y,hy,_⟩:=hba x hx
   cases hy
  ·have le: ∀ {a b:List (Int×ag)} {h k:ag},oQ a h→oQ b k→D6 a b→h.Lo≤k.Lo∧k.Hi≤h.Hi:=fun {a b h k} ha hb hab=>by
    obtain ⟨x,hx,ex⟩:=hb.lo
    obtain ⟨z,hz,ez⟩:=hb.hi
    obtain ⟨y,hy,ey⟩:=hab x hx
    obtain ⟨y',hy',ey'⟩:=hab z hz
    have A:=ha.all y hy
    have B:=ha.all y' hy'
    omega
   have A:=le ha hb hab
   have B:=le hb ha hba
   rw [ag.ext_iff]; omega
theorem zq {w:bZ} {b:Nat} {mf mb:List (aI×Int)} {l:List (Int×ag)} {h:ag} (hf:tR mf (fwd w b)) (hb:v8 mb (back w (b+1))) (nf:(mf.map (·.1)).Nodup) (nb:(mb.map (·.1)).Nodup)
 (hl: ∀ q∈l,q∈qq w b mf mb) (hl2: ∀ q∈qq w b mf mb,q∈l) (hh:kE l h):h=sP (j_ w b):=
 Mc hh (oT fun q hq=>jD hq) (fun x hx=>by
  obtain ⟨q,hq,_,A,B⟩:=KZ hf hb nf nb hx
  exact ⟨q,hl2 q hq,A,B⟩) (fun x hx=>⟨x,ME hf hb nf nb (hl x hx),Int.le_refl _,Int.le_refl _⟩)
def jC (w:bZ) (m:List (aI×Int)):Bool:=m.any fun p=>kM w p.1
theorem AW {w:bZ} {b:Nat} {m:List (aI×Int)} (h:tR m (fwd w b)) (nf:(m.map (·.1)).Nodup):jC w m=jC w (fwd w b):=by
 unfold jC
 rw [Bool.eq_iff_iff,List.any_eq_true,List.any_eq_true]
 constructor
 ·rintro ⟨p,hp,A⟩
  exact ⟨p,h.1 _ _ ((fO nf).1 hp),A⟩
 ·rintro ⟨p,hp,A⟩
  obtain ⟨v,hv,_⟩:=h.2 p.1 p.2 hp
  exact ⟨(p.1,v),(fO nf).2 hv,A⟩
def j2 (w:bZ) (k:Nat):List Int:=((List.range k).filter fun i=>jC w (fwd w i)).map fun (i:Nat)=>(i:Int)
def gW (w:bZ):List Int:=j2 w (w.n+1)
theorem Dr {w:bZ} {k:Nat} (h:jC w (fwd w k)=true):j2 w (k+1)=j2 w k++[(k:Int)]:=by simp [j2,List.range_succ,h]
theorem Hr {w:bZ} {k:Nat} (h:jC w (fwd w k)=false):j2 w (k+1)=j2 w k:=by simp [j2,List.range_succ,h]
theorem tw {w:bZ} {k:Nat}:(j2 w k).length≤k:=by
 unfold j2
 rw [List.length_map]
 exact Nat.le_trans (List.length_filter_le _ _) sm
end
section
open Go.RowKit
theorem Gj {P:Program} {t:Nat} {k:IntKind} (hu:P.underlying t=some (.int k)) (e:Bool) (n:Nat) (v:Value) (w:World):(Instr.checkKey e (n+1) t v).run P w= .ok () w:=by
 unfold Instr.checkKey
 simp only [Sem.run_bind,run_underlying hu,Result.andThen]
 cases v<;>rfl
theorem Ab {P:Program} {kt:Nat} {l:List (Nat×Nat)} (hl:fL P kt=some l) (e:Bool) (n:Nat) (cs:Array Value) (w:World)
 (hf: ∀ p∈l,(∃ v,(part p.1 cs p.2).run P w= .ok v w)∧ ∃ k,P.underlying p.1=some (.int k)):(Instr.checkKey e (n+2) kt (.agg cs)).run P w= .ok () w:=by
 unfold fL at hl
 cases hu:P.underlying kt with
 |none=>simp [hu] at hl
 |some d=>
  cases d<;>simp [hu] at hl
  rename_i fs
  obtain ⟨hn,hl⟩:=hl
  rw [show n+2=(n+1)+1 from rfl,Instr.checkKey]
  simp only [Sem.run_bind,run_underlying hu,Result.andThen_ok]
  rw [← Array.forIn_toList]
  have A: ∀ f∈fs.toList,(∃ v,(part f.type cs f.offset).run P w= .ok v w)∧ ∃ k,P.underlying f.type=some (.int k):=fun f hf'=>hf (f.type,f.offset) (by rw [← hl]; exact cE.2 ⟨f,hf',rfl⟩)
  have B: ∀ f∈fs.toList,f.name≠"_":=fun f hf'=>by
   obtain ⟨i,hi,rfl⟩:=List.getElem_of_mem hf'
   exact hn.1.1 i (by simpa using hi)
  clear hl hn hf
  generalize fs.toList=L at A B
  induction L with
  |nil=>simp
  |cons f L ih=>
   obtain ⟨⟨v,hv⟩,k,hk⟩:=A f sm
   have C:=B f sm
   simp only [List.forIn_cons,Sem.run_bind,C,ne_eq,not_false_eq_true,if_true,Result.andThen_ok,hv,Gj hk,Sem.run_pure]
   exact ih (fun y hy=>A y (by simp [hy])) (fun y hy=>B y (by simp [hy]))
theorem BV {P:Program} {kt:Nat} {K:Type} [DecidableEq K] {kV:K→Value} (hw: ∀ (k:Value) (es:List MapEntry) (w:World),(Instr.findKey kt k es).run P w=(Instr.findAsking kt k es).run P w)
 (heq: ∀ x y w,(Op.equal kt (kV x) (kV y)).run P w= .ok (decide (x=y)) w) (inj: ∀ x y,kV x=kV y→x=y) (x:K) (w:World) (es:List MapEntry) (hk: ∀ e∈es,∃ k,e.key=kV k):
 ((Instr.findKey kt (kV x) es).run P w= .ok none w∧ ∀ e∈es,e.key≠kV x)∨ ∃ j e,(Instr.findKey kt (kV x) es).run P w= .ok (some (j,e.val)) w∧es[j]? =some e∧e.key=kV x:=by
 have key: ∀ (es:List MapEntry) (i:Nat),(∀ e∈es,∃ k,e.key=kV k)→((Instr.findAsking kt (kV x) es i).run P w= .ok none w∧ ∀ e∈es,e.key≠kV x)∨ ∃ j e,(Instr.findAsking kt (kV x) es i).run P w= .ok (some (i+j,e.val)) w∧es[j]? =some e∧e.key=kV x:=by
  intro es
  induction es with
  |nil=>intro i _; exact .inl ⟨by simp [Instr.findAsking],sm⟩
  |cons e es ih=>
   intro i B
   obtain ⟨k,A⟩:=B e sm
   by_cases h:x=k
   ·refine .inr ⟨0,e,?_,U,by rw [A,h]⟩
    subst h
    simp [Instr.findAsking,A,heq]
   ·rcases ih (i+1) (fun y hy=>B y (by simp [hy])) with ⟨C,D⟩|⟨j,e',C,D,E⟩
    ·refine .inl ⟨by simp [Instr.findAsking,A,heq,h,C],fun y hy=>?_⟩
     rcases bT.1 hy with rfl|hy
     ·rw [A]; exact fun q=>h (inj _ _ q).symm
     ·exact D y hy
    ·exact .inr ⟨j+1,e',by simp [Instr.findAsking,A,heq,h,C]; omega,by simpa using D,E⟩
 rw [hw]
 rcases key es 0 hk with h|⟨j,e,C,D,E⟩
 ·exact .inl h
 ·exact .inr ⟨j,e,by simpa using C,D,E⟩
theorem DA {P:Program} {kt:Nat} {l:List (Nat×Nat)} (hl:fL P kt=some l) (k:Value) (es:List MapEntry) (w:World):(Instr.findKey kt k es).run P w=(Instr.findAsking kt k es).run P w:=by
 refine run_findKey_eq w ?_ k es
 unfold fL at hl
 cases hu:P.underlying kt with
 |none=>simp [hu] at hl
 |some d=>cases d<;>simp [hu] at hl ⊢
theorem Mz {P:Program} {kt:Nat} {K:Type} [DecidableEq K] {kV:K→Value} {l:List (Nat×Nat)} (hl:fL P kt=some l) (heq: ∀ x y w,(Op.equal kt (kV x) (kV y)).run P w= .ok (decide (x=y)) w) (inj: ∀ x y,kV x=kV y→x=y)
 (hb: ∀ x,Instr.sameBits 10000 (kV x) (kV x)=true) (hp: ∀ x w,∃ cs,kV x= .agg cs∧ ∀ p∈l,(∃ v,(part p.1 cs p.2).run P w= .ok v w)∧ ∃ k,P.underlying p.1=some (.int k)):vg P kt kV:=
 ⟨fun e x w=>by obtain ⟨cs,A,B⟩:=hp x w; rw [A]; exact Ab hl e 9998 cs w B,fun x w es=>BV (DA hl) heq inj x w es,hb,inj⟩
end
section
open Go.RowKit
set_option linter.unusedSectionVars false
theorem ig {P:Program} {kt:Nat} (hk:P.underlying kt=some (.int .i64)):vg P kt (Value.int .i64):=by
 refine ⟨fun e x w=>GR hk e,fun x w es A=>?_,fun x=>by simp [Instr.sameBits],fun x y h=>by injection h⟩
 have key: ∀ (es:List MapEntry) (i:Nat),(∀ e∈es,∃ k:Int,e.key= .int .i64 k)→(Instr.findNow (.int .i64) (.int .i64 x) es i=some none∧ ∀ e∈es,e.key≠ .int .i64 x)∨ ∃ j e,Instr.findNow (.int .i64) (.int .i64 x) es i=some (some (i+j,e.val))∧es[j]? =some e∧e.key= .int .i64 x:=by
  intro es
  induction es with
  |nil=>intro i _; exact .inl ⟨rfl,sm⟩
  |cons e es ih=>
   intro i A
   obtain ⟨k,B⟩:=A e sm
   by_cases h:x=k
   ·subst h
    exact .inr ⟨0,e,by simp [Instr.findNow,Instr.sameNow,B],U,B⟩
   ·have hb:(x==k)=false:=by simpa using h
    rcases ih (i+1) (fun y hy=>A y (by simp [hy])) with ⟨C,D⟩|⟨j,e',C,D,E⟩
    ·refine .inl ⟨by simp [Instr.findNow,Instr.sameNow,B,hb,C],fun y hy=>?_⟩
     rcases bT.1 hy with rfl|hy
     ·rw [B]; intro q; injection q with _ q; exact h q.symm
     ·exact D y hy
    ·refine .inr ⟨j+1,e',?_,by simpa using D,E⟩
     simp only [Instr.findNow,Instr.sameNow,B,hb,if_true,C]
     simp; omega
 rcases key es 0 A with ⟨C,D⟩|⟨j,e,C,D,E⟩
 ·exact .inl ⟨MapKept.run_findKey hk C,D⟩
 ·exact .inr ⟨j,e,MapKept.run_findKey hk (by simpa using C),D,E⟩
theorem St.Mu {S:BS} {w0 w w':World} {C:List ax} {A N:ax} (h:St S w0 C w) (i:Nat) (hA:C[i]? =some A) (k:dT no w w') (hN:N.holds w') (hf: ∀ b,N.fr b→w.heap.size≤b∨A.fr b∧ ¬ A.wf b∧ ¬ N.wf b):St S w0 (N::C) w':=by
 have h':=h.same k
 have G:=aR hA
 have hi:=(aW.1 hA).1
 have B:C[i]=A:=(aW.1 hA).2
 refine ⟨h'.keeps,fun X hX=>?_,List.Pairwise.cons (fun X hX b hb hb'=>?_) h'.sep,fun X hX b hb=>?_,fun X hX b hb=>?_⟩
 ·rcases bT.1 hX with rfl|hX
  ·exact hN
  ·exact h'.holds X hX
 ·rcases hf b hb with E|⟨E,AA,H⟩
  ·have:=X.lt w (h.holds X hX) b hb'; omega
  ·refine ⟨H,?_⟩
   obtain ⟨j,hj,D⟩:=List.mem_iff_getElem.1 hX
   by_cases e:j=i
   ·subst e; rw [← D,B]; exact AA
   ·rcases Nat.lt_or_gt_of_ne e with F|F
    ·have:=eK.1 h.sep j i hj hi F b (by rw [D]; exact hb') (by rw [B]; exact E)
     rw [← D]; exact this.1
    ·have:=eK.1 h.sep i j hi hj F b (by rw [B]; exact E) (by rw [D]; exact hb')
     rw [← D]; exact this.2
 ·rcases bT.1 hX with rfl|hX
  ·rcases hf b (X.kB b hb) with E|⟨_,_,H⟩
   ·exact .inl (Nat.le_trans h.keeps.size E)
   ·exact absurd hb H
  ·exact h'.own X hX b hb
 ·rcases bT.1 hX with rfl|hX
  ·rcases hf b hb with E|⟨E,_,_⟩
   ·exact .inl (Nat.le_trans h.keeps.size E)
   ·exact h.seen A G b E
  ·exact h'.seen X hX b hb
section
variable {K:Type} [DecidableEq K] {kV:K→Value}
/-- an iterator over a map that is read alone -/
def CX (kV:K→Value) (r b:Nat) (m left:List (K×Value)) (cur:Option (K×Value)):ax where
 fr k:=k=r∨k=b
 wf k:=k=r
 holds w:=r≠b∧ ∃ (es:Array MapEntry) (c since:Nat) (seen:Array Nat) (st:Nat),w.heap[b]? =some (.map es c)∧jv kV es c m∧w.heap[r]? =some (.mapIter (some b) since seen st)∧(∀ e∈es.toList,e.born<since)∧since≤st∧since≤c∧
  (leftOf es seen).toList.map (fun (e:MapEntry)=>(e.key,e.val))=left.map (fun p=>(kV p.1,p.2))∧
  ∀ p,cur=some p→ ∃ (e:MapEntry) (seen0:Array Nat),e∈es.toList∧seen=seen0.push e.born∧st=c∧e.key=kV p.1∧e.val=p.2
 wr:=false
 kB _ h:= .inl h
 whole h:=by cases h
 lt w h k hk:=by
  obtain ⟨_,es,c,since,seen,st,h1,_,h2,_⟩:=h
  rcases hk with rfl|rfl
  ·exact dQ h2
  ·exact dQ h1
 oW w w' hk h:=by
  obtain ⟨hne,es,c,since,seen,st,h1,h2,h3,h4⟩:=h
  exact ⟨hne,es,c,since,seen,st,(hk b (.inr rfl)).trans h1,h2,(hk r (.inl rfl)).trans h3,h4⟩
theorem py {r b:Nat} {m left:List (K×Value)} {cur:Option (K×Value)}:(∀ w,(CX kV r b m left cur).holds w→(CX kV r b m left none).holds w)∧(∀ k,(CX kV r b m left none).fr k→(CX kV r b m left cur).fr k)∧ ∀ k,(CX kV r b m left none).wf k→(CX kV r b m left cur).wf k:=
 ⟨fun w h=>by
  obtain ⟨A,es,c,since,seen,st,B,C,D,E,F,h5',G,_⟩:=h
  exact ⟨A,es,c,since,seen,st,B,C,D,E,F,h5',G,fun p hp=>by cases hp⟩,fun _ h=>h,fun _ h=>h⟩
section
variable {E:fg} {ops:Array Oper} {Q:dg} {rest:List Oper} {D:List Deferred} {L:List (Nat×Value)} {C:List ax}
variable {dst:Option Tmp} {d:Nat} {ty:TypeId} {ps:String} {af:Array Edge} {g:Option (Nat×Bool)}
theorem pU {t kt et:TypeId} {xm:Operand} {b:Nat} {m:List (K×Value)} {A:ax} (i:Nat) (hg:j0 ops L g=true) (hm:ev L xm=some (.map (some b))) (ht:E.P.underlying t=some (.map kt et)) (hA:C[i]? =some A) (hAf:A.fr b∧ ¬ A.wf b) (hC:iK C (j1 kV b m).holds) (hd:Nat.blt d E.n=true)
 (k: ∀ r,RJ E ops Q rest D ((d,.pointer (some ⟨r,0,none⟩))::L) (CX kV r b m m none::C)):RJ E ops Q (⟨some d,.range t xm,ty,ps,af,g⟩::rest) D L C:=by
 intro a w B hs
 have hd':d<E.n:=by rw [← Nat.blt_eq]; exact hd
 unfold sR
 rw [if_pos (ep B hg)]
 obtain ⟨es,c,he,hi⟩:=hs.has hC
 have G:b<w.heap.size:=dQ he
 have F:(getObj b).run E.P w= .ok (.map es c) w:=MapKept.run_getObj_map he
 refine iZ (v:= .pointer (some ⟨w.heap.size,0,none⟩)) (w':=w.alloc (.mapIter (some b) c #[] c)) sm ?_ ?_
 ·simp [execOp,Instr.range,B.ev hm,run_underlying ht,F,newObj,Sem.run]
 ·refine k _ _ _ (B.put hd' _) (hs.Mu i hA (dT.alloc no w _) ⟨I,es,c,c,#[],c,?_,hi,heap_alloc_new w _,hi.IB,Nat.le_refl _,Nat.le_refl _,?_,fun p hp=>by cases hp⟩ (fun q hq=>?_))
  ·rw [Below.heap_alloc w _ b G]; exact he
  ·have:leftOf es #[]=es:=by unfold leftOf; exact Array.filter_eq_self.2 sm
   rw [this]; exact hi.list
  ·rcases hq with rfl|rfl
   ·exact .inl (Nat.le_refl _)
   ·refine .inr ⟨hAf.1,hAf.2,fun (e:q=w.heap.size)=>by omega⟩
theorem GW (hinj: ∀ x y,kV x=kV y→x=y) {xi:Operand} {r b:Nat} {m left:List (K×Value)} {cur:Option (K×Value)} (i:Nat) (hg:j0 ops L g=true) (hm:ev L xi=some (.pointer (some ⟨r,0,none⟩))) (hC:C[i]? =some (CX kV r b m left cur)) (hd:Nat.blt d E.n=true)
 (k0:left=[]→RJ E ops Q rest D ((d,.tuple [.bool false].toArray)::L) C)
 (k1: ∀ x v,(x,v)∈left→(left.map (·.1)).Nodup→RJ E ops Q rest D ((d,.tuple [.bool true,kV x,v].toArray)::L) (C.set i (CX kV r b m (e9 left x) (some (x,v))))):
 RJ E ops Q (⟨some d,.next xi false,ty,ps,af,g⟩::rest) D L C:=by
 intro a w G hs
 have hd':d<E.n:=by rw [← Nat.blt_eq]; exact hd
 unfold sR
 rw [if_pos (ep G hg)]
 obtain ⟨R,es,c,since,seen,st,X,hi,Y,J,V,M,A,_⟩:=hs.holds _ (aR hC)
 rcases run_next_at (P:=E.P) w ty r b since st seen es c Y X J V with ⟨Z,hr⟩|⟨e,he,N,H,hr⟩
 ·refine iZ (v:= .tuple #[.bool false]) (w':=w) sm ?_ ?_
  ·simp [execOp,G.ev hm,hr]
  ·refine k0 ?_ _ _ (G.put hd' _) hs
   have:(leftOf es seen).toList=[]:=by rw [← List.length_eq_zero_iff,Array.length_toList]; exact Z
   rw [this] at A
   exact List.map_eq_nil_iff.1 A.symm
 ·have O:(e.key,e.val)∈left.map (fun p=>(kV p.1,p.2)):=by rw [← A]; exact cE.2 ⟨e,he,rfl⟩
  obtain ⟨p,hp,S⟩:=cE.1 O
  obtain ⟨x,v⟩:=p
  simp only [Prod.mk.injEq] at S
  obtain ⟨hk,hv⟩:=S
  refine iZ (v:= .tuple #[.bool true,e.key,e.val]) (w':=ChangeMaps.setBlock N r (.mapIter (some b) since (seen.push e.born) c)) sm ?_ ?_
  ·simp [execOp,G.ev hm,hr]
  ·rw [← hk,← hv]
   have AA:=wZ hinj hi A
   have F:e∈es.toList:=by unfold leftOf at he; rw [Array.toList_filter] at he; exact (List.mem_filter.1 he).1
   have f:c=c:=rfl
   have B:N.heap=w.heap:=by rcases H with rfl|rfl<;>rfl
   refine k1 x v hp AA _ _ (G.put hd' _) (hs.mv i hC ⟨⟨R,es,c,since,seen.push e.born,c,?_,hi,?_,J,M,M,?_,fun q hq=>?_⟩,?_,fun q hq=> .inl hq,fun q hq=> .inl hq⟩)
   ·show (N.heap.setIfInBounds r _)[b]? =_
    rw [Array.getElem?_setIfInBounds_ne R,B]; exact X
   ·show (N.heap.setIfInBounds r _)[r]? =_
    rw [Array.getElem?_setIfInBounds_self_of_lt (by rw [B]; exact dQ Y)]
   ·have T:leftOf es (seen.push e.born)=(leftOf es seen).filter (fun z=> !(z.born==e.born)):=by
     unfold leftOf
     rw [Array.filter_filter]
     congr 1
     funext z
     simp only [Array.contains_push,Bool.not_or]
     rw [Bool.and_comm]
    rw [T,Array.toList_filter]
    have key: ∀ (l:List MapEntry) (ll:List (K×Value)),(∀ z∈l,z∈es.toList)→l.map (fun (e:MapEntry)=>(e.key,e.val))=ll.map (fun p=>(kV p.1,p.2))→
     (l.filter (fun z=> !(z.born==e.born))).map (fun (e:MapEntry)=>(e.key,e.val))=(e9 ll x).map (fun p=>(kV p.1,p.2)):=by
     intro l
     induction l with
     |nil=>intro ll _ h; cases ll with
      |nil=>rfl
      |cons p ll=>simp at h
     |cons z l ih=>
      intro ll hz h
      cases ll with
      |nil=>simp at h
      |cons p ll=>
       simp only [List.map_cons,List.cons.injEq,Prod.mk.injEq] at h
       have ih':=ih ll (fun y hy=>hz y (by simp [hy])) h.2
       have AB:(z.born=e.born)↔(p.1=x):=by
        constructor
        ·intro hb
         have:z=e:=CS hi.born (hz z sm) F hb
         rw [this] at h
         have:=h.1.1.symm.trans hk.symm
         exact hinj _ _ this
        ·intro hx
         have W:z.key=e.key:=by rw [h.1.1,hx,hk]
         rw [Bn hinj hi (hz z sm) F W]
       unfold e9 at ih' ⊢
       by_cases hx:p.1=x
       ·rw [List.filter_cons_of_neg (by simp [AB.2 hx]),List.filter_cons_of_neg (by simp [hx])]; exact ih'
       ·rw [List.filter_cons_of_pos (by simpa using fun hb=>hx (AB.1 hb)),List.filter_cons_of_pos (by simpa using hx)]
        simp only [List.map_cons,h.1.1,h.1.2,ih']
    exact key _ _ (fun z hz=>by unfold leftOf at hz; rw [Array.toList_filter] at hz; exact (List.mem_filter.1 hz).1) A
   ·cases hq
    exact ⟨e,seen,F,U,U,hk.symm,hv.symm⟩
   ·refine ⟨?_,?_,?_,?_,fun q hq hn=>?_⟩
    ·rcases H with rfl|rfl<;>rfl
    ·rcases H with rfl|rfl<;>rfl
    ·rcases H with rfl|rfl<;>rfl
    ·show w.heap.size≤(N.heap.setIfInBounds r _).size
     simp [B]
    ·show (N.heap.setIfInBounds r _)[q]? =_
     rw [Array.getElem?_setIfInBounds_ne (fun e=>hn e.symm),B]
theorem oz {xi:Operand} {r b:Nat} {m left:List (K×Value)} {x:K} {v:Value} (i:Nat) (hg:j0 ops L g=true) (hm:ev L xi=some (.pointer (some ⟨r,0,none⟩))) (hC:C[i]? =some (CX kV r b m left (some (x,v)))):
 SD E ops ⟨dst,.entry xi,ty,ps,af,g⟩ D L C (.tuple [kV x,v].toArray):=
 eA hg sm fun a w F hs=>by
  obtain ⟨N,es,c,since,seen,st,J,hi,M,H,O,AA,G,B⟩:=hs.holds _ (aR hC)
  obtain ⟨e,A,he,rfl,rfl,hk,hv⟩:=B _ rfl
  have:=run_entry_at (P:=E.P) w r b since A es st e M J he hi.born
  simp [execOp,F.ev hm,this,hk,hv]
theorem ox (hinj: ∀ x y,kV x=kV y→x=y) {β:Type} {f:β→Value} {xi:Operand} {r b:Nat} {m:List (K×Value)} {ll:List (K×β)} {cur:Option (K×Value)} (i:Nat) (hg:j0 ops L g=true) (hm:ev L xi=some (.pointer (some ⟨r,0,none⟩))) (hC:C[i]? =some (CX kV r b m (cS f ll) cur)) (hd:Nat.blt d E.n=true)
 (k0:ll=[]→RJ E ops Q rest D ((d,.tuple [.bool false].toArray)::L) C)
 (k1: ∀ x y,(x,y)∈ll→(ll.map (·.1)).Nodup→RJ E ops Q rest D ((d,.tuple [.bool true,kV x,f y].toArray)::L) (C.set i (CX kV r b m (cS f (e9 ll x)) (some (x,f y))))):
 RJ E ops Q (⟨some d,.next xi false,ty,ps,af,g⟩::rest) D L C:=by
 refine GW hinj i hg hm hC hd (fun h=>k0 (List.map_eq_nil_iff.1 h)) (fun x v B hn=>?_)
 obtain ⟨p,hp,A⟩:=cE.1 B
 simp only [Prod.mk.injEq] at A
 obtain ⟨rfl,rfl⟩:=A
 have:=k1 p.1 p.2 hp (by simpa [cS,Function.comp_def] using hn)
 rwa [nK] at this
theorem vd {t kt et:TypeId} {xm xk xv:Operand} {b:Nat} {x:K} {v:Value} {m m':List (K×Value)} {C':List ax} (i:Nat) (hg:j0 ops L g=true) (hm:ev L xm=some (.map (some b))) (hk:ev L xk=some (kV x)) (hv:ev L xv=some v)
 (ht:E.P.underlying t=some (.map kt et)) (hkt:vg E.P kt kV) (hC:C[i]? =some (j1 kV b m)) (hm':ed m x v=m') (hC':C.set i (j1 kV b m')=C') (k:RJ E ops Q rest D L C'):
 RJ E ops Q (⟨none,.insert t xm xk xv,ty,ps,af,g⟩::rest) D L C:=by
 subst hm' hC'
 intro a w A hs
 unfold sR
 rw [if_pos (ep A hg)]
 obtain ⟨es,c,he,hi⟩:=hs.holds _ (aR hC)
 have B:(getObj b).run E.P w= .ok (.map es c) w:=MapKept.run_getObj_map he
 rcases px (P:=E.P) (w:=w) (x:=x) hkt hi with ⟨AA,F⟩|⟨j,N,AA,F,J⟩
 ·refine su (w':={w with heap:=w.heap.setIfInBounds b (.map (es.push {key:=kV x,val:=v,born:=c}) (c+1))}) sm ?_ ?_
  ·simp [execOp,A.ev hm,A.ev hk,A.ev hv,Instr.mapUpdate,run_underlying ht,B,jf hkt,AA,MapKept.run_setObj_map _ he]
  ·refine k _ _ ⟨A.defers,A.size,A.at_⟩ (hs.yU (b:=b) i hC U U (nD _) (fun _ h=>h) ⟨_,_,pE he,?_⟩)
   have:ed m x v=m++[(x,v)]:=by unfold ed; rw [F]; rfl
   rw [this]; exact hi.push F v
 ·have M:=hi.size
  have G:j<es.size:=by have:=(aW.1 F).1; omega
  have H:(es[j]).key=kV x:=by
   have:=congrArg (fun l=>l[j]?) hi.list
   simp [G,F] at this
   exact this.1
  refine su (w':={w with heap:=w.heap.setIfInBounds b (.map (es.modify j fun e=>{e with key:=kV x,val:=v}) c)}) sm ?_ ?_
  ·simp [execOp,A.ev hm,A.ev hk,A.ev hv,Instr.mapUpdate,run_underlying ht,B,jf hkt,AA,MapKept.run_setObj_map _ he,Instr.keyThatStays,G,H,hkt.bits x]
  ·exact k _ _ ⟨A.defers,A.size,A.at_⟩ (hs.yU (b:=b) i hC U U (nD _) (fun _ h=>h) ⟨_,_,pE he,hi.set F J v⟩)
end
end
end
section
open Go.RowKit
def UK {σ:Type} (w0:World) (P:Program) (l:Nat) (step:σ→List Value→σ→Prop) (J:σ→ax→Prop) (Z:ax→Prop):Prop:=
 ∀ k x k' A w,step k x k'→J k A→w0.heap.size≤w.heap.size→A.holds w→YieldAt (Fw none) 0 P l x.toArray w fun e w'=>
  (e= .returned (.bool true)∧ ∃ B,J k' B∧Mv A B w w')∨(e= .returned (.bool false)∧ ∃ B,Z B∧Mv A B w w')
def B1 {σ:Type} (J:σ→ax→Prop) (Z:ax→Prop) (fin:σ→Prop) (A0:ax) (w0:World) (e:Ending) (w':World):Prop:=
 ∃ v,e= .returned v∧((∃ s B,fin s∧J s B∧Mv A0 B w0 w')∨ ∃ B,Z B∧Mv A0 B w0 w')
structure LY {σ:Type} (P:Program) (f:FuncId) (fi ca:List Value) (Cp:List ax) (s0:σ) (step:σ→List Value→σ→Prop) (fin:σ→Prop):Prop where
 go:sv P f=true
 run: ∀ (l:Nat) (J:σ→ax→Prop) (Z:ax→Prop) (A0:ax) (w:World),UK w P l step J Z→J s0 A0→A0.holds w→(∀ A∈Cp,A.holds w)→(∀ A∈Cp,CP A0 A.ro)→
  Calls P f (fi++Value.func (.yield l) #[] #[]::ca).toArray w (B1 J Z fin A0 w)
theorem Qk {σ:Type} {J:σ→ax→Prop} {Z:ax→Prop} {n:σ} {fin:σ→Prop} {A0 B:ax} {w0 w:World} {C:List ax} {v:Value} (i:Nat) (hC:C[i]? =some B) (hfin:fin n) (hJ:J n B) (hF:Fo A0 w0 B) (hs:St ⟨A0.wf,fun _=>True⟩ w0 C w):B1 J Z fin A0 w0 (.returned v) w:=
 ⟨v,rfl,.inl ⟨n,B,hfin,hJ,hs.holds B (aR hC),hs.keeps,fun b hb=>(hs.own B (aR hC) b hb).symm,hF⟩⟩
theorem E2 {σ:Type} {J:σ→ax→Prop} {Z:ax→Prop} {fin:σ→Prop} {A0 B:ax} {w0 w:World} {C:List ax} {v:Value} (i:Nat) (hC:C[i]? =some B) (hJ:Z B) (hF:Fo A0 w0 B) (hs:St ⟨A0.wf,fun _=>True⟩ w0 C w):B1 J Z fin A0 w0 (.returned v) w:=
 ⟨v,rfl,.inr ⟨B,hJ,hs.holds B (aR hC),hs.keeps,fun b hb=>(hs.own B (aR hC) b hb).symm,hF⟩⟩
theorem E9 {σ:Type} {P:Program} {f:FuncId} {fn:Func} {c:Code} {fi ca:List Value} {Cp:List ax} {s0:σ} {step:σ→List Value→σ→Prop} {fin:σ→Prop} (hgo:sv P f=true) (hf:P.funcs[f]? =some fn) (hb:fn.body=some c) (hn:Nat.ble (fi.length+ca.length+1) fn.ntmps=true)
 (h: ∀ (l:Nat) (J:σ→ax→Prop) (Z:ax→Prop) (A0:ax) (w0:World) (Q:dg),UK w0 P l step J Z→J s0 A0→Fo A0 w0 A0→
  (∀ D L C,LJ ⟨P,none,fn.ntmps,⟨A0.wf,fun _=>True⟩,w0⟩ fn (B1 J Z fin A0 w0) D L C→KJ ⟨P,none,fn.ntmps,⟨A0.wf,fun _=>True⟩,w0⟩ (Q .ret) D L C)→
  (∀ D L C,LJ ⟨P,none,fn.ntmps,⟨A0.wf,fun _=>True⟩,w0⟩ fn (B1 J Z fin A0 w0) D L C→KJ ⟨P,none,fn.ntmps,⟨A0.wf,fun _=>True⟩,w0⟩ (Q .normal) D L C)→
  WJ ⟨P,none,fn.ntmps,⟨A0.wf,fun _=>True⟩,w0⟩ c Q [] (Ov (fi++Value.func (.yield l) #[] #[]::ca)) (A0::Cp.map ax.ro)):LY P f fi ca Cp s0 step fin:=by
 refine ⟨hgo,fun l J Z A0 w hY hJ hA F E=>?_⟩
 refine zG hf hb (by simpa [Nat.add_assoc] using hn) (h l J Z A0 w · hY hJ (fun b hb=> .inl hb)) ?_
 have G:=qT F
 refine ⟨dT.refl _ _,fun A hA'=>?_,List.Pairwise.cons (fun B hB=>?_) G.sep,fun A hA' b hb=>?_,fun _ _ _ _=> .inr trivial⟩
 ·rcases bT.1 hA' with rfl|hA'
  ·exact hA
  ·exact G.holds A hA'
 ·obtain ⟨B',hB',rfl⟩:=cE.1 hB
  exact E B' hB'
 ·rcases bT.1 hA' with rfl|hA'
  ·exact .inr hb
  ·obtain ⟨B',hB',rfl⟩:=cE.1 hA'
   exact hb.elim
section
variable {E:fg} {ops:Array Oper} {Q:dg} {rest:List Oper} {D:List Deferred} {L:List (Nat×Value)} {C:List ax}
variable {d:Nat} {ty:TypeId} {ps:String} {af:Array Edge} {g:Option (Nat×Bool)}
/-- a call of yield -/
theorem xb {σ:Type} {fop:Operand} {xs:Array Operand} {ts:Array TypeId} {l:Nat} {k k':σ} {vs:List Value} {step:σ→List Value→σ→Prop} {J:σ→ax→Prop} {Z:ax→Prop} {A0 A:ax} {w1:World} (i:Nat) (hw1:w1.heap.size≤E.w0.heap.size) (hY:UK w1 E.P l step J Z) (hJ:J k A) (hF:Fo A0 w1 A) (hg:j0 ops L g=true) (hf:ev L fop=some (.func (.yield l) #[] #[]))
 (hx:evs L xs.toList=some vs) (hk:step k vs k') (hC:C[i]? =some A) (hd:Nat.blt d E.n=true)
 (k1: ∀ B,J k' B→Fo A0 w1 B→RJ E ops Q rest D ((d,.bool true)::L) (C.set i B))
 (k2: ∀ B,Z B→Fo A0 w1 B→RJ E ops Q rest D ((d,.bool false)::L) (C.set i B)):
 RJ E ops Q (⟨some d,.call {callee:= .value fop,args:=xs,argTypes:=ts},ty,ps,af,g⟩::rest) D L C:=by
 intro a w F hs
 have hd':d<E.n:=by rw [← Nat.blt_eq]; exact hd
 unfold sR
 rw [if_pos (ep F hg)]
 have K:xs.map a.eval=vs.toArray:=by
  have:=F.evs hx
  apply Array.ext'
  simp [this]
 obtain ⟨fn,tmps,assign,body,hy,hr⟩:=hY k vs k' A w hk hJ (Nat.le_trans hw1 hs.keeps.size) (hs.holds A (aR hC))
 have H:(execOp a.eval ⟨some d,.call {callee:= .value fop,args:=xs,argTypes:=ts},ty,ps,af,g⟩).run E.P w= .ok (.round l fn tmps assign body) w:=by
  simp [execOp,resolve,F.ev hf,Deferred.ofValue,invoke,K,hy]
 refine ⟨fun _ _=>trivial,?_⟩
 rw [Oper.semAt_eq _ _ _ sm,H]
 refine ⟨fun h=>by simp at h,?_⟩
 have G: ∀ (B:ax) (w':World),Mv A B w w'→Fo A0 w1 B:=fun B w' m b hb=>by
  rcases m.fr b hb with AA|AA
  ·exact hF b AA
  ·exact .inr (Nat.le_trans hw1 (Nat.le_trans hs.keeps.size AA))
 have hr':RoundIn (Fw E.r) 0 E.P l fn tmps assign body w _:=hr
 refine hr'.mono fun e w' he=>?_
 rcases he with ⟨rfl,B,hB,m⟩|⟨rfl,B,hB,m⟩
 ·exact k1 B hB (G B w' m) _ _ (F.put hd' _) (hs.mv i hC m)
 ·exact k2 B hB (G B w' m) _ _ (F.put hd' _) (hs.mv i hC m)
end
theorem uH {σ:Type} {E:fg} {Q:dg} {D:g9} {L L0:dw} {C F:List ax} {g:Operand} {ps:Array Tmp} {assign body:Code} {f:FuncId} {fi ca:List Value} {Cp:List ax} {s0:σ} {step:σ→List Value→σ→Prop} {fin_:σ→Prop} {ι κ:Type}
 (inv:σ→ι→Prop) (Ci:σ→ι→List ax) (invx:Code→κ→Prop) (Cx:Code→κ→List ax) (isJ isF:List Nat) (y0:ι)
 (hr:E.r=none) (hg:ev L g=some (.func (.func f) fi.toArray ca.toArray)) (hs:LY E.P f fi ca Cp s0 step fin_)
 (hnd:decide (isJ++isF).Nodup=true) (hJ:ko C isJ=Ci s0 y0) (hF:ko C isF=F) (h0:inv s0 y0) (hCp: ∀ A∈Cp,∃ B∈F,KB B A)
 (hps: ∀ k x k',step k x k'→x.length=ps.size) (hpn:ps.toList.all (fun t=>Nat.blt t E.n)=true) (hL:dh L L0)
 (round: ∀ (k:σ) (x:List Value) (k':σ) (y:ι) (l:Nat) (ra rb:Loop) (S:BS) (w0:World) (K:Act→World→Prop) (Qr:dg),E.w0.heap.size≤w0.heap.size→step k x k'→inv k y→
  (∀ L' C',WJ ⟨E.P,some l,E.n,S,w0⟩ body Qr [] L' (jh l (.loop rb)::C')→KJ ⟨E.P,some l,E.n,S,w0⟩ K [] L' (jh l (.loop ra)::C'))→
  (∀ y' L' C',inv k' y'→(∀ w,St S w0 C' w→St S w0 (jh l (.loop rb)::Ci k' y') w)→KJ ⟨E.P,some l,E.n,S,w0⟩ (Qr .normal) [] L' C')→
  (∀ id z L' C',invx (.exit id) z→(∀ w,St S w0 C' w→St S w0 (jh l (.loop rb)::Cx (.exit id) z) w)→KJ ⟨E.P,some l,E.n,S,w0⟩ (Qr (.exit id)) [] L' C')→
  (∀ z L' C',invx .ret z→(∀ w,St S w0 C' w→St S w0 (jh l (.loop rb)::Cx .ret z) w)→KJ ⟨E.P,some l,E.n,S,w0⟩ (Qr .ret) [] L' C')→
  WJ ⟨E.P,some l,E.n,S,w0⟩ assign (Exit.then K (fun _ _ _=>False)) [] (yH ps.toList x L0) (jh l (.loop ra)::Ci k y))
 (fin: ∀ r s y,fin_ s→inv s y→KJ E (Q .normal) (jR r::D) L0 (jh r (.deferred (some []))::(F++Ci s y)))
 (finx: ∀ r id z,invx (.exit id) z→KJ E (Q (.exit id)) (jR r::D) L0 (jh r (.deferred (some []))::(F++Cx (.exit id) z)))
 (finr: ∀ r z,invx .ret z→KJ E (Q .ret) (jR r::D) L0 (jh r (.deferred (some []))::(F++Cx .ret z))):WJ E (.rangeFunc g ps assign body) Q D L C:=by
 intro a w hf q
 refine wpIn_rangeFunc fun fn _=>?_
 show ∃ l jR w₁ d w₁' f args w₂,(Instr.enterLoop fn a.tmps ps assign body E.r).run E.P w= .ok (l,jR) w₁∧_
 rw [hr]
 obtain ⟨rec,G⟩: ∃ rec:LoopState→Option Code→Loop,rec=fun st pe=>{state:=st,pending:=pe,fn,tmps:=a.tmps,params:=ps,assign,body,defers:=w.heap.size}:=⟨_,rfl⟩
 obtain ⟨W1,R⟩: ∃ W1,(w.alloc (.deferred (some []))).alloc (.loop (rec .ready none))=W1:=⟨_,rfl⟩
 have A0:a.eval g= .func (.func f) fi.toArray ca.toArray:=hf.ev hg
 have p:(Instr.enterLoop fn a.tmps ps assign body none).run E.P w= .ok (w.heap.size+1,[jR w.heap.size]) W1:=by
  rw [← R,G]; exact run_enterLoop_outer _ _ _ _ _
 -- the state with the record and the block
 have u:St E.S E.w0 ((jh (w.heap.size+1) (.loop (rec .ready none))::Ci s0 y0)++(jh w.heap.size (.deferred (some []))::F)) W1:=by
  have X:St E.S E.w0 (Ci s0 y0++F) w:=St.ko (isJ++isF) hnd (by have X:=hJ; have j:=hF; unfold Go.Proofs.YtijpnoadncadoaaGreatDoor.ko at X j ⊢; rw [List.filterMap_append,X,j]) q
  have hn:LC w W1 [jh (w.heap.size+1) (.loop (rec .ready none)),jh w.heap.size (.deferred (some []))]:=by
   refine ⟨fun A hA=>?_,fun A hA b hb=>?_,?_⟩
   ·rcases bT.1 hA with rfl|hA
    ·show W1.heap[w.heap.size+1]? =_
     rw [← R]; have:=World.alloc_heap_new (w.alloc (.deferred (some []))) (.loop (rec .ready none)); rwa [World.size_alloc] at this
    ·simp only [cq] at hA; subst hA
     show W1.heap[w.heap.size]? =_
     rw [← R]; exact (Below.heap_alloc _ _ _ sm).trans (World.alloc_heap_new w _)
   ·rcases bT.1 hA with rfl|hA
    ·have:b=w.heap.size+1:=hb
     omega
    ·simp only [cq] at hA; subst hA
     have:b=w.heap.size:=hb
     omega
   ·refine List.Pairwise.cons (fun B hB b X j=>?_) (List.pairwise_singleton _ _)
    simp only [cq] at hB; subst hB
    have V:b=w.heap.size+1:=X
    have O:b=w.heap.size:=j
    omega
  have hk:dT no w W1:=by rw [← R]; exact (dT.alloc no w _).trans (dT.alloc no _ _)
  have j:=X.grow hk hn
  refine j.perm ?_
  simp only [List.cons_append,List.nil_append]
  exact List.Perm.cons _ (List.perm_middle.symm)
 have Y:=u.tied
 obtain ⟨H,A5⟩:=List.pairwise_cons.1 Y.sep
 have AF:=Y.holds _ (cy ..)
 let J:σ→ax→Prop:=fun k A=> ∃ y,inv k y∧A=bQ (jh (w.heap.size+1) (.loop (rec .ready none))::Ci k y)
 let Z:ax→Prop:=fun A=> ∃ c z,(c= .ret∨ ∃ id,c= .exit id)∧invx c z∧A=bQ (jh (w.heap.size+1) (.loop (rec .done (some c)))::Cx c z)
 refine ⟨w.heap.size+1,[jR w.heap.size],W1,{target:= .fn (.func f) ca.toArray,args:=fi.toArray++ #[.func (.yield (w.heap.size+1)) #[] #[]]},W1,f,
  (fi++Value.func (.yield (w.heap.size+1)) #[] #[]::ca).toArray,W1,p,?_,fun _ _=>trivial,?_,fun h=>by simp at h,?_⟩
 ·simp only [resolve,A0]
  simp [Deferred.ofValue,Act.eval]
 ·have:fi.toArray++ #[Value.func (.yield (w.heap.size+1)) #[] #[]]++ca.toArray=(fi++Value.func (.yield (w.heap.size+1)) #[] #[]::ca).toArray:=by simp
  simp [invoke,nu hs.go]
 ·refine (o2 E.r (hs.run (w.heap.size+1) J Z _ W1 ?_ ⟨y0,h0,U⟩ AF ?_ ?_)).mono ?_
  ·-- a round
   rintro k x k' A W hx ⟨y,hy,rfl⟩ AO hA
   have hl:W.heap[w.heap.size+1]? =some (.loop (rec .ready none)):=hA.1 _ (cy ..)
   have AC:=run_yield (P:=E.P) (args:=x.toArray) hl (by rw [G]; simpa using hps k x k' hx)
   rw [G] at AC
   refine ⟨fn,_,assign,body,AC,roundIn_of_wpIn trivial ?_⟩
   let A:ax:=bQ (jh (w.heap.size+1) (.loop (rec .ready none))::Ci k y)
   have A1:Fr E.n [] (yH ps.toList x L0) {tmps:=(ps.zip x.toArray).foldl (fun tmps (t,a)=>tmps.setIfInBounds t a) a.tmps,defers:=[]}:=by
    have X:=Ex ps.toList x L0 a.tmps (fun t ht=>by have:=cV.1 hpn t ht; rwa [Nat.blt_eq] at this) ⟨rfl,hf.size,fun t v hv=>hf.at_ t v (hL t v hv)⟩
    rw [← Array.foldl_toList]
    simpa using X
   have o: ∀ (c:Option Code) (b:Bool),({rec .busy none with state:=if b then .ready else .done,pending:=c}:Loop)=rec (if b then .ready else .done) c:=fun c b=>by rw [G]
   have T: ∀ (c:Option Code) (N:World) (C':List ax) (S:BS),St S W (jh (w.heap.size+1) (.loop (rec .busy none))::C') N→
    ∃ M,(Instr.endRound (w.heap.size+1) c).run E.P N= .ok (.bool c.isNone) M∧St S W (jh (w.heap.size+1) (.loop (rec (if c.isNone then .ready else .done) c))::C') M:=fun c N C' S H=>by
    have AB:N.heap[w.heap.size+1]? =some (.loop (rec .busy none)):=H.holds _ (cy ..)
    refine ⟨_,run_endRound c AB,?_⟩
    have:=H.yU (b:=w.heap.size+1) (A':=jh (w.heap.size+1) (.loop (rec (if c.isNone then .ready else .done) c))) 0 rfl rfl rfl (g7 _) (fun _ h=>h) (World.putObj_heap_same (dQ AB))
    rw [o]
    exact this
   refine round k x k' y (w.heap.size+1) (rec .ready none) (rec .busy none) ⟨A.wf,A.fr⟩ W _ (roundPost E.P (w.heap.size+1) (fun e w'=>(e= .returned (.bool true)∧ ∃ B,J k' B∧Mv A B W w')∨(e= .returned (.bool false)∧ ∃ B,Z B∧Mv A B W w'))) (Nat.le_trans (Nat.le_trans q.keeps.size (by rw [← R]; simp; omega)) AO) hx hy ?_ ?_ ?_ ?_ _ _ A1 (St.Ay hA)
   ·intro L' C' hW a1 N i H
    have AB:N.heap[w.heap.size+1]? =some (.loop (rec .ready none)):=H.holds _ (cy ..)
    refine ⟨_,run_beginRound AB (by rw [G]),hW _ _ i ?_⟩
    have:=H.yU (b:=w.heap.size+1) (A':=jh (w.heap.size+1) (.loop (rec .busy none))) 0 rfl rfl rfl (g7 _) (fun _ h=>h) (World.putObj_heap_same (dQ AB))
    have e:({rec .ready none with state:= .busy}:Loop)=rec .busy none:=by rw [G]
    rw [e]; exact this
   ·intro y' L' C' hy' hC' a1 N i H
    obtain ⟨M,V,O⟩:=T none N _ _ (hC' _ H)
    exact ⟨_,M,V,.inl ⟨U,_,⟨y',hy',U⟩,Mv.of O⟩⟩
   ·intro id z L' C' hz hC' a1 N i H
    obtain ⟨M,V,O⟩:=T (some (.exit id)) N _ _ (hC' _ H)
    exact ⟨_,M,V,.inr ⟨U,_,⟨_,z,.inr ⟨id,U⟩,hz,U⟩,Mv.of O⟩⟩
   ·intro z L' C' hz hC' a1 N i H
    obtain ⟨M,V,O⟩:=T (some .ret) N _ _ (hC' _ H)
    exact ⟨_,M,V,.inr ⟨U,_,⟨_,z,.inl U,hz,U⟩,Mv.of O⟩⟩
  ·intro A hA
   obtain ⟨B,hB,hc⟩:=hCp A hA
   exact hc.holds _ (Y.holds B (dI _ (dI _ hB)))
  ·intro A hA b hb hb'
   obtain ⟨B,hB,hc⟩:=hCp A hA
   exact ⟨(H B (dI _ hB) b hb (hc.fr b hb')).1,fun h=>h⟩
  ·rintro e w' ⟨v,rfl,hh⟩
   have AA:Fr E.n (jR w.heap.size::D) L0 {a with defers:=[jR w.heap.size]++a.defers}:=⟨by simp [hf.defers],hf.size,fun t v hv=>hf.at_ t v (hL t v hv)⟩
   have hleave: ∀ (st:LoopState) (c:Option Code) (C':List ax),st≠ .busy→Mv (bQ (jh (w.heap.size+1) (.loop (rec .ready none))::Ci s0 y0)) (bQ (jh (w.heap.size+1) (.loop (rec st c))::C')) W1 w'→
    ∃ M,(Instr.endLoop (w.heap.size+1)).run E.P w'= .ok c M∧St E.S E.w0 (jh w.heap.size (.deferred (some []))::(F++C')) M:=fun st c C' A3 m=>by
    have X:=(Y.mv 0 rfl m).iU
    have h1':St E.S E.w0 ((jh (w.heap.size+1) (.loop (rec st c))::C')++(jh w.heap.size (.deferred (some []))::F)) w':=X
    have AB:w'.heap[w.heap.size+1]? =some (.loop (rec st c)):=h1'.holds (jh (w.heap.size+1) (.loop (rec st c))) sm
    refine ⟨_,by have:=run_endLoop (P:=E.P) AB (by rw [G]; exact A3); rw [this,G],?_⟩
    have j:=h1'.yU (b:=w.heap.size+1) (A':=jh (w.heap.size+1) (.loop {rec st c with state:= .exhausted})) 0 rfl rfl rfl (g7 _) (fun _ h=>h) (World.putObj_heap_same (dQ AB))
    have h3:St E.S E.w0 (C'++(jh w.heap.size (.deferred (some []))::F)) _:=j.take (List.sublist_cons_self _ _)
    rw [G] at h3
    refine h3.perm ?_
    exact (List.perm_append_comm).trans sm
   rcases hh with ⟨s,B,A2,⟨y,hy,rfl⟩,m⟩|⟨B,⟨c,z,hc,hz,rfl⟩,m⟩
   ·obtain ⟨M,V,O⟩:=hleave .ready none _ sm m
    exact ⟨none,M,V,fin w.heap.size s y A2 hy _ _ AA O⟩
   ·obtain ⟨M,V,O⟩:=hleave .done (some c) _ sm m
    refine ⟨some c,M,V,?_⟩
    rcases hc with rfl|⟨id,rfl⟩
    ·exact wpIn_ret (finr w.heap.size z hz _ _ AA O)
    ·exact wpIn_exit (finx w.heap.size id z hz _ _ AA O)
end
section
open Go.RowKit
/-- where a row lies, and its capacity -/
abbrev RA:=OA×Nat
/-- what is asked of memory by all elements -/
def bj {M A:Type} (f:M→A→List ax):List M→List A→List ax
 |m::ms,a::asl=>f m a++bj f ms asl
 |_,_=>[]
theorem bK {M A:Type} {f:M→A→List ax}: ∀ {ms:List M} {asl:List A} {k:Nat} {m:M} {a:A} {X:ax},ms[k]? =some m→asl[k]? =some a→X∈f m a→X∈bj f ms asl
 |[],_,k,m,a,X,h,_,_=>by simp at h
 |_::_,[],k,m,a,X,_,h,_=>by simp at h
 |x::ms,y::asl,0,m,a,X,h,h2,hX=>by
  simp at h h2; subst h h2
  exact List.mem_append_left _ hX
 |x::ms,y::asl,k+1,m,a,X,h,h2,hX=>List.mem_append_right _ (bK (ms:=ms) (asl:=asl) (k:=k) (by simpa using h) (by simpa using h2) hX)
theorem j5 {M A:Type} {f:M→A→List ax}: ∀ {ms:List M} {asl:List A} {X:ax},X∈bj f ms asl→ ∃ (k:Nat) (m:M) (a:A),ms[k]? =some m∧asl[k]? =some a∧X∈f m a
 |[],_,X,h=>by cases h
 |_::_,[],X,h=>by cases h
 |x::ms,y::asl,X,h=>by
  rcases gJ.1 h with h|h
  ·exact ⟨0,x,y,U,U,h⟩
  ·obtain ⟨k,m,a,B,C,D⟩:=j5 h
   exact ⟨k+1,m,a,by simpa using B,by simpa using C,D⟩
theorem jx {M A:Type} {f:M→A→List ax}: ∀ {ms:List M} {asl:List A} {ns:List M} {bs:List A},ms.length=asl.length→bj f (ms++ns) (asl++bs)=bj f ms asl++bj f ns bs
 |[],[],ns,bs,_=>rfl
 |[],_::_,ns,bs,h=>by simp at h
 |_::_,[],ns,bs,h=>by simp at h
 |x::ms,y::asl,ns,bs,h=>by
  simp only [List.cons_append,bj,List.append_assoc]
  rw [jx (by simpa using h)]
theorem dy {M A β:Type} {f:M→A→β} {ms:List M} {asl:List A} {k:Nat} {m:M} {a:A} (h:ms[k]? =some m) (h2:asl[k]? =some a):(List.zipWith f ms asl)[k]? =some (f m a):=by
 rw [List.getElem?_zipWith,h,h2]
theorem cO {C L:List ax} {A:ax} (i:Nat) (hC:C[i]? =some (dR L).ro) (hm:A∈L):iK C A.holds:=fun w hw=>hw _ (aR hC) A hm
theorem fT {M A:Type} {f g:M→A→List ax} {ms:List M} {asl:List A} {C:List ax} (i:Nat) (hC:C[i]? =some (bQ (bj g ms asl))) (h: ∀ m a w,(∀ X∈g m a,X.holds w)→ ∀ X∈f m a,X.holds w):iK C (dR (bj f ms asl)).holds:=fun w hw X hX=>by
 have hb:=hw _ (aR hC)
 obtain ⟨k,m,a,B,D,E⟩:=j5 hX
 exact h m a w (fun Y hY=>hb.1 Y (bK B D hY)) X E
/-- a row that is part of another one -/
theorem Nf {C:List ax} {A:OA} {n k sz:Nat} {es:List (List Value)} (hR:iK C (rd A n sz es).holds) (hk:k≤n):iK C (rd A k sz (es.take k)).holds:=fun w hw=>by
 obtain ⟨D,E,F⟩:=hR w hw
 refine ⟨by rw [List.length_take,D]; omega,fun x hx=>E x (List.mem_of_mem_take hx),fun hp=>?_⟩
 have G:0<k:=Nat.pos_of_mul_pos_right hp
 have hs:0<sz:=Nat.pos_of_mul_pos_left hp
 obtain ⟨ad,hA,B⟩:=F (Nat.mul_pos I hs)
 refine ⟨ad,hA,fun i e j v he hv=>B i e j v ?_ hv⟩
 rw [List.getElem?_take] at he
 split at he
 ·exact he
 ·cases he
section
variable {E:fg} {ops:Array Oper} {Q:dg} {rest:List Oper} {D:List Deferred} {L:List (Nat×Value)} {C:List ax}
variable {d:Nat} {ty:TypeId} {ps:String} {af:Array Edge} {g:Option (Nat×Bool)}
/-- an element of a slice that is the head of a row -/
theorem Ws (k:Nat) {x ix:Operand} {A:OA} {n n' c sz e t:Nat} {es:List (List Value)} {j:Int} (h:bF E.n ops L d g x ix=some (.slice A n' c,.int .i64 j)) (hR:iK C (rd A n sz es).holds)
 (ht:tE E.P t=some (e,sz)) (hz:0<sz) (hj:j=(k:Int)) (hk:k<n') (hn:n'≤n):SE E ops ⟨some d,.indexAddr t x ix,ty,ps,af,g⟩ D L C (.pointer (l7 A (k*sz))) d:=IA k h (Nf hR hn) ht hz hj hk
end
theorem St.tie {S:BS} {w0 w:World} {C:List ax} {A:ax} {L L':List ax} (h:St S w0 (A::bQ L::C) w) (e:L++[A]=L'):St S w0 (bQ L'::C) w:=by
 subst e
 have B:St S w0 (bQ L::A::C) w:=h.perm (List.Perm.swap _ _ _)
 have D:St S w0 (L++(A::C)) w:=B.iU
 have E:St S w0 ((L++[A])++C) w:=by simpa using D
 exact E.tied
theorem St.PB {S:BS} {w0 w:World} {C:List ax} (h:St S w0 C w):St S w0 (bQ []::C) w:=St.tied (C1:=[]) h
section
variable {E:fg} {Q:dg} {D:List Deferred} {L:List (Nat×Value)} {C:List ax}
theorem oc {c:Code} (h:WJ E c Q D L (bQ []::C)):WJ E c Q D L C:=fun a w hf hs=>h a w hf hs.PB
theorem sS {ops:Array Oper} {rest:List Oper} (h:RJ E ops Q rest D L (bQ []::C)):RJ E ops Q rest D L C:=fun a w hf hs=>h a w hf hs.PB
theorem xN {K:Act→World→Prop} {C1:List ax} {A:ax} {X X':List ax} (i j:Nat) (hn:decide (j::i::(List.range C.length).filter fun k=>k != i&&k != j).Nodup=true) (hC:ko C (j::i::(List.range C.length).filter fun k=>k != i&&k != j)=A::bQ X::C1) (e:X++[A]=X')
 (h:KJ E K D L (bQ X'::C1)):KJ E K D L C:=fun a w hf hs=>h a w hf ((St.ko _ hn hC hs).tie e)
theorem N2 {ops:Array Oper} {rest:List Oper} {C1:List ax} {A:ax} {X X':List ax} (i j:Nat) (hn:decide (j::i::(List.range C.length).filter fun k=>k != i&&k != j).Nodup=true) (hC:ko C (j::i::(List.range C.length).filter fun k=>k != i&&k != j)=A::bQ X::C1) (e:X++[A]=X')
 (h:RJ E ops Q rest D L (bQ X'::C1)):RJ E ops Q rest D L C:=fun a w hf hs=>h a w hf ((St.ko _ hn hC hs).tie e)
end
end
section
open Go.RowKit
abbrev jW:ag→Value:=fun s=>vA (ag.cells s)
abbrev eo:aI→Value:=fun s=>vA (aI.cells s)
abbrev TM:=List (Int×ag)
abbrev FM:=List (aI×Int)
def gD {α:Type} (m:α) (b:Nat):List Value:=[Value.map (some b)]
def qf (m:TM) (b:Nat):List ax:=[j1 iV b (cS jW m)]
def m6 (m:FM) (b:Nat):List ax:=[j1 eo b (cS iV m)]
theorem lB {M A:Type} {f:M→A→List ax}: ∀ (m:M) (a:A) (w:World),(∀ X∈f m a,X.holds w)→ ∀ X∈f m a,X.holds w:=fun _ _ _ h=>h
/-- untied -/
theorem EO {E:fg} {ops:Array Oper} {Q:dg} {rest:List Oper} {D:g9} {L:dw} {C X C1:List ax} (i:Nat) (hn:decide (i::(List.range C.length).filter fun k=>k != i).Nodup=true) (hC:ko C (i::(List.range C.length).filter fun k=>k != i)=bQ X::C1)
 (h:RJ E ops Q rest D L (X++C1)):RJ E ops Q rest D L C:=fun a w hf hs=>h a w hf (St.iU (St.ko _ hn hC hs))
end
section
def cT (ln:cv) (rd:cz) (e:List Int) (tms:List TM):bZ:=⟨rd.Start,rd.fR,e,tms,ln.dL,ln.fZ,(rd.aa.n:Int)⟩
def Oi (o:Int×ag):List Value:=[.int .i64 o.1,.agg (ag.cells o.2).toArray]
structure Hq (w:bZ):Prop where
 n:w.n≤6
 times:w.vM.length=w.n
 now:0≤w.Start∧w.Start≤w.fR∧w.fR≤86400000
 least: ∀ x∈w.qm,1≤x∧x≤500000000
 FV: ∀ t∈w.vM,∀ p∈t,(0≤p.1∧p.1≤10)∧0≤p.2.Lo∧p.2.Lo≤p.2.Hi∧p.2.Hi≤86400000
theorem Hq.opt {w:bZ} (h:Hq w) {b:Nat} {o:Int×ag} (ho:o∈iN w b):(-1≤o.1∧o.1≤10)∧0≤o.2.Lo∧o.2.Lo≤o.2.Hi∧o.2.Hi≤86400000:=by
 unfold iN tU at ho
 rcases bT.1 ho with rfl|ho
 ·have:=h.now; simp only; omega
 ·cases ht:w.vM[b]? with
  |none=>simp [ht] at ho
  |some t=>
   rw [ht] at ho
   have:=h.FV t (aR ht) o ho
   omega
theorem Hq.cg {w:bZ} (h:Hq w) (b:Nat):0≤cg w b∧cg w b≤500000000:=by
 unfold Go.Proofs.YtijpnoadncadoaaGreatDoor.cg
 cases ht:w.qm[b]? with
 |none=>simp
 |some x=>have:=h.least x (aR ht); simp only [Option.getD_some]; omega
theorem vw (s:Int):(0≤(fD s).right∧0≤(fD s).eT)∧(fD s).right+(fD s).eT=1:=by unfold fD; split<;>simp
theorem JM {w:bZ} (h:Hq w): ∀ (b:Nat) p,p∈fwd w b→(0≤p.2∧p.2≤86400000)∧(0≤p.1.right∧0≤p.1.eT)∧p.1.right+p.1.eT=(b:Int):=by
 intro b
 induction b with
 |zero=>
  intro p hp
  simp only [fwd,cq] at hp
  subst hp
  have:=h.now; simp only; omega
 |succ b ih=>
  intro q hq
  obtain ⟨p,hp,o,ho,e⟩:=gd.1 hq
  have A:=ih p hp
  have B:=h.opt ho
  have C:=h.cg b
  have D:=h.now
  have E:=vw o.1
  unfold kZ at e
  split at e
  ·simp only [Option.some.injEq] at e
   subst e
   simp only [dF]
   omega
  ·cases e
theorem SJ {w:bZ} (h:Hq w): ∀ (k:Nat) p,p∈bwd w k→(-(500000000*(k:Int))≤p.2∧p.2≤86400000)∧(0≤p.1.right∧0≤p.1.eT)∧p.1.right+p.1.eT≤(k:Int):=by
 intro k
 induction k with
 |zero=>
  intro p hp
  simp only [bwd,cq] at hp
  subst hp
  have:=h.now; simp only; omega
 |succ k ih=>
  intro q hq
  simp only [bwd,bT,List.mem_flatMap,List.mem_filterMap] at hq
  rcases hq with rfl|⟨p,hp,o,ho,e⟩
  ·have:=h.now; simp only; omega
  ·have A:=ih p hp
   have B:=h.opt ho
   have C:=h.cg (w.n-(k+1))
   have D:=h.now
   have E:=vw o.1
   unfold oi at e
   split at e
   ·simp only [Option.some.injEq] at e
    subst e
    simp only [dF]
    omega
   ·cases e
theorem IK {w:bZ} (h:Hq w) {b:Nat} {p:aI×Int} (hp:p∈back w b):(-3000000000≤p.2∧p.2≤86400000)∧(0≤p.1.right∧0≤p.1.eT)∧p.1.right+p.1.eT≤6:=by
 have:=SJ h _ _ hp
 have:=h.n
 omega
theorem wQ {w:bZ} {b:Nat} {t:TM} (ht:w.vM[b]? =some t) {o:Int×ag}:o∈iN w b↔o=(-1,⟨w.Start,w.fR⟩)∨o∈t:=by
 unfold iN tU; rw [ht]; simp
theorem l5 {K β:Type} [DecidableEq K] {l:List (K×β)} {x:K} {y:β} (hn:(l.map (·.1)).Nodup) (hm:(x,y)∈l) {o:K×β} (h:o∈l):o∈e9 l x∨o=(x,y):=by
 by_cases e:o.1=x
 ·right
  obtain ⟨k,v⟩:=o
  simp only at e
  subst e
  have B:=(lv hn).1 h
  have A:=(lv hn).1 hm
  rw [B] at A
  cases A; rfl
 ·exact .inl (zB.2 ⟨h,e⟩)
theorem Hl {K β:Type} [DecidableEq K] {t l ys:List (K×β)} {x:K} {y:β} (hn:(l.map (·.1)).Nodup) (hm:(x,y)∈l) (h: ∀ o∈t,o∈l∨o∈ys): ∀ o∈t,o∈e9 l x∨o∈ys++[(x,y)]:=fun o ho=>by
 rcases h o ho with h|h
 ·rcases l5 hn hm h with h|h
  ·exact .inl h
  ·exact .inr (by simp [h])
 ·exact .inr (by simp [h])
theorem mI {K β:Type} [DecidableEq K] {t l:List (K×β)} {x:K} (h: ∀ o∈l,o∈t): ∀ o∈e9 l x,o∈t:=fun o ho=>h o (zB.1 ho).1
theorem Ii {w:bZ} {m left:List (aI×Int)} (h: ∀ p∈m,p∈left∨kM w p.1=false) (h0:left=[]):jC w m=false:=by
 unfold jC
 rw [List.any_eq_false]
 intro p hp
 rcases h p hp with q|q
 ·rw [h0] at q; cases q
 ·simp [q]
theorem M9 {w:bZ} {m:List (aI×Int)} {p:aI×Int} (hp:p∈m) (h:kM w p.1=true):jC w m=true:=List.any_eq_true.2 ⟨p,hp,h⟩
theorem Ln {w:bZ} {m left:List (aI×Int)} {t:aI} {v:Int} (hn:(left.map (·.1)).Nodup) (hm:(t,v)∈left) (h: ∀ p∈m,p∈left∨kM w p.1=false) (hf:kM w t=false): ∀ p∈m,p∈e9 left t∨kM w p.1=false:=fun p hp=>by
 rcases h p hp with q|q
 ·rcases l5 hn hm q with q|q
  ·exact .inl q
  ·right; rw [q]; exact hf
 ·exact .inr q
/-- what the maps of a watch are -/
structure vV (w:bZ) (fs:List (List (aI×Int))):Prop where
 len:fs.length=w.n+1
 min: ∀ (b:Nat) m,fs[b]? =some m→tR m (fwd w b)
 keys: ∀ (b:Nat) m,fs[b]? =some m→(m.map (·.1)).Nodup
structure s_ (w:bZ) (bs:List (List (aI×Int))):Prop where
 len:bs.length=w.n+1
 max: ∀ (b:Nat) m,bs[b]? =some m→v8 m (back w b)
 keys: ∀ (b:Nat) m,bs[b]? =some m→(m.map (·.1)).Nodup
theorem vV.mem {w:bZ} {fs:List (List (aI×Int))} (h:vV w fs) {b:Nat} {m:List (aI×Int)} (hm:fs[b]? =some m) {p:aI×Int} (hp:p∈m):p∈fwd w b:=(h.min b m hm).1 _ _ ((fO (h.keys b m hm)).1 hp)
theorem s_.mem {w:bZ} {fs:List (List (aI×Int))} (h:s_ w fs) {b:Nat} {m:List (aI×Int)} (hm:fs[b]? =some m) {p:aI×Int} (hp:p∈m):p∈back w b:=(h.max b m hm).1 _ _ ((fO (h.keys b m hm)).1 hp)
theorem HP {w:bZ} {b:Nat} {t l ys:List (Int×ag)} (ht:w.vM[b]? =some t) (h: ∀ o∈t,o∈l∨o∈ys) (h0:l=[]) (hs:(-1,(⟨w.Start,w.fR⟩:ag))∈ys): ∀ o∈iN w b,o∈ys:=fun o ho=>by
 rcases (wQ ht).1 ho with rfl|ho
 ·exact hs
 ·rcases h o ho with q|q
  ·rw [h0] at q; cases q
  ·exact q
end
section
/-- by these options all is yielded -/
def lW (w:bZ) (b:Nat) (mf mb:List (aI×Int)) (os ys:List (Int×ag)):Prop:= ∀ o∈os,∀ p∈mf,∀ u∈mb,∀ q,mQ w b p u o=some q→q∈ys
def nU (w:bZ) (b:Nat) (mf mb:List (aI×Int)) (o:Int×ag) (left:List (aI×Int)) (ys:List (Int×ag)):Prop:= ∀ p∈mf,p∈left∨ ∀ u∈mb,∀ q,mQ w b p u o=some q→q∈ys
def n7 (w:bZ) (b:Nat) (mb:List (aI×Int)) (o:Int×ag) (p:aI×Int) (left:List (aI×Int)) (ys:List (Int×ag)):Prop:= ∀ u∈mb,u∈left∨ ∀ q,mQ w b p u o=some q→q∈ys
variable {w:bZ} {b:Nat} {mf mb left:List (aI×Int)} {o x:Int×ag} {os ys:List (Int×ag)} {p u:aI×Int}
theorem lW.nil:lW w b mf mb [] ys:=fun o ho=>by cases ho
theorem lW.app (h:lW w b mf mb os ys):lW w b mf mb os (ys++[x]):=fun o ho p hp u hu q e=>List.mem_append_left _ (h o ho p hp u hu q e)
theorem nU.app (h:nU w b mf mb o left ys):nU w b mf mb o left (ys++[x]):=fun p hp=>(h p hp).imp id fun h u hu q e=>List.mem_append_left _ (h u hu q e)
theorem nU.start:nU w b mf mb o mf ys:=fun p hp=> .inl hp
theorem n7.start:n7 w b mb o p mb ys:=fun p hp=> .inl hp
theorem n7.skip {t:aI} {v:Int} (hn:(left.map (·.1)).Nodup) (hm:(t,v)∈left) (h:n7 w b mb o p left ys) (he:mQ w b p (t,v) o=none):n7 w b mb o p (e9 left t) ys:=fun u hu=>by
 rcases h u hu with q|q
 ·rcases l5 hn hm q with q|q
  ·exact .inl q
  ·right; intro z hz; rw [q,he] at hz; cases hz
 ·exact .inr q
theorem n7.VR {t:aI} {v:Int} (hn:(left.map (·.1)).Nodup) (hm:(t,v)∈left) (h:n7 w b mb o p left ys) (he:mQ w b p (t,v) o=some x):n7 w b mb o p (e9 left t) (ys++[x]):=fun u hu=>by
 rcases h u hu with q|q
 ·rcases l5 hn hm q with q|q
  ·exact .inl q
  ·right; intro z hz; rw [q,he] at hz; cases hz; simp
 ·right; intro z hz; exact List.mem_append_left _ (q z hz)
theorem nU.next {t:aI} {v:Int} {l2:List (aI×Int)} (hn:(left.map (·.1)).Nodup) (hm:(t,v)∈left) (h:nU w b mf mb o left ys) (hq:n7 w b mb o (t,v) l2 ys) (h0:l2=[]):nU w b mf mb o (e9 left t) ys:=fun p hp=>by
 rcases h p hp with q|q
 ·rcases l5 hn hm q with q|q
  ·exact .inl q
  ·right; intro u hu z hz; subst q
   rcases hq u hu with q|q
   ·rw [h0] at q; cases q
   ·exact q z hz
 ·exact .inr q
theorem lW.next (h:lW w b mf mb os ys) (hp:nU w b mf mb o left ys) (h0:left=[]):lW w b mf mb (os++[o]) ys:=fun o' ho p hp' u hu q e=>by
 rcases gJ.1 ho with ho|ho
 ·exact h o' ho p hp' u hu q e
 ·simp only [cq] at ho; subst ho
  rcases hp p hp' with z|z
  ·rw [h0] at z; cases z
  ·exact z u hu q e
theorem lW.fin (h:lW w b mf mb os ys) (ho: ∀ o∈iN w b,o∈os): ∀ q∈qq w b mf mb,q∈ys:=fun q hq=>by
 obtain ⟨o,A,p,B,u,C,e⟩:=iA.1 hq
 exact h o (ho o A) p B u C q e
theorem Gh (h:max (p.2+cg w b) o.2.Lo≤min u.2 o.2.Hi) (h2:kM w (dF (dF p.1 u.1) (fD o.1))=true):mQ w b p u o=some (o.1,⟨max (p.2+cg w b) o.2.Lo,min u.2 o.2.Hi⟩):=by
 unfold mQ jF xh; rw [if_pos ⟨h,h2⟩]
theorem KX (h: ¬ max (p.2+cg w b) o.2.Lo≤min u.2 o.2.Hi):mQ w b p u o=none:=by
 unfold mQ jF; rw [if_neg (fun q=>h q.1)]
theorem Gu (h2:kM w (dF (dF p.1 u.1) (fD o.1))=false):mQ w b p u o=none:=by
 unfold mQ xh; rw [if_neg (fun q=>by rw [h2] at q; exact absurd q.2 dc)]
theorem ob {v:Int} (h:w.qm[b]? =some v):cg w b=v:=by unfold cg; rw [h]; rfl
theorem Cf {t q:aI} {v z y:Int} (hy:w.qm[b]? =some y) (h:max (v+y) o.2.Lo≤min z o.2.Hi) (h2:kM w (dF (dF t q) (fD o.1))=true):mQ w b (t,v) (q,z) o=some (o.1,⟨max (v+y) o.2.Lo,min z o.2.Hi⟩):=by
 have e:=ob hy
 subst e
 exact Gh h h2
theorem G1 {t q:aI} {v z y:Int} (hy:w.qm[b]? =some y) (h: ¬ max (v+y) o.2.Lo≤min z o.2.Hi):mQ w b (t,v) (q,z) o=none:=by
 have e:=ob hy
 subst e
 exact KX h
theorem ov {m:List (aI×Int)} {k:aI} {y:Int} (h:(m.map (·.1)).Nodup):((ed m k y).map (·.1)).Nodup:=by
 unfold ed
 by_cases hx:(m.lookup k).isSome
 ·rw [if_pos hx,List.map_map]
  have e:m.map ((fun p=>p.1)∘fun p=>if p.1=k then (k,y) else p)=m.map (·.1):=by
   apply List.map_congr_left
   intro p _
   simp only [Function.comp]
   split
   ·rename_i e; exact e.symm
   ·rfl
  rw [e]; exact h
 ·rw [if_neg hx,List.map_append,List.nodup_append]
  refine ⟨h,sm,?_⟩
  intro a ha c hc
  simp only [List.map_cons,List.map_nil,cq] at hc
  rw [hc]
  obtain ⟨p,hp,rfl⟩:=cE.1 ha
  have hn:m.lookup k=none:=by cases h0:m.lookup k with
   |none=>rfl
   |some v=>exact absurd (by rw [h0]; rfl) hx
  exact iu.1 hn p hp
theorem BL {m:List (aI×Int)} {q:aI×Int} (h:(m.map (·.1)).Nodup):((pD m q).map (·.1)).Nodup:=by
 unfold pD; split
 ·exact ov h
 ·split
  ·exact ov h
  ·exact h
theorem Cy {m:List (aI×Int)} {q:aI×Int} (h:(m.map (·.1)).Nodup):((pz m q).map (·.1)).Nodup:=by
 unfold pz; split
 ·exact ov h
 ·split
  ·exact ov h
  ·exact h
/-- a map of the first times, on its way -/
structure xd (w:bZ) (b:Nat) (m:List (aI×Int)):Prop where
 snd:vE m (fwd w (b+1))
 keys:(m.map (·.1)).Nodup
structure we (w:bZ) (b:Nat) (m:List (aI×Int)):Prop where
 snd:vE m (back w b)
 keys:(m.map (·.1)).Nodup
 zero: ∃ v,m.lookup ⟨0,0⟩=some v∧w.fR≤v
theorem H6 (h:max (p.2+cg w b) o.2.Lo≤min o.2.Hi w.fR):kZ w b p o=some (dF p.1 (fD o.1),max (p.2+cg w b) o.2.Lo):=by unfold kZ; rw [if_pos h]
theorem LQ (h: ¬ max (p.2+cg w b) o.2.Lo≤min o.2.Hi w.fR):kZ w b p o=none:=by unfold kZ; rw [if_neg h]
theorem JX (h:o.2.Lo≤min p.2 o.2.Hi):oi w b p o=some (dF p.1 (fD o.1),min p.2 o.2.Hi-cg w b):=by unfold oi; rw [if_pos h]
theorem Me (h: ¬ o.2.Lo≤min p.2 o.2.Hi):oi w b p o=none:=by unfold oi; rw [if_neg h]
theorem xd.start:xd w b []:=⟨fun t v h=>by simp at h,List.nodup_nil⟩
theorem xd.add {m:List (aI×Int)} {q:aI×Int} (h:xd w b m) (hp:p∈fwd w b) (ho:o∈iN w b) (he:kZ w b p o=some q):xd w b (pD m q):=⟨Gl h.snd (gd.2 ⟨p,hp,o,ho,he⟩),BL h.keys⟩
theorem we.start (hb:b<w.n):we w b [(⟨0,0⟩,w.fR)]:=⟨fun t v h=>by
 obtain ⟨rfl,rfl⟩:=o_.1 h
 exact (pB hb).2 (.inl U),sm,w.fR,o_.2 ⟨U,U⟩,Int.le_refl _⟩
theorem we.add {m:List (aI×Int)} {q:aI×Int} (hb:b<w.n) (h:we w b m) (hp:p∈back w (b+1)) (ho:o∈iN w b) (he:oi w b p o=some q):we w b (pz m q):=⟨HC h.snd ((pB hb).2 (.inr ⟨p,hp,o,ho,he⟩)),Cy h.keys,by
 obtain ⟨v,A,C⟩:=h.zero
 obtain ⟨v',B,D⟩:=q_ (q:=q) _ _ A
 exact ⟨v',B,I⟩⟩
theorem jt.none_ {m:List (aI×Int)} (h:jt w b m p os) (he:kZ w b p o=none):jt w b m p (os++[o]):=h.add (xA.refl _) fun q hq=>by rw [he] at hq; cases hq
theorem jt.Km {m:List (aI×Int)} {q:aI×Int} (h:jt w b m p os) (he:kZ w b p o=some q):jt w b (pD m q) p (os++[o]):=h.add v7 fun q' hq=>by rw [he] at hq; cases hq; exact HK
theorem jo.none_ {m:List (aI×Int)} (h:jo w b m p os) (he:oi w b p o=none):jo w b m p (os++[o]):=h.add (xJ.refl _) fun q hq=>by rw [he] at hq; cases hq
theorem jo.Km {m:List (aI×Int)} {q:aI×Int} (h:jo w b m p os) (he:oi w b p o=some q):jo w b (pz m q) p (os++[o]):=h.add q_ fun q' hq=>by rw [he] at hq; cases hq; exact GP
/-- what of a map of the beam before is used already -/
def kg (w:bZ) (b:Nat) (mb m left:List (aI×Int)):Prop:= ∀ p∈mb,p∈left∨jt w b m p (iN w b)
def jQ (w:bZ) (b:Nat) (mb m left:List (aI×Int)):Prop:= ∀ p∈mb,p∈left∨jo w b m p (iN w b)
theorem kg.start {m:List (aI×Int)}:kg w b mb m mb:=fun p hp=> .inl hp
theorem jQ.start {m:List (aI×Int)}:jQ w b mb m mb:=fun p hp=> .inl hp
theorem kg.lower {m m':List (aI×Int)} (h:kg w b mb m left) (hl:xA m m'):kg w b mb m' left:=fun p hp=>(h p hp).imp id fun h=>h.lower hl
theorem jQ.upper {m m':List (aI×Int)} (h:jQ w b mb m left) (hl:xJ m m'):jQ w b mb m' left:=fun p hp=>(h p hp).imp id fun h=>h.upper hl
theorem kg.next {m:List (aI×Int)} {t:aI} {v:Int} (hn:(left.map (·.1)).Nodup) (hm:(t,v)∈left) (h:kg w b mb m left) (hd:jt w b m (t,v) os) (ho: ∀ o∈iN w b,o∈os):kg w b mb m (e9 left t):=fun p hp=>by
 rcases h p hp with q|q
 ·rcases l5 hn hm q with q|q
  ·exact .inl q
  ·right; rw [q]; exact hd.sub ho
 ·exact .inr q
theorem jQ.next {m:List (aI×Int)} {t:aI} {v:Int} (hn:(left.map (·.1)).Nodup) (hm:(t,v)∈left) (h:jQ w b mb m left) (hd:jo w b m (t,v) os) (ho: ∀ o∈iN w b,o∈os):jQ w b mb m (e9 left t):=fun p hp=>by
 rcases h p hp with q|q
 ·rcases l5 hn hm q with q|q
  ·exact .inl q
  ·right; rw [q]; exact hd.sub ho
 ·exact .inr q
theorem kg.fin {m:List (aI×Int)} (h:kg w b mb m left) (h0:left=[]): ∀ p∈mb,jt w b m p (iN w b):=fun p hp=>by
 rcases h p hp with q|q
 ·rw [h0] at q; cases q
 ·exact q
theorem jQ.fin {m:List (aI×Int)} (h:jQ w b mb m left) (h0:left=[]): ∀ p∈mb,jo w b m p (iN w b):=fun p hp=>by
 rcases h p hp with q|q
 ·rw [h0] at q; cases q
 ·exact q
end
section
def mO (a b:ag):ag:=⟨a.Lo+b.Lo,a.Hi+b.Hi⟩
def gP:ag:=⟨0,0⟩
def kQ (a:ag) (l:List ag):ag:=l.foldl mO a
def lV (z:ag):Prop:=(-1000000000≤z.Lo∧z.Lo≤1000000000)∧ -1000000000≤z.Hi∧z.Hi≤1000000000
theorem zA {a:ag} {l:List ag} {i:Nat} {z:ag} (h:l[i]? =some z):kQ a (l.take (i+1))=mO (kQ a (l.take i)) z:=by
 rw [List.take_add_one,h]; unfold kQ; simp
theorem Qu {a:ag} {l:List ag} (ha:lV a) (hl: ∀ z∈l,lV z): ∀ i:Nat,(-1000000000-1000000000*(i:Int)≤(kQ a (l.take i)).Lo∧(kQ a (l.take i)).Lo≤1000000000+1000000000*(i:Int))∧ -1000000000-1000000000*(i:Int)≤(kQ a (l.take i)).Hi∧(kQ a (l.take i)).Hi≤1000000000+1000000000*(i:Int):=by
 intro i
 induction i with
 |zero=>unfold lV at ha; simp [kQ]; omega
 |succ i ih=>
  cases h:l[i]? with
  |none=>rw [List.take_add_one,h]; simp only [Option.toList_none,List.append_nil]; omega
  |some z=>
   have hz:=hl z (aR h)
   unfold lV at hz
   rw [zA h]
   simp only [mO]
   omega
theorem Ic {a:ag} {l:List ag} {i:Nat} (h:l.length≤i):kQ a (l.take i)=kQ a l:=by rw [List.take_of_length_le h]
theorem nP {a z:ag}:vA (ag.cells (kQ a [z]))=vA (ag.cells (mO a z)):=rfl
theorem CB {a y z:ag}:vA (ag.cells (kQ a [y,z]))=vA (ag.cells (mO (mO a y) z)):=rfl
/-- how long the run is from one mark, over so many stretches; by how much it falls -/
def eE (ts:List ao) (f:Nat):Nat→ag
 |0=>gP
 |k+1=>match ts[f+k]? with
  |some x=>mO (eE ts f k) x.kP
  |none=>eE ts f k
def gL (ts:List ao) (f:Nat):Nat→ag
 |0=>gP
 |k+1=>match ts[f+k]? with
  |some x=>mO (gL ts f k) x.l6
  |none=>gL ts f k
theorem pI {ts:List ao} {f k:Nat} {x:ao} (h:ts[f+k]? =some x):eE ts f (k+1)=mO (eE ts f k) x.kP:=by simp [eE,h]
theorem p9 {ts:List ao} {f k:Nat} {x:ao} (h:ts[f+k]? =some x):gL ts f (k+1)=mO (gL ts f k) x.l6:=by simp [gL,h]
theorem mC {ts:List ao} (ht: ∀ x∈ts,bV x) (f:Nat): ∀ k:Nat,(0≤(eE ts f k).Lo∧(eE ts f k).Lo≤(eE ts f k).Hi)∧(eE ts f k).Hi≤30000*(k:Int):=by
 intro k
 induction k with
 |zero=>simp [eE,gP]
 |succ k ih=>
  simp only [eE]
  cases h:ts[f+k]? with
  |none=>simp only; omega
  |some x=>
   have hx:=(ht x (aR h)).2.1
   simp only [dZ] at hx
   simp only [mO]
   omega
theorem Fk {ts:List ao} (ht: ∀ x∈ts,bV x) (f:Nat): ∀ k:Nat,(0≤(gL ts f k).Lo∧(gL ts f k).Lo≤(gL ts f k).Hi)∧(gL ts f k).Hi≤5000*(k:Int):=by
 intro k
 induction k with
 |zero=>simp [gL,gP]
 |succ k ih=>
  simp only [gL]
  cases h:ts[f+k]? with
  |none=>simp only; omega
  |some x=>
   have hx:=(ht x (aR h)).2.2.1
   simp only [dZ] at hx
   simp only [mO]
   omega
theorem qR {ts:List ao} (ht: ∀ x∈ts,bV x) {f k:Nat} (hk:k≤13):lV (eE ts f k):=by
 have:=mC ht f k; unfold lV; omega
theorem xC {ts:List ao} (ht: ∀ x∈ts,bV x) {f k:Nat} (hk:k≤13):lV (gL ts f k):=by
 have:=Fk ht f k; unfold lV; omega
theorem uP {x:ao} (h:bV x):lV x.kP:=by have:=h.2.1; simp only [dZ] at this; unfold lV; omega
theorem u0 {x:ao} (h:bV x):lV x.l6:=by have:=h.2.2.1; simp only [dZ] at this; unfold lV; omega
theorem yR {ts:List ao} (h: ¬ (if di ts=true then (0:Int) else 10)=0):di ts=false∧(if di ts=true then (0:Int) else 10)=10:=by
 cases ht:di ts with
 |true=>rw [ht] at h; exact absurd rfl h
 |false=>exact ⟨rfl,rfl⟩
theorem Dj {ts:List ao} (h:(if di ts=true then (0:Int) else 10)=0):di ts=true:=by
 cases ht:di ts with
 |true=>rfl
 |false=>rw [ht] at h; exact absurd h dc
/-- what the iterator of marks yields -/
def t_ (ts:List ao) (f:Nat):List (List Value):=(List.range (ts.length-f+1)).map fun (k:Nat)=>[.agg (eE ts f k).cells.toArray,.agg (gL ts f k).cells.toArray]
theorem uf {ts:List ao} {f:Nat}:(t_ ts f).length=ts.length-f+1:=by simp [t_]
theorem yP {ts:List ao} {f k:Nat} (h:k≤ts.length-f):(t_ ts f)[k]? =some [.agg (eE ts f k).cells.toArray,.agg (gL ts f k).cells.toArray]:=by
 simp [t_,List.getElem?_range (show k<ts.length-f+1 by omega)]
theorem Gt {ts:List ao} {f k:Nat} {x:List Value} (h:(t_ ts f)[k]? =some x):k≤ts.length-f∧x=[.agg (eE ts f k).cells.toArray,.agg (gL ts f k).cells.toArray]:=by
 have hi:k<ts.length-f+1:=by
  have:=(aW.1 h).1
  simpa [t_] using this
 rw [yP I] at h
 exact ⟨I,(Option.some.inj h).symm⟩
theorem Dk {ts:List ao} {f:Nat}: ∀ x∈t_ ts f,x.length=2:=fun x hx=>by
 obtain ⟨k,_,rfl⟩:=cE.1 hx; rfl
end
section
def fH (ts:List ao) (s:cH):Prop:=(0≤s.bx∧s.bx<(ts.length:Int))∧ ∃ x,ts[s.bx.toNat]? =some x∧dZ s.mS 0 (x.kP.Lo-1)
noncomputable instance (ts:List ao) (s:cH):Decidable (fH ts s):=Classical.propDecidable _
theorem Cb {ts:List ao} {s:cH} {x:ao} (h:0≤s.bx∧s.bx<(ts.length:Int)) (hx:ts[s.bx.toNat]? =some x):fH ts s↔dZ s.mS 0 (x.kP.Lo-1):=
 ⟨fun A=>by obtain ⟨y,hy,B⟩:=A.2; rw [hx] at hy; cases hy; exact B,fun A=>⟨h,x,hx,A⟩⟩
theorem BR {ts:List ao} {s:cH} (h: ¬ (0≤s.bx∧s.bx<(ts.length:Int))): ¬ fH ts s:=fun A=>h A.1
theorem Ad {ts:List ao} {s:cH} (ht: ∀ x∈ts,bV x) (h:fH ts s):(0≤s.mS.Lo∧s.mS.Lo≤s.mS.Hi)∧s.mS.Hi≤30000:=by
 obtain ⟨x,hx,A⟩:=h.2
 have:=(ht x (aR hx)).2.1
 simp only [dZ] at A this
 omega
theorem C8 {ts:List ao} {a:cH}:vB (decide (∀ s∈[a],fH ts s))=vB (decide (fH ts a)):=congrArg _ (gR.2 sm)
theorem Ej {ts:List ao} {a b:cH}:vB (decide (∀ s∈[a,b],fH ts s))=vB (decide (fH ts a∧fH ts b)):=congrArg _ (gR.2 sm)
def oJ (z:ag):ag:=⟨-z.Hi,-z.Lo⟩
def Lz (ts:List ao) (s:cH):ag:=mO (eE ts 0 s.bx.toNat) s.mS
noncomputable def Fy (ts:List ao) (s:cH):Int:=if di ts=true then (if fH ts s then 0 else 12) else 10
noncomputable def Qh (ts:List ao) (s:cH):ag:=if Fy ts s=0 then Lz ts s else gP
theorem I4 {ts:List ao} {s:cH} (h:di ts=false):Fy ts s=10∧Qh ts s=gP:=by
 have e:Fy ts s=10:=by unfold Fy; rw [h]; rfl
 exact ⟨e,by unfold Qh; rw [e]; rfl⟩
theorem Kg {ts:List ao} {s:cH} (h:di ts=true) (h2: ¬ fH ts s):Fy ts s=12∧Qh ts s=gP:=by
 have e:Fy ts s=12:=by unfold Fy; rw [if_pos h,if_neg h2]
 exact ⟨e,by unfold Qh; rw [e]; rfl⟩
theorem xW {ts:List ao} {s:cH} (h:di ts=true) (h2:fH ts s):Fy ts s=0∧Qh ts s=Lz ts s:=by
 have e:Fy ts s=0:=by unfold Fy; rw [if_pos h,if_pos h2]
 exact ⟨e,if_pos e⟩
theorem FJ {ts:List ao} {s:cH} (h:di ts=true):Fy ts s=0↔fH ts s:=by
 unfold Fy; rw [if_pos h]; split<;>simp [*]
def wS (ts:List ao) (a b:cH):ag:=eE ts (min a.bx b.bx).toNat (max a.bx b.bx-min a.bx b.bx).toNat
def j3 (ts:List ao) (a b:cH):ag:=mO (mO (if b.bx<a.bx then oJ (wS ts a b) else wS ts a b) b.mS) (oJ a.mS)
noncomputable def mw (ts:List ao) (a b:cH):Int:=if di ts=true then (if fH ts a∧fH ts b then 0 else 12) else 10
noncomputable def lf (ts:List ao) (a b:cH):ag:=if mw ts a b=0 then j3 ts a b else gP
theorem u3 {ts:List ao} {a b:cH} (h:di ts=false):mw ts a b=10∧lf ts a b=gP:=by
 have e:mw ts a b=10:=by unfold mw; rw [h]; rfl
 exact ⟨e,by unfold lf; rw [e]; rfl⟩
theorem o8 {ts:List ao} {a b:cH} (h:di ts=true) (h2: ¬ (fH ts a∧fH ts b)):mw ts a b=12∧lf ts a b=gP:=by
 have e:mw ts a b=12:=by unfold mw; rw [if_pos h,if_neg h2]
 exact ⟨e,by unfold lf; rw [e]; rfl⟩
theorem lP {ts:List ao} {a b:cH} (h:di ts=true) (h2:fH ts a∧fH ts b):mw ts a b=0∧lf ts a b=j3 ts a b:=by
 have e:mw ts a b=0:=by unfold mw; rw [if_pos h,if_pos h2]
 exact ⟨e,if_pos e⟩
theorem Ae {z:ag} (h:lV z):lV (oJ z):=by unfold lV oJ at *; simp only; omega
theorem qS {ts:List ao} {s:cH} (ht: ∀ x∈ts,bV x) (h:fH ts s):lV s.mS:=by have:=Ad ht h; unfold lV; omega
theorem Qi {ts:List ao} {a b:cH} (ht: ∀ x∈ts,bV x) (hl:ts.length≤12) (ha:fH ts a) (hb:fH ts b):(0≤(wS ts a b).Lo∧(wS ts a b).Lo≤(wS ts a b).Hi)∧(wS ts a b).Hi≤360000:=by
 have h:=mC ht (min a.bx b.bx).toNat (max a.bx b.bx-min a.bx b.bx).toNat
 have A:=ha.1
 have B:=hb.1
 unfold wS
 omega
theorem wR {ts:List ao} {a b:cH} (ht: ∀ x∈ts,bV x) (hl:ts.length≤12) (ha:fH ts a) (hb:fH ts b):(-400000≤(j3 ts a b).Lo∧(j3 ts a b).Lo≤(j3 ts a b).Hi)∧(j3 ts a b).Hi≤400000:=by
 have h:=Qi ht hl ha hb
 have A:=Ad ht ha
 have B:=Ad ht hb
 unfold j3 mO oJ
 split<;>simp only <;>omega
theorem Q8 {ts:List ao} {s:cH} (ht: ∀ x∈ts,bV x) (hl:ts.length≤12) (h:fH ts s):(0≤(Lz ts s).Lo∧(Lz ts s).Lo≤(Lz ts s).Hi)∧(Lz ts s).Hi≤400000:=by
 have A:=mC ht 0 s.bx.toNat
 have B:=Ad ht h
 have C:=h.1
 unfold Lz mO
 simp only; omega
theorem Gb {α:Type} {p:Nat→α→Bool} {l:List α}:((l.zipIdx.filter fun q=>p q.2 q.1).map fun q=>(q.2:Int))=[]↔ ∀ (i:Nat) x,l[i]? =some x→p i x=false:=by
 rw [List.map_eq_nil_iff,List.filter_eq_nil_iff]
 constructor
 ·intro h i x hx
  have:=h (x,i) (by rw [List.mem_zipIdx_iff_getElem?]; simpa using hx)
  simpa using this
 ·rintro h ⟨x,i⟩ hm
  rw [List.mem_zipIdx_iff_getElem?] at hm
  simpa using h i x (by simpa using hm)
/-- the places of a list at which something is so -/
def sT {α:Type} (p:Nat→α→Bool) (l:List α) (n:Nat):List Int:=(((l.take n).zipIdx.filter fun q=>p q.2 q.1).map fun q=>(q.2:Int))
theorem Jv {α:Type} {p:Nat→α→Bool} {l:List α} {i:Nat} {x:α} (hx:l[i]? =some x) (h:p i x=true):sT p l (i+1)=sT p l i++[(i:Int)]:=by
 have hi:=(aW.1 hx).1
 unfold sT
 rw [List.take_add_one,hx,List.zipIdx_append,List.filter_append,List.map_append]
 simp [Nat.min_eq_left (Nat.le_of_lt hi),h]
theorem Nv {α:Type} {p:Nat→α→Bool} {l:List α} {i:Nat} {x:α} (hx:l[i]? =some x) (h:p i x=false):sT p l (i+1)=sT p l i:=by
 have hi:=(aW.1 hx).1
 unfold sT
 rw [List.take_add_one,hx,List.zipIdx_append,List.filter_append,List.map_append]
 simp [Nat.min_eq_left (Nat.le_of_lt hi),h]
theorem CN {α:Type} {p:Nat→α→Bool} {l:List α} {n:Nat}:(sT p l n).length≤n:=by
 unfold sT
 rw [List.length_map]
 refine Nat.le_trans (List.length_filter_le _ _) ?_
 rw [List.length_zipIdx,List.length_take]; omega
def JI {α:Type} (p:Nat→α→Bool) (l:List α):List Int:=sT p l l.length
theorem Mw {α:Type} {p:Nat→α→Bool} {l:List α} {n:Nat} (h:n=l.length):sT p l n=JI p l:=by rw [h]; rfl
theorem Hb {α:Type} {p:Nat→α→Bool} {l:List α}:(JI p l).length=0↔ ∀ (i:Nat) x,l[i]? =some x→p i x=false:=by
 unfold JI sT
 rw [List.length_eq_zero_iff,List.take_length]
 exact Gb
end
section
theorem zn (p:Int→Bool) (n:Nat): ∃ r:Int,r=((List.range n).findIdx fun (k:Nat)=>p (k:Int):Nat):=⟨_,rfl⟩
noncomputable def fI (p:Int→Bool) (n:Nat):Int:=Classical.choose (zn p n)
theorem s7 (p:Int→Bool) (n:Nat):fI p n=((List.range n).findIdx fun (k:Nat)=>p (k:Int):Nat):=Classical.choose_spec (zn p n)
theorem iG {p:Int→Bool} {n:Nat}:0≤fI p n∧fI p n≤n:=by
 rw [s7]
 have:=List.findIdx_le_length (xs:=List.range n) (p:=fun (k:Nat)=>p (k:Int))
 rw [List.length_range] at this
 omega
theorem vo {p:Int→Bool} {n:Nat} {x:Int} (h0:0≤x) (h:x<fI p n):p x=false:=by
 have hb:=iG (p:=p) (n:=n)
 rw [s7] at h
 have B:x.toNat<(List.range n).findIdx fun (k:Nat)=>p (k:Int):=by omega
 have A:=List.not_of_lt_findIdx B
 simp only [List.getElem_range] at A
 rw [show (x.toNat:Int)=x by omega] at A
 simpa using A
theorem ze {p:Int→Bool} {n:Nat} (h:fI p n<n):p (fI p n)=true:=by
 rw [s7] at h ⊢
 have A:((List.range n).findIdx fun (k:Nat)=>p (k:Int))<(List.range n).length:=by rw [List.length_range]; omega
 have:=List.findIdx_getElem (w:=A)
 simpa using this
theorem zl {p:Int→Bool} {n:Nat} {r:Int} (h0:0≤r) (hn:r<n) (hr:p r=true) (hb: ∀ x,0≤x→x<r→p x=false):fI p n=r:=by
 have A:=iG (p:=p) (n:=n)
 rcases Int.lt_trichotomy (fI p n) r with h|h|h
 ·have:=hb _ A.1 h
  have e:=ze (p:=p) (n:=n) I
  rw [e] at this; cases this
 ·exact h
 ·have:=vo h0 h
  rw [hr] at this; cases this
end
section
def oZ (n by_:Int):Int:=(n+by_-1)/by_
/-- by how much a sync may be off -/
def tv (c:aw) (at_:Int) (x:cQ):Int:=oZ (c.dC*max (at_-x.At) (x.At-at_)) 1000000
def mh (c:aw) (at_:Int) (s:ag) (x:cQ):ag:=⟨max s.Lo (x.eB.Lo-tv c at_ x),min s.Hi (x.eB.Hi+tv c at_ x)⟩
def gO (c:aw) (at_:Int) (k:Nat):ag:=(c.bI.take k).foldl (mh c at_) ⟨-1099511627776,1099511627776⟩
def iF (c:aw) (at_:Int):ag:=c.bI.foldl (mh c at_) ⟨-1099511627776,1099511627776⟩
theorem kb {c:aw} {at_:Int} {k:Nat} {x:cQ} (h:c.bI[k]? =some x):gO c at_ (k+1)=mh c at_ (gO c at_ k) x:=by
 unfold gO; rw [List.take_add_one,h,List.foldl_append]; rfl
theorem nF {c:aw} {at_:Int} {k:Nat} (h:c.bI.length≤k):gO c at_ k=iF c at_:=by unfold gO iF; rw [List.take_of_length_le h]
def kG (c:aw) (i:Nat):Int:=if i=0 then-1 else ((c.bI[i-1]?).map (·.At)).getD 0
def fJ (c:aw) (i:Nat) (x:cQ):Prop:=(kG c i<x.At∧x.At≤86400000)∧ -10000≤x.eB.Lo∧x.eB.Lo≤x.eB.Hi∧x.eB.Hi≤10000
def nS (c:aw) (x o:cQ):Prop:=x.eB.Lo-o.eB.Hi≤oZ (c.dC*(x.At-o.At)) 1000000∧o.eB.Lo-x.eB.Hi≤oZ (c.dC*(x.At-o.At)) 1000000
structure e8 (c:aw):Prop where
 sN:0≤c.dC∧c.dC≤1000
 len:1≤c.bI.length∧c.bI.length≤5
 sync: ∀ (i:Nat) x,c.bI[i]? =some x→fJ c i x
 pair: ∀ (i k:Nat) x o,c.bI[i]? =some x→k<i→c.bI[k]? =some o→nS c x o
noncomputable instance (c:aw):Decidable (e8 c):=Classical.propDecidable _
theorem gQ {c:aw} {i:Nat} (h:i=0):kG c i= -1:=if_pos h
theorem wP {c:aw} {i:Nat} {y:cQ} (h:0<i) (hy:c.bI[i-1]? =some y):kG c i=y.At:=by unfold kG; rw [if_neg I,hy]; rfl
theorem oB {c:aw} {i:Nat} {y:cQ} (hy:c.bI[i]? =some y):kG c (i+1)=y.At:=by unfold kG; rw [if_neg I,Nat.add_sub_cancel,hy]; rfl
/-- the times of the syncs -/
theorem NK {c:aw} (h: ∀ (i:Nat) x,c.bI[i]? =some x→fJ c i x): ∀ (i:Nat) x,c.bI[i]? =some x→0≤x.At∧ ∀ (k:Nat) o,k<i→c.bI[k]? =some o→o.At<x.At:=by
 intro i
 induction i with
 |zero=>
  intro x hx
  have:=(h 0 x hx).1.1
  rw [gQ rfl] at this
  exact ⟨I,fun k o hk=>by omega⟩
 |succ i ih=>
  intro x hx
  have hi:=(aW.1 hx).1
  have hy:c.bI[i]? =some (c.bI[i]'I):=eD I
  have B:=ih _ hy
  have A:=(h (i+1) x hx).1.1
  rw [oB hy] at A
  refine ⟨I,fun k o hk ho=>?_⟩
  by_cases e:k=i
  ·subst e; rw [hy] at ho; cases ho; exact A
  ·have:=B.2 k o I ho; omega
theorem e8.vp {c:aw} (h:e8 c) {i:Nat} {x:cQ} (hx:c.bI[i]? =some x):(0≤x.At∧x.At≤86400000)∧ -10000≤x.eB.Lo∧x.eB.Lo≤x.eB.Hi∧x.eB.Hi≤10000:=by
 have A:=h.sync i x hx
 exact ⟨⟨(NK h.sync i x hx).1,A.1.2⟩,A.2⟩
theorem Fl {d a b:Int} (hd:0≤d∧d≤1000) (ha:0≤a∧a≤90000000) (hb:0≤b∧b≤90000000):0≤d*max (a-b) (b-a)∧d*max (a-b) (b-a)≤90000000000:=by
 have:=Pb (a:=d) (b:=max (a-b) (b-a)) (A:=1000) (B:=90000000) hd.1 hd.2 I I
 omega
theorem uY {c:aw} {at_:Int} {x:cQ} (hd:0≤c.dC∧c.dC≤1000) (ha:0≤at_∧at_≤90000000) (hx:0≤x.At∧x.At≤86400000):0≤tv c at_ x∧tv c at_ x≤90001:=by
 have h:=Fl hd ha (show 0≤x.At∧x.At≤90000000 by omega)
 unfold tv oZ; omega
theorem Bb {c:aw} {at_:Int} (h:e8 c) (ha:0≤at_∧at_≤90000000): ∀ k:Nat,(-1099511627776≤(gO c at_ k).Lo∧(gO c at_ k).Lo≤10000)∧ -10000≤(gO c at_ k).Hi∧(gO c at_ k).Hi≤1099511627776:=by
 intro k
 induction k with
 |zero=>simp [gO]
 |succ k ih=>
  cases hx:c.bI[k]? with
  |none=>unfold gO at ih ⊢; rw [List.take_add_one,hx]; simpa using ih
  |some x=>
   have hb:=h.vp hx
   have ho:=uY h.sN ha hb.1
   rw [kb hx]
   unfold mh
   simp only
   omega
theorem qQ {c:aw} {at_:Int} (h:e8 c) (ha:0≤at_∧at_≤90000000):(-110000≤(iF c at_).Lo∧(iF c at_).Lo≤10000)∧ -10000≤(iF c at_).Hi∧(iF c at_).Hi≤110000:=by
 obtain ⟨n,hn⟩: ∃ n,c.bI.length=n+1:=⟨c.bI.length-1,by have:=h.len; omega⟩
 have hx:c.bI[n]? =some (c.bI[n]'I):=eD I
 have hb:=h.vp hx
 have ho:=uY h.sN ha hb.1
 have A:=Bb h ha n
 rw [← nF (k:=n+1) I,kb hx]
 unfold mh
 simp only
 omega
/-- as time goes on, time and what a clock may be ahead, together, never go back -/
theorem DO {c:aw} (h:e8 c) {a b:Int} (ha:0≤a) (hab:a≤b) (hb:b≤90000000): ∀ k:Nat,(a+(gO c a k).Lo≤b+(gO c b k).Lo∨(gO c a k).Lo= -1099511627776)∧a+(gO c a k).Hi≤b+(gO c b k).Hi:=by
 have step: ∀ (x:cQ),0≤x.At∧x.At≤86400000→ ∀ a b:Int,0≤a→a≤b→b≤90000000→tv c a x≤tv c b x+(b-a)∧tv c b x≤tv c a x+(b-a):=by
  intro x hx a b ha hab hb
  have hd:=h.sN
  have e: ∀ u v:Int,u≤v+1000000*(b-a)→oZ u 1000000≤oZ v 1000000+(b-a):=by intro u v C; unfold oZ; omega
  have m: ∀ p q:Int,p≤q+(b-a)→c.dC*p≤c.dC*q+1000000*(b-a):=by
   intro p q A
   have D:c.dC*p≤c.dC*(q+(b-a)):=Int.mul_le_mul_of_nonneg_left A hd.1
   have E:c.dC*(q+(b-a))=c.dC*q+c.dC*(b-a):=Int.mul_add _ _ _
   have F:c.dC*(b-a)≤1000*(b-a):=Int.mul_le_mul_of_nonneg_right hd.2 I
   omega
  exact ⟨e _ _ (m _ _ I),e _ _ (m _ _ I)⟩
 intro k
 induction k with
 |zero=>simp [gO]; omega
 |succ k ih=>
  cases hx:c.bI[k]? with
  |none=>
   have e: ∀ t,gO c t (k+1)=gO c t k:=fun t=>by unfold gO; rw [List.take_add_one,hx]; simp
   rw [e,e]; exact ih
  |some x=>
   have hs:=h.vp hx
   have:=step x hs.1 a b ha hab hb
   have B:=uY (at_:=a) h.sN ⟨ha,I⟩ hs.1
   rw [kb hx,kb hx]
   unfold mh
   simp only
   omega
theorem oO {c:aw} (h:e8 c) {a b:Int} (ha:0≤a) (hab:a≤b) (hb:b≤90000000):a+(iF c a).Lo≤b+(iF c b).Lo∧a+(iF c a).Hi≤b+(iF c b).Hi:=by
 have A:=DO h ha hab hb c.bI.length
 have B:=qQ h (at_:=a) ⟨ha,I⟩
 rw [nF (Nat.le_refl _),nF (Nat.le_refl _)] at A
 omega
noncomputable def lz (l:bk) (i:Nat):Int:=match l.ab[i]? with
 |some b=>if i=0 then (Lz l.aV b.mW).Lo else (match l.ab[i-1]? with
  |some a=>(j3 l.aV a.mW b.mW).Lo
  |none=>0)
 |none=>0
theorem yO {l:bk} {b:bJ} (h:l.ab[0]? =some b):lz l 0=(Lz l.aV b.mW).Lo:=by unfold lz; rw [h]; rfl
theorem Ce {l:bk} {i:Nat} {a b:bJ} (hi:0<i) (h:l.ab[i]? =some b) (ha:l.ab[i-1]? =some a):lz l i=(j3 l.aV a.mW b.mW).Lo:=by unfold lz; rw [h,ha]; simp only; rw [if_neg I]
def j6 (l:bk) (b:bJ):Prop:=fH l.aV b.mW∧0≤b.kf∧b.kf<(l.aj.length:Int)
def eW (l:bk):Prop:=(1≤l.iR∧l.iR≤5000)∧(1≤(l.aj.length:Int)∧(l.aj.length:Int)≤4)∧(1≤(l.ab.length:Int)∧(l.ab.length:Int)≤6)∧(0≤l.bS∧l.bS≤(l.ab.length:Int)-1)∧(0≤l.fZ∧l.fZ≤3)∧0≤l.dL∧l.dL≤3
structure lK (l:bk):Prop where
 head:eW l
 clock: ∀ c∈l.aj,e8 c
 ua: ∀ b∈l.ab,j6 l b
 Qe: ∀ i,i<l.ab.length→1≤lz l i
noncomputable instance (l:bk):Decidable (lK l):=Classical.propDecidable _
noncomputable def dD (l:bk):Int:=if di l.aV=true then (if lK l then 0 else 50) else 10
theorem zw {l:bk} (h:di l.aV=false):dD l=10:=by unfold dD; rw [h]; rfl
theorem qC {l:bk} (h:di l.aV=true) (h2: ¬ lK l):dD l=50:=by unfold dD; rw [if_pos h,if_neg h2]
theorem wY {l:bk} (h:di l.aV=true) (h2:lK l):dD l=0:=by unfold dD; rw [if_pos h,if_pos h2]
theorem dM {l:bk} (h:dD l=0):di l.aV=true∧lK l:=by
 unfold dD at h
 split at h
 ·split at h
  ·exact ⟨asm,asm⟩
  ·omega
 ·omega
theorem BD {l:bk} (ht:di l.aV=true) (hb: ∀ b∈l.ab,j6 l b) (i:Nat): -400000≤lz l i∧lz l i≤400000:=by
 have A:=ke ht
 have hl:=k7 ht
 unfold lz
 cases h:l.ab[i]? with
 |none=>simp
 |some b=>
  have B:=(hb b (aR h)).1
  simp only
  split
  ·have:=Q8 A hl B; omega
  ·cases h2:l.ab[i-1]? with
   |none=>simp
   |some a=>
    have C:=(hb a (aR h2)).1
    have:=wR A hl C B
    simp only; omega
def qg (l:bk) (s:aG):aw:=((l.ab[s.fE.toNat]?).bind fun b=>l.aj[b.kf.toNat]?).getD ⟨0,[]⟩
def gI (c:aw) (r t:Int):Bool:=decide (r≤t+(iF c t).Hi)
def gK (c:aw) (r t:Int):Bool:=decide (r<t+(iF c t).Lo)
noncomputable def rq (c:aw) (r:Int):ag:=⟨fI (gI c r) 86400001,fI (gK c r) 86400001-1⟩
noncomputable def cP (l:bk) (s:aG):ag:=rq (qg l s) s.Read
noncomputable def dY (l:bk) (i:Nat):Int:=oZ (1000*lz l i) l.iR
end
section
open Go.RowKit
def AJ (n:Int):Int:=IntKind.i64.wrap n
theorem zS {n:Int} (h:rj n):AJ n=n:=nk h
theorem SA (n:Int): -9223372036854775808≤AJ n∧AJ n≤9223372036854775807:=by
 unfold AJ
 rw [IntKind.wrap_i64]
 omega
section
variable {P:Program} {t:TypeId} {x y:Operand} {a b:Int}
theorem Pd:iD P .add t x y (.int .i64 a) (.int .i64 b) (.int .i64 (AJ (a+b))):=fun w=>by simp [eqGuard_add,binOp_add,Op.intArith,AJ]
theorem Jb:iD P .sub t x y (.int .i64 a) (.int .i64 b) (.int .i64 (AJ (a-b))):=fun w=>by simp [eqGuard_sub,binOp_sub,Op.intArith,AJ]
theorem Qc:iD P .mul t x y (.int .i64 a) (.int .i64 b) (.int .i64 (AJ (a*b))):=fun w=>by simp [eqGuard_mul,binOp_mul,Op.intArith,AJ]
end
/-- divided, and rounded up, as it comes out -/
def R_ (n by_:Int):Int:=(AJ (AJ (n+by_)-1)).tdiv by_
theorem PZ {a b:Int} (ha: -9223372036854775808≤a∧a≤9223372036854775807) (hb:2≤b):rj (a.tdiv b):=by
 have A:a.tdiv b=a/b+if a % b≠0∧a<0 then 1 else 0:=by
  rcases Int.lt_or_le a 0 with h|h
  ·rw [Int.tdiv_eq_ediv]
   have:b.sign=1:=Int.sign_eq_one_of_pos I
   rw [this]
   by_cases hd:b∣a
   ·have:a % b=0:=Int.emod_eq_zero_of_dvd hd
    simp [hd,this]
   ·have:a % b≠0:=fun e=>hd (Int.dvd_of_emod_eq_zero e)
    have hn: ¬ 0≤a:=by omega
    simp [hd,this,h,hn]
  ·rw [Int.tdiv_eq_ediv_of_nonneg h]
   have: ¬ a<0:=by omega
   simp [this]
 have B:a/b*b+a % b=a:=by rw [Int.mul_comm]; exact Int.mul_ediv_add_emod a b
 have C:0≤a % b:=Int.emod_nonneg _ I
 have D:a % b<b:=Int.emod_lt_of_pos _ I
 have E: -9223372036854775808≤a/b∧a/b≤4611686018427387904:=by
  constructor
  ·refine Int.le_ediv_of_mul_le I ?_
   have:(-9223372036854775808:Int)*b≤ -9223372036854775808*1:=Int.mul_le_mul_of_nonpos_left I I
   omega
  ·refine Int.ediv_le_of_le_mul I ?_
   have:(4611686018427387904:Int)*2≤4611686018427387904*b:=Int.mul_le_mul_of_nonneg_left hb I
   omega
 rw [A]
 unfold rj
 split<;>omega
theorem Qa {n by_:Int} (h0:0≤n) (h1:n≤1000000000000000000) (hb:1≤by_∧by_≤1000000000000):R_ n by_=(n+by_-1)/by_:=by
 unfold R_
 rw [zS (show rj (n+by_) from ⟨I,I⟩),zS (show rj (n+by_-1) from ⟨I,I⟩),Int.tdiv_eq_ediv_of_nonneg I]
end
section
def mE (c:aw) (i:Nat) (x:cQ) (k:Nat):Prop:=fJ c i x∧ ∀ (j:Nat) o,j<k→c.bI[j]? =some o→nS c x o
def tj (c:aw) (n:Nat):Prop:= ∀ (i:Nat) x,i<n→c.bI[i]? =some x→mE c i x i
noncomputable instance (c:aw) (i:Nat) (x:cQ) (k:Nat):Decidable (mE c i x k):=Classical.propDecidable _
instance (c:aw) (i:Nat) (x:cQ):Decidable (fJ c i x):=by unfold fJ; infer_instance
theorem Db {c:aw} {i:Nat} {x:cQ}:mE c i x 0↔fJ c i x:=⟨fun h=>h.1,fun h=>⟨h,fun j o hj=>by omega⟩⟩
theorem s9 {c:aw} {i k:Nat} {x o:cQ} (h:c.bI[k]? =some o):mE c i x (k+1)↔mE c i x k∧nS c x o:=by
 constructor
 ·intro hr
  exact ⟨⟨hr.1,fun j o' hj ho=>hr.2 j o' I ho⟩,hr.2 k o I h⟩
 ·rintro ⟨hr,hp⟩
  refine ⟨hr.1,fun j o' hj ho=>?_⟩
  by_cases e:j=k
  ·subst e; rw [h] at ho; cases ho; exact hp
  ·exact hr.2 j o' I ho
theorem GN {c:aw}:tj c 0:=fun i x hi=>by omega
theorem G6 {c:aw} {i:Nat} {x:cQ} (h:tj c i) (hx:c.bI[i]? =some x) (hr:mE c i x i):tj c (i+1):=fun j y hj hy=>by
 by_cases e:j=i
 ·subst e; rw [hx] at hy; cases hy; exact hr
 ·exact h j y I hy
theorem JB {c:aw} {i:Nat} {x:cQ} (hx:c.bI[i]? =some x) (h: ¬ mE c i x i): ¬ e8 c:=fun hc=>h ⟨hc.sync i x hx,fun j o hj ho=>hc.pair i j x o hx hj ho⟩
theorem GQ {c:aw} (h1:0≤c.dC∧c.dC≤1000) (h2:1≤c.bI.length∧c.bI.length≤5) (h:tj c c.bI.length):e8 c:=
 ⟨h1,h2,fun i x hx=>(h i x (aW.1 hx).1 hx).1,fun i k x o hx hk ho=>(h i x (aW.1 hx).1 hx).2 k o hk ho⟩
/-- syncs so far -/
theorem vj {c:aw} {n:Nat} (h: ∀ (i:Nat) x,i<n→c.bI[i]? =some x→fJ c i x): ∀ (i:Nat) x,i<n→c.bI[i]? =some x→0≤x.At∧ ∀ (k:Nat) o,k<i→c.bI[k]? =some o→o.At<x.At:=by
 intro i
 induction i with
 |zero=>
  intro x hn hx
  have:=(h 0 x hn hx).1.1
  rw [gQ rfl] at this
  exact ⟨I,fun k o hk=>by omega⟩
 |succ i ih=>
  intro x hn hx
  have hi:=(aW.1 hx).1
  have hy:c.bI[i]? =some (c.bI[i]'I):=eD I
  have B:=ih _ I hy
  have A:=(h (i+1) x hn hx).1.1
  rw [oB hy] at A
  refine ⟨I,fun k o hk ho=>?_⟩
  by_cases e:k=i
  ·subst e; rw [hy] at ho; cases ho; exact A
  ·have:=B.2 k o I ho; omega
theorem Kh {c:aw} {i:Nat} (hi:i≤c.bI.length) (h: ∀ (j:Nat) y,j<i→c.bI[j]? =some y→fJ c j y): -1≤kG c i∧kG c i≤86400000:=by
 cases i with
 |zero=>rw [gQ rfl]; omega
 |succ i=>
  have hy:c.bI[i]? =some (c.bI[i]'I):=eD I
  have A:=(vj (n:=i+1) h i _ I hy).1
  have B:=(h i _ I hy).1.2
  rw [oB hy]; omega
theorem O9 {c:aw} {i:Nat} (hi:i≤c.bI.length) (h:tj c i): -1≤kG c i∧kG c i≤86400000:=Kh hi fun j y hj hy=>(h j y hj hy).1
theorem vb {c:aw} {i k:Nat} {x o:cQ} (hs: ∀ (j:Nat) y,j<i→c.bI[j]? =some y→fJ c j y) (hx:c.bI[i]? =some x) (hok:fJ c i x) (hk:k<i) (ho:c.bI[k]? =some o):
 (0≤o.At∧o.At<x.At∧x.At≤86400000)∧(-10000≤x.eB.Lo∧x.eB.Lo≤x.eB.Hi∧x.eB.Hi≤10000)∧ -10000≤o.eB.Lo∧o.eB.Lo≤o.eB.Hi∧o.eB.Hi≤10000:=by
 have h: ∀ (j:Nat) y,j<i+1→c.bI[j]? =some y→fJ c j y:=fun j y hj hy=>by
  by_cases e:j=i
  ·subst e; rw [hx] at hy; cases hy; exact hok
  ·exact hs j y I hy
 have A:=(vj h i x I hx).2 k o hk ho
 have B:=(vj h k o I ho).1
 exact ⟨⟨B,A,hok.1.2⟩,hok.2,(h k o I ho).2⟩
theorem LV {d a b:Int} (hd:0≤d∧d≤1000) (h:0≤b∧b<a∧a≤86400000):R_ (AJ (d*AJ (a-b))) 1000000=oZ (d*(a-b)) 1000000:=by
 have C:0≤d*(a-b)∧d*(a-b)≤90000000000:=by
  have:=Pb (a:=d) (b:=a-b) (A:=1000) (B:=90000000) hd.1 hd.2 I I
  omega
 rw [zS (show rj (a-b) from ⟨I,I⟩),zS (show rj (d*(a-b)) from ⟨I,I⟩),Qa C.1 I I]
 rfl
/-- what is asked of a line, however wrong it is -/
structure eg (l:bk) (asl:List RA):Prop where
 sJ:l.aV.length≤1000000
 side: ∀ x∈l.aV,0≤x.jg∧x.jg≤255
 sL:l.aj.length≤1000000
 og:asl.length=l.aj.length
 sH:l.ab.length≤1000000
 TO: ∀ (k:Nat) m (a:RA),l.aj[k]? =some m→asl[k]? =some a→m.bI.length≤a.2∧m.bI.length≤1000000
noncomputable instance (l:bk):Decidable (eW l):=by unfold eW; infer_instance
noncomputable instance (l:bk) (b:bJ):Decidable (j6 l b):=Classical.propDecidable _
theorem zh {l:bk} (h:eW l) (h2: ∀ c∈l.aj,e8 c) (h3: ∀ b∈l.ab,j6 l b) (h4: ∀ i,i<l.ab.length→1≤lz l i):lK l:=⟨h,h2,h3,h4⟩
theorem Ed {l:bk}:((!(l.aj.any fun m=> !decide (e8 m)))=true)↔ ∀ c∈l.aj,e8 c:=by simp
theorem G7 {l:bk}:((!(l.ab.any fun b=> !decide (j6 l b)))=true)↔ ∀ b∈l.ab,j6 l b:=by simp
theorem lp {c:aw} (h:e8 c) {r x:Int} (h0:0≤x) (h1:x<86400001):
 (x<fI (gI c r) 86400001→gI c r x=false)∧(fI (gI c r) 86400001≤x→gI c r x=true)∧(x<fI (gK c r) 86400001→gK c r x=false)∧(fI (gK c r) 86400001≤x→gK c r x=true):=by
 have up: ∀ (q:Int→Bool),(∀ a b,0≤a→a≤b→b<86400001→q a=true→q b=true)→fI q 86400001≤x→q x=true:=fun q hq hx=>by
  have hb:=iG (p:=q) (n:=86400001)
  exact hq _ _ hb.1 hx h1 (ze I)
 refine ⟨vo h0,up _ fun a b ha A hb hq=>?_,vo h0,up _ fun a b ha A hb hq=>?_⟩
 ·have:=oO h ha A I
  simp only [gI,decide_eq_true_eq] at hq ⊢; omega
 ·have:=oO h ha A I
  simp only [gK,decide_eq_true_eq] at hq ⊢; omega
theorem ym {l:bk} {s:aG} {b:bJ} {c:aw} (hb:l.ab[s.fE.toNat]? =some b) (hc:l.aj[b.kf.toNat]? =some c):qg l s=c:=by
 unfold qg; rw [hb]; simp only [Option.bind_some]; rw [hc]; rfl
end
section
def kJ (sg:List aG) (i:Nat):aG:=if i=0 then ⟨-1,0⟩ else (sg[i-1]?).getD ⟨-1,0⟩
theorem j7 {sg:List aG} {i:Nat} {s:aG} (h:sg[i]? =some s):kJ sg (i+1)=s:=by unfold kJ; rw [if_neg I,Nat.add_sub_cancel,h]; rfl
def iw (l:bk) (s:aG):Prop:=(0≤s.fE∧s.fE≤(l.ab.length:Int)-1)∧0≤s.Read∧s.Read≤86400000
def hE (l:bk) (sg:List aG) (i:Nat) (s:aG):Prop:=iw l s∧ ¬ s.fE<(kJ sg i).fE∧ ¬ (s.fE=(kJ sg i).fE∧s.Read≤(kJ sg i).Read)
def oU (l:bk) (sg:List aG) (i:Nat):Prop:= ∀ (j:Nat) s,j<i→sg[j]? =some s→hE l sg j s
structure dU (l:bk) (r:cw):Prop where
 time:0≤r.Start∧r.Start≤r.fR∧r.fR≤86400000
 len:r.aa.length≤10
 sig: ∀ (i:Nat) s,r.aa[i]? =some s→hE l r.aa i s
noncomputable instance (l:bk) (r:cw):Decidable (dU l r):=Classical.propDecidable _
theorem vi {l:bk} {sg:List aG}:oU l sg 0:=fun j s hj=>absurd hj (Nat.not_lt_zero _)
theorem js {l:bk} {sg:List aG} {i:Nat} {s:aG} (h:oU l sg i) (hs:sg[i]? =some s) (ho:hE l sg i s):oU l sg (i+1):=fun j z hj hz=>by
 rcases Nat.lt_or_ge j i with q|q
 ·exact h j z q hz
 ·obtain rfl:j=i:=by omega
  rw [hs] at hz; cases hz; exact ho
theorem x7 {l:bk} {r:cw} {i:Nat} (h1:0≤r.Start∧r.Start≤r.fR∧r.fR≤86400000) (h2:r.aa.length≤10) (h:oU l r.aa i) (hi:r.aa.length≤i):dU l r:=
 ⟨h1,h2,fun j s hs=>h j s (by have:=(aW.1 hs).1; omega) hs⟩
noncomputable def oa (l:bk) (sg:List aG) (b k:Nat):Option (Int×ag):=(sg[k]?).bind fun s=>if s.fE=(b:Int)∧(cP l s).Lo≤(cP l s).Hi then some ((k:Int),cP l s) else none
noncomputable def k6 (l:bk) (sg:List aG) (i b:Nat):TM:=(List.range i).filterMap (oa l sg b)
noncomputable def cM (l:bk) (sg:List aG) (i:Nat):List TM:=(List.range l.ab.length).map (k6 l sg i)
noncomputable def cm (l:bk) (n:Nat):List Int:=(List.range n).map (dY l)
theorem qH {l:bk} {n:Nat}:cm l (n+1)=cm l n++[dY l n]:=by simp [cm,List.range_succ]
theorem cU {l:bk} {n:Nat}:(cm l n).length=n:=by simp [cm]
theorem gN {l:bk} {sg:List aG} {i:Nat}:(cM l sg i).length=l.ab.length:=by simp [cM]
theorem o4 {l:bk} {sg:List aG} {i b:Nat} (h:b<l.ab.length):(cM l sg i)[b]? =some (k6 l sg i b):=by simp [cM,h]
theorem pM {l:bk} {sg:List aG} {b k:Nat} {q:Int×ag}:oa l sg b k=some q↔ ∃ s,sg[k]? =some s∧(s.fE=(b:Int)∧(cP l s).Lo≤(cP l s).Hi)∧q=((k:Int),cP l s):=by
 unfold oa
 cases h:sg[k]? with
 |none=>simp
 |some s=>
  simp only [Option.bind_some,Option.some.injEq]
  by_cases e:s.fE=(b:Int)∧(cP l s).Lo≤(cP l s).Hi
  ·rw [if_pos e]
   constructor
   ·intro h; cases h; exact ⟨s,rfl,e,rfl⟩
   ·rintro ⟨s',rfl,_,rfl⟩; rfl
  ·rw [if_neg e]
   constructor
   ·intro h; cases h
   ·rintro ⟨s',rfl,e',_⟩; exact absurd e' e
theorem sU {l:bk} {sg:List aG} {i b:Nat} {q:Int×ag}:q∈k6 l sg i b↔ ∃ k,k<i∧ ∃ s,sg[k]? =some s∧(s.fE=(b:Int)∧(cP l s).Lo≤(cP l s).Hi)∧q=((k:Int),cP l s):=by
 unfold k6
 simp only [List.mem_filterMap,List.mem_range,pM]
theorem lu {l:bk} {sg:List aG} {i b:Nat}:k6 l sg (i+1) b=k6 l sg i b++(oa l sg b i).toList:=by
 unfold k6
 rw [List.range_succ,List.filterMap_append]
 congr 1
theorem xx {l:bk} {sg:List aG}:cM l sg 0=List.replicate l.ab.length []:=by
 unfold cM
 rw [List.eq_replicate_iff]
 refine ⟨sm,fun t ht=>?_⟩
 obtain ⟨b,_,rfl⟩:=cE.1 ht
 rfl
theorem pZ {l:bk} {sg:List aG} {i:Nat} {s:aG} (hs:sg[i]? =some s) (h: ¬ (cP l s).Lo≤(cP l s).Hi):cM l sg (i+1)=cM l sg i:=by
 unfold cM
 apply List.map_congr_left
 intro b _
 rw [lu]
 have:oa l sg b i=none:=by
  cases e:oa l sg b i with
  |none=>rfl
  |some q=>obtain ⟨s',A,⟨_,B⟩,_⟩:=pM.1 e; rw [hs] at A; cases A; exact absurd B h
 rw [this]; simp
theorem sf {l:bk} {sg:List aG} {i:Nat} {s:aG} (hs:sg[i]? =some s) (hb:0≤s.fE∧s.fE≤(l.ab.length:Int)-1) (h:(cP l s).Lo≤(cP l s).Hi) {x:TM} (hx:(cM l sg i)[s.fE.toNat]? =some x):
 (cM l sg i).set s.fE.toNat (ed x (i:Int) (cP l s))=cM l sg (i+1):=by
 have A:s.fE.toNat<l.ab.length:=by omega
 rw [o4 A] at hx
 cases hx
 have B:ed (k6 l sg i s.fE.toNat) (i:Int) (cP l s)=k6 l sg (i+1) s.fE.toNat:=by
  have hn:(k6 l sg i s.fE.toNat).lookup (i:Int)=none:=iu.2 fun p hp e=>by
   obtain ⟨k,hk,_,_,_,rfl⟩:=sU.1 hp
   simp only at e; omega
  have ho:oa l sg s.fE.toNat i=some ((i:Int),cP l s):=pM.2 ⟨s,hs,⟨I,h⟩,rfl⟩
  rw [lu,ho]
  unfold ed; rw [hn]; rfl
 rw [B]
 apply List.ext_getElem?
 intro b
 rw [List.getElem?_set]
 by_cases e:s.fE.toNat=b
 ·rw [if_pos e,gN,← e,if_pos A,o4 A]
 ·rw [if_neg e]
  by_cases hb':b<l.ab.length
  ·rw [o4 hb',o4 hb',lu]
   have:oa l sg b i=none:=by
    cases e2:oa l sg b i with
    |none=>rfl
    |some q=>obtain ⟨s',C,⟨D,_⟩,_⟩:=pM.1 e2; rw [hs] at C; cases C; exact absurd I e
   rw [this]; simp
  ·rw [List.getElem?_eq_none (by rw [gN]; omega),List.getElem?_eq_none (by rw [gN]; omega)]
noncomputable def bU (l:bk) (r:cw):bZ:=⟨r.Start,r.fR,cm l l.ab.length,cM l r.aa r.aa.length,l.dL,l.fZ,(r.aa.length:Int)⟩
theorem JA {l:bk} (ht:di l.aV=true) (h:lK l) {i:Nat} (hi:i<l.ab.length):1≤dY l i∧dY l i≤500000000:=by
 have A:=BD ht h.ua i
 have B:=h.Qe i hi
 have C:=h.head.1
 unfold dY oZ
 refine ⟨(Int.le_ediv_iff_mul_le I).2 I,?_⟩
 have:(1000*lz l i+l.iR-1)/l.iR≤1000*lz l i+l.iR-1:=Int.ediv_le_self _ I
 omega
theorem NB (l:bk) (s:aG):0≤(cP l s).Lo∧(cP l s).Hi≤86400000:=by
 have A:=iG (p:=gI (qg l s) s.Read) (n:=86400001)
 have B:=iG (p:=gK (qg l s) s.Read) (n:=86400001)
 unfold cP rq
 simp only
 omega
theorem lD {l:bk} {r:cw} (ht:di l.aV=true) (h:lK l) (hr:dU l r):Hq (bU l r):=by
 have hh:=h.head
 unfold eW at hh
 refine ⟨?_,by simp [bU,gN,bZ.n,cU],hr.time,fun x hx=>?_,fun t A p hp=>?_⟩
 ·show (cm l l.ab.length).length≤6
  rw [cU]; omega
 ·obtain ⟨i,hi,rfl⟩:=cE.1 hx
  exact JA ht h (List.mem_range.1 hi)
 ·obtain ⟨b,hb,rfl⟩:=cE.1 A
  obtain ⟨k,hk,s,hs,⟨_,B⟩,rfl⟩:=sU.1 hp
  have C:=NB l s
  have D:=hr.len
  simp only
  omega
noncomputable def dK (l:bk) (r:cw) (me:Int):Int:=if dD l=0 then (if dU l r then (if me=0 then (if gW (bU l r)=[] then 8 else 0) else me) else 51) else dD l
theorem gv {l:bk} {r:cw} {me:Int} (h: ¬ dD l=0):dK l r me=dD l:=if_neg h
theorem df {l:bk} {r:cw} {me:Int} (h:dD l=0) (h2: ¬ dU l r):dK l r me=51:=by unfold dK; rw [if_pos h,if_neg h2]
theorem qz {l:bk} {r:cw} {me:Int} (h:dD l=0) (h2:dU l r) (h3: ¬ me=0):dK l r me=me:=by unfold dK; rw [if_pos h,if_pos h2,if_neg h3]
theorem g4 {l:bk} {r:cw} {me:Int} (h:dD l=0) (h2:dU l r) (h3:me=0) (h4:gW (bU l r)=[]):dK l r me=8:=by unfold dK; rw [if_pos h,if_pos h2,if_pos h3,if_pos h4]
theorem lk {l:bk} {r:cw} {me:Int} (h:dD l=0) (h2:dU l r) (h3:me=0) (h4: ¬ gW (bU l r)=[]):dK l r me=0:=by unfold dK; rw [if_pos h,if_pos h2,if_pos h3,if_neg h4]
theorem gM {l:bk} {r:cw} {me:Int} (h:dK l r me=0):dD l=0∧dU l r∧me=0∧ ¬ gW (bU l r)=[]:=by
 unfold dK at h
 split at h
 ·split at h
  ·split at h
   ·split at h
    ·omega
    ·exact ⟨asm,asm,asm,asm⟩
   ·omega
  ·omega
 ·omega
end
section
def od (l:List Int):Int:=(l.drop 1).foldl min (l.headD 0)
theorem Js {l:List Int} {i:Nat} {x:Int} (h:l[i]? =some x) (hi:1≤i):od (l.take (i+1))=min (od (l.take i)) x:=by
 have e:l.take (i+1)=l.take i++[x]:=by rw [List.take_add_one,h]; rfl
 have hl:1≤(l.take i).length:=by have:=(aW.1 h).1; rw [List.length_take]; omega
 rw [e]
 cases ht:l.take i with
 |nil=>rw [ht] at hl; simp at hl
 |cons y ys=>simp [od,List.foldl_append]
theorem GK {l:List Int} {x:Int} (h:l[0]? =some x):od (l.take 1)=x:=by
 cases l with
 |nil=>simp at h
 |cons y ys=>simp at h; subst h; simp [od]
theorem Cq: ∀ (l:List Int) (a:Int),(l.foldl min a=a∨l.foldl min a∈l)∧l.foldl min a≤a∧ ∀ x∈l,l.foldl min a≤x
 |[],a=>⟨.inl rfl,sm,sm⟩
 |y::l,a=>by
  obtain ⟨A,C,B⟩:=Cq l (min a y)
  simp only [List.foldl_cons]
  refine ⟨?_,I,?_⟩
  ·rcases A with A|A
   ·rw [A]
    rcases Int.le_total a y with q|q
    ·left; omega
    ·right; rw [show min a y=y by omega]; simp
   ·right; exact dI _ A
  ·intro x hx
   rcases bT.1 hx with rfl|hx
   ·omega
   ·exact B x hx
theorem F3 {l:List Int} (h:l≠[]):od l∈l∧ ∀ x∈l,od l≤x:=by
 cases l with
 |nil=>exact absurd rfl h
 |cons y ys=>
  obtain ⟨A,B,C⟩:=Cq ys y
  refine ⟨?_,fun x hx=>?_⟩
  ·rcases A with A|A
   ·simp [od,A]
   ·exact dI _ (by simpa [od] using A)
  ·rcases bT.1 hx with rfl|hx
   ·simpa [od] using B
   ·simpa [od] using C x hx
noncomputable def gn (l:bk) (r:cw):List Int:=if dK l r 0=0 then gW (bU l r) else []
theorem ju {l:bk} {r:cw} (h:dK l r 0=0):gn l r=gW (bU l r):=if_pos h
theorem nx {l:bk} {r:cw} (h: ¬ dK l r 0=0):gn l r=[]:=if_neg h
theorem vr {l:bk} {r:cw} (h:dK l r 0=0):gn l r≠[]:=by rw [ju h]; exact (gM h).2.2.2
theorem xE {l:bk} {r:cw} (h:dK l r 0=0):1≤(gn l r).length:=List.length_pos_iff.2 (vr h)
theorem C7 {l:bk} {r:cw}:(gn l r).length≤100:=by
 unfold gn
 split
 ·rename_i h
  obtain ⟨A,B,_⟩:=gM h
  obtain ⟨ht,ho⟩:=dM A
  have:=(lD ht ho B).n
  have C:=tw (w:=bU l r) (k:=(bU l r).n+1)
  unfold gW; omega
 ·simp
noncomputable def iP (l:bk) (b:Int):Int:=if 0≤b∧b≤(l.ab.length:Int)-1 then 0 else 2
theorem o1 {l:bk} {b:Int} (h:0≤b∧b≤(l.ab.length:Int)-1):iP l b=0:=if_pos h
theorem Dg {l:bk} {b:Int} (h:iP l b=0):0≤b∧b≤(l.ab.length:Int)-1:=by
 unfold iP at h
 split at h
 ·assumption
 ·omega
noncomputable def kh (l:bk) (r:cw) (b:Nat):ag:=sP (j_ (bU l r) b)
noncomputable def de (l:bk) (r:cw) (b:Int):Int:=if dK l r (iP l b)=0 then (if kh l r b.toNat=lH then 6 else 0) else dK l r (iP l b)
noncomputable def cY (l:bk) (r:cw) (b:Int):ag:=if de l r b=0 then kh l r b.toNat else gP
theorem l_ {l:bk} {r:cw} {b:Int} (h: ¬ dK l r (iP l b)=0):de l r b=dK l r (iP l b)∧cY l r b=gP:=by
 have e:de l r b=dK l r (iP l b):=if_neg h
 exact ⟨e,by unfold cY; rw [if_neg (by rw [e]; exact h)]⟩
theorem qU {l:bk} {r:cw} {b:Nat} (h:dK l r (iP l b)=0) (h2:kh l r b=lH):de l r b=6∧cY l r b=gP:=by
 have e:de l r b=6:=by unfold de; rw [if_pos h,Int.toNat_natCast,if_pos h2]
 exact ⟨e,by unfold cY; rw [if_neg (by rw [e]; omega)]⟩
theorem ou {l:bk} {r:cw} {b:Nat} (h:dK l r (iP l b)=0) (h2: ¬ kh l r b=lH):de l r b=0∧cY l r b=kh l r b:=by
 have e:de l r b=0:=by unfold de; rw [if_pos h,Int.toNat_natCast,if_neg h2]
 exact ⟨e,by unfold cY; rw [if_pos e,Int.toNat_natCast]⟩
theorem Jc {w:bZ} (h:Hq w) {b:Nat} {q:Int×ag} (hq:q∈j_ w b):0≤q.2.Lo∧q.2.Lo≤q.2.Hi∧q.2.Hi≤86400000:=by
 have A:=jD hq
 obtain ⟨o,ho,p,hp,u,hu,e⟩:=iA.1 hq
 obtain ⟨_,_,rfl⟩:=jz.1 e
 have B:=h.opt ho
 simp only [jF] at A ⊢
 omega
theorem qL {l:bk} {r:cw} {b:Int} (h:de l r b=0):0≤(cY l r b).Lo∧(cY l r b).Lo≤(cY l r b).Hi∧(cY l r b).Hi≤86400000:=by
 have ho:dK l r (iP l b)=0:=by
  by_cases e:dK l r (iP l b)=0
  ·exact e
  ·rw [(l_ e).1] at h; exact absurd h e
 obtain ⟨B,C,_⟩:=gM ho
 obtain ⟨ht,A⟩:=dM B
 have hw:=lD ht A C
 have hv:cY l r b=kh l r b.toNat:=by unfold cY; rw [if_pos h]
 have hn:kh l r b.toNat≠lH:=fun e=>by unfold de at h; rw [if_pos ho,if_pos e] at h; omega
 have hh:=oT (l:=j_ (bU l r) b.toNat) fun q hq=>jD hq
 rw [hv]
 unfold kh at hn ⊢
 rcases hh with ⟨_,e⟩|hh
 ·exact absurd e hn
 ·obtain ⟨x,hx,ex⟩:=hh.lo
  obtain ⟨y,hy,ey⟩:=hh.hi
  have:=Jc hw hx
  have:=Jc hw hy
  have:=hh.le
  omega
noncomputable def Aw (l:bk) (r:cw):ag:=if de l r l.bS=0 then ⟨(cY l r l.bS).Lo-r.Start,(cY l r l.bS).Hi-r.Start⟩ else gP
theorem zI {l:bk} {r:cw} (h:de l r l.bS=0):Aw l r=⟨(cY l r l.bS).Lo-r.Start,(cY l r l.bS).Hi-r.Start⟩:=if_pos h
theorem Ds {l:bk} {r:cw} (h: ¬ de l r l.bS=0):Aw l r=gP:=if_neg h
theorem vC {l:bk} {r:cw} {b:Int} (h:de l r b=0):dU l r:=by
 by_cases e:dK l r (iP l b)=0
 ·exact (gM e).2.1
 ·rw [(l_ e).1] at h; exact absurd h e
theorem yN {k:List (Int×ag)} {h:ag} {q:Int×ag} {z:ag} (hh:kE k h) (hq:q.2.Lo≤q.2.Hi) (hz:mH h q.2=z):kE (k++[q]) z:=by subst hz; exact vl hh hq
end
section
def l9 (l:bk):Prop:=(20<(l.aV.length:Int)∨8<(l.aj.length:Int)∨10<(l.ab.length:Int))∨ ∃ c∈l.aj,10<(c.bI.length:Int)
noncomputable instance (l:bk):Decidable (l9 l):=Classical.propDecidable _
/-- what is asked of a line that comes in -/
structure uk (l:bk) (az:List RA):Prop where
 sJ:l.aV.length≤9223372036854775807
 side: ∀ x∈l.aV,0≤x.jg∧x.jg≤255
 sL:l.aj.length≤9223372036854775807
 og:az.length=l.aj.length
 sH:l.ab.length≤9223372036854775807
 TO: ∀ (k:Nat) m (a:RA),l.aj[k]? =some m→az[k]? =some a→m.bI.length≤a.2∧m.bI.length≤9223372036854775807
def Aj (l:bk) (i:Nat):Prop:= ∀ (j:Nat) c,j<i→l.aj[j]? =some c→(c.bI.length:Int)≤10
theorem Ie {l:bk} {i:Nat} (h: ¬ (20<(l.aV.length:Int))∧ ¬ (8<(l.aj.length:Int))∧ ¬ (10<(l.ab.length:Int))) (hi:l.aj.length≤i) (hs:Aj l i): ¬ l9 l:=by
 rintro (A|⟨c,hc,B⟩)
 ·omega
 ·obtain ⟨k,hk⟩:=List.getElem?_of_mem hc
  have:=hs k c (by have:=(aW.1 hk).1; omega) hk
  omega
theorem IF {l:bk} {i:Nat} {c:aw} (hc:l.aj[i]? =some c) (h:10<(c.bI.length:Int)):l9 l:= .inr ⟨c,aR hc,h⟩
theorem mo {α:Type} {l:List α} {P:Nat→α→Prop} {i:Nat} {x:α} (h: ∀ (j:Nat) y,j<i→l[j]? =some y→P j y) (hx:l[i]? =some x) (hp:P i x): ∀ (j:Nat) y,j<i+1→l[j]? =some y→P j y:=fun j y hj hy=>by
 by_cases e:j=i
 ·subst e; rw [hx] at hy; cases hy; exact hp
 ·exact h j y I hy
theorem w8 {α:Type} {l:List α} {P:Nat→α→Prop} {i:Nat} (hi:l.length≤i) (h: ∀ (j:Nat) y,j<i→l[j]? =some y→P j y): ∀ (j:Nat) y,l[j]? =some y→P j y:=fun j y hy=>h j y (by have:=(aW.1 hy).1; omega) hy
theorem yd {α:Type} {l:List α} {P:α→Prop} {i:Nat} (hi:l.length≤i) (h: ∀ (j:Nat) y,j<i→l[j]? =some y→P y): ∀ y∈l,P y:=fun y hy=>by
 obtain ⟨k,hk⟩:=List.getElem?_of_mem hy
 exact w8 (P:=fun _ y=>P y) hi h k y hk
theorem BJ {l:bk} (h: ¬ l9 l):(l.aV.length:Int)≤20∧(l.aj.length:Int)≤8∧(l.ab.length:Int)≤10∧ ∀ c∈l.aj,(c.bI.length:Int)≤10:=by
 unfold l9 at h
 rw [not_or] at h
 refine ⟨I,I,I,fun c hc=>?_⟩
 have:=h.2
 rcases Int.lt_or_le 10 (c.bI.length:Int) with q|q
 ·exact absurd ⟨c,hc,q⟩ this
 ·exact q
theorem uk.small {l:bk} {az:List RA} (h:uk l az) (hg: ¬ l9 l):eg l az:=by
 have A:=BJ hg
 exact ⟨I,h.side,I,h.og,I,fun k m a hm ha=>⟨(h.TO k m a hm ha).1,by have:=A.2.2.2 m (aR hm); omega⟩⟩
def Fh (c:aw) (x:cQ) (k:Nat):Prop:= ∀ (j:Nat) o,j<k→c.bI[j]? =some o→nS c x o
def uo (c:aw) (m:Nat):Prop:= ∀ (i:Nat) x,i<m→c.bI[i]? =some x→Fh c x i
theorem Kb {c:aw} {m:Nat} (h1:0≤c.dC∧c.dC≤1000) (h2:1≤c.bI.length∧c.bI.length≤5) (hs: ∀ (i:Nat) x,c.bI[i]? =some x→fJ c i x) (hm:c.bI.length≤m) (hp:uo c m):e8 c:=
 ⟨h1,h2,hs,fun i k x o hx hk ho=>hp i x (by have:=(aW.1 hx).1; omega) hx k o hk ho⟩
theorem Ew {c:aw} {m k:Nat} (h:uo c m) (hk: ∀ y,c.bI[m]? =some y→Fh c y k) (e:k=m):uo c (m+1):=by
 subst e
 intro i x hi hx
 by_cases e:i=k
 ·subst e; exact hk x hx
 ·exact h i x I hx
noncomputable def k8 (c:aw) (at_:Int) (i:Nat):ag:=if i=0 then gP else gO c at_ i
theorem En {c:aw} {at_:Int} {i:Nat} (h:e8 c) (hi:c.bI.length≤i):k8 c at_ i=iF c at_:=by
 have:=h.len
 unfold k8; rw [if_neg I,nF hi]
theorem z4 {c:aw} {at_:Int} {i:Nat} {x:cQ} (h:e8 c) (ha:0≤at_∧at_≤90000000) (hx:c.bI[i]? =some x) (hi:i=0):
 k8 c at_ (i+1)=⟨max (x.eB.Lo-tv c at_ x) (x.eB.Lo-tv c at_ x),min (x.eB.Hi+tv c at_ x) (x.eB.Hi+tv c at_ x)⟩:=by
 subst hi
 have hb:=h.vp hx
 have ho:=uY h.sN ha hb.1
 unfold k8
 rw [if_neg I,kb hx]
 unfold mh gO
 simp only [List.take_zero,List.foldl_nil,ag.mk.injEq]
 omega
theorem B2 {c:aw} {at_:Int} {i:Nat} {x:cQ} (hx:c.bI[i]? =some x) (hi: ¬ i=0):k8 c at_ (i+1)=⟨max (k8 c at_ i).Lo (x.eB.Lo-tv c at_ x),min (k8 c at_ i).Hi (x.eB.Hi+tv c at_ x)⟩:=by
 unfold k8
 rw [if_neg I,if_neg hi,kb hx]; rfl
def il (ts:List ao) (n:Nat):List ag:=(List.range n).map fun k=>eE ts 0 k
theorem AS {ts:List ao} {n:Nat}:il ts (n+1)=il ts n++[eE ts 0 n]:=by simp [il,List.range_succ]
theorem oV {ts:List ao} {n:Nat}:(il ts n).length=n:=by simp [il]
theorem pW {ts:List ao} {n k:Nat} {x:ag} (h:(il ts n)[k]? =some x):x=eE ts 0 k:=by
 unfold il at h
 rw [fM] at h
 cases hk:(List.range n)[k]? with
 |none=>simp [hk] at h
 |some v=>
  have:=aW.1 hk
  simp at this
  simp [hk] at h
  rw [← h,← this.2]
theorem Eo {ts:List ao} {a b:cH} (h:b.bx<a.bx):j3 ts a b=oJ (j3 ts b a):=by
 unfold j3
 rw [if_pos h,if_neg I]
 unfold wS
 rw [Int.min_comm b.bx a.bx,Int.max_comm b.bx a.bx]
 unfold oJ mO
 simp only [ag.mk.injEq]
 omega
theorem q7 {ts:List ao} {a b:cH} (h: ¬ b.bx<a.bx):j3 ts a b=mO (mO (eE ts a.bx.toNat (b.bx-a.bx).toNat) b.mS) (oJ a.mS):=by
 unfold j3 wS
 rw [if_neg h,Int.min_eq_left I,Int.max_eq_right I]
end
section
def eY (m:List av) (a:cW):List ax:=rd a.1.1 m.length 7 (List.zipWith av.cells m a.2)::bj av.f_ m a.2
structure PQ (h:List av) (a:cW):Prop where
 len:h.length≤1000000
 og:a.2.length=h.length
 sig: ∀ d∈h,d.a_.aa.length≤1000000
structure lG (r:eZ) (az:List RA) (ha:List cW):Prop where
 line:eg r.ar az
 ic:r.aY.length≤1000000
 draw:r.ck.length≤12
 ij:r.aB.length≤1000000
 has:ha.length=r.aB.length
 gf: ∀ (k:Nat) h (a:cW),r.aB[k]? =some h→ha[k]? =some a→PQ h a
structure uC (r:eZ) (az:List RA) (ha:List cW):Prop where
 line:uk r.ar az
 ic:r.aY.length≤9223372036854775807
 draw:r.ck.length≤9223372036854775807
 ij:r.aB.length≤9223372036854775807
 has:ha.length=r.aB.length
 gf: ∀ (k:Nat) h (a:cW),r.aB[k]? =some h→ha[k]? =some a→h.length≤9223372036854775807∧a.2.length=h.length∧ ∀ d∈h,d.a_.aa.length≤9223372036854775807
def pf (h:List av):Prop:=8<(h.length:Int)∨ ∃ d∈h,15<(d.a_.aa.length:Int)
def l8 (r:eZ):Prop:=(l9 r.ar∨8<(r.aY.length:Int)∨8<(r.ck.length:Int)∨5<(r.aB.length:Int))∨ ∃ h∈r.aB,pf h
noncomputable instance (r:eZ):Decidable (l8 r):=Classical.propDecidable _
theorem EV {r:eZ} (h: ¬ l8 r): ¬ l9 r.ar∧(r.aY.length:Int)≤8∧(r.ck.length:Int)≤8∧(r.aB.length:Int)≤5∧ ∀ h∈r.aB,(h.length:Int)≤8∧ ∀ d∈h,(d.a_.aa.length:Int)≤15:=by
 unfold l8 at h
 obtain ⟨A,B⟩:=not_or.1 h
 obtain ⟨C,E⟩:=not_or.1 A
 refine ⟨C,I,I,I,fun x hx=>?_⟩
 have hn: ¬ pf x:=fun q=>B ⟨x,hx,q⟩
 obtain ⟨F,D⟩:=not_or.1 hn
 refine ⟨I,fun d hd=>?_⟩
 rcases Int.lt_or_le 15 (d.a_.aa.length:Int) with q|q
 ·exact absurd ⟨d,hd,q⟩ D
 ·exact q
theorem uC.small {r:eZ} {az:List RA} {ha:List cW} (h:uC r az ha) (hg: ¬ l8 r):lG r az ha:=by
 have B:=EV hg
 refine ⟨h.line.small B.1,I,I,I,h.has,fun k x a hx A=>?_⟩
 have C:=B.2.2.2.2 x (aR hx)
 have D:=h.gf k x a hx A
 exact ⟨I,D.2.1,fun d hd=>by have:=C.2 d hd; omega⟩
def mZ (r:cw):Prop:=r.Start=0∧r.fR=0∧(r.aa.length:Int)=0
instance (r:cw):Decidable (mZ r):=by unfold mZ; infer_instance
def mq (s:ag):Prop:=1≤s.Lo∧s.Lo≤s.Hi∧s.Hi≤600000
instance (s:ag):Decidable (mq s):=by unfold mq; infer_instance
def iW (l:bk) (d:av):Prop:=if d.Out=true then d.dj=false∧d.Time=gP∧mZ d.a_ else if d.dj=true then mq d.Time∧mZ d.a_ else de l d.a_ l.bS=0∧d.Time=gP
noncomputable instance (l:bk) (d:av):Decidable (iW l d):=Classical.propDecidable _
noncomputable def gh (l:bk) (d:av):ag:=if d.Out=true∨d.dj=true then d.Time else Aw l d.a_
/-- which kind a descent is of -/
def oY (d:av):Int:=if d.Out=true then 0 else if d.dj=true then 1 else 2
theorem Nm {w:bZ} (h:Hq w): ∀ (b:Nat) (p:aI×Int),p∈fwd w b→w.Start≤p.2:=by
 have hl: ∀ b,0≤cg w b:=fun b=>by
  unfold cg
  cases e:w.qm[b]? with
  |none=>simp
  |some x=>have:=h.least x (aR e); simp; omega
 intro b
 induction b with
 |zero=>intro p hp; simp only [fwd,cq] at hp; subst hp; exact Int.le_refl _
 |succ b ih=>
  intro q hq
  obtain ⟨p,hp,o,ho,e⟩:=gd.1 hq
  unfold kZ at e
  split at e
  ·simp only [Option.some.injEq] at e
   subst e
   have:=ih p hp
   have:=hl b
   simp only; omega
  ·cases e
theorem FH {l:bk} {r:cw} {b:Int} (h:de l r b=0):r.Start≤(cY l r b).Lo:=by
 have ho:dK l r (iP l b)=0:=by
  by_cases e:dK l r (iP l b)=0
  ·exact e
  ·rw [(l_ e).1] at h; exact absurd h e
 obtain ⟨B,C,_⟩:=gM ho
 obtain ⟨ht,A⟩:=dM B
 have hw:=lD ht A C
 have hv:cY l r b=kh l r b.toNat:=by unfold cY; rw [if_pos h]
 have hn:kh l r b.toNat≠lH:=fun e=>by unfold de at h; rw [if_pos ho,if_pos e] at h; omega
 have hh:=oT (l:=j_ (bU l r) b.toNat) fun q hq=>jD hq
 rw [hv]
 unfold kh at hn ⊢
 rcases hh with ⟨_,e⟩|hh
 ·exact absurd e hn
 ·obtain ⟨x,hx,ex⟩:=hh.lo
  obtain ⟨o,ho,p,hp,u,hu,e⟩:=iA.1 hx
  obtain ⟨_,_,rfl⟩:=jz.1 e
  have D:r.Start≤p.2:=Nm hw _ p hp
  have E:0≤cg (bU l r) b.toNat:=by
   unfold cg
   cases e:(bU l r).qm[b.toNat]? with
   |none=>simp
   |some x=>have:=hw.least x (aR e); simp; omega
  simp only [jF] at ex
  omega
theorem Fv {l:bk} {d:av} (h:iW l d):0≤(gh l d).Lo∧(gh l d).Lo≤(gh l d).Hi∧(gh l d).Hi≤86400000:=by
 unfold iW at h
 unfold gh
 split at h
 ·rename_i q; rw [if_pos (Or.inl q),h.2.1]; simp [gP]
 ·rename_i q
  split at h
  ·rename_i A
   rw [if_pos (Or.inr A)]
   obtain ⟨⟨B,C,D⟩,_⟩:=h
   omega
  ·rename_i A
   rw [if_neg (fun z=>z.elim q A),zI h.1]
   have B:=qL h.1
   have C:=(vC h.1).time
   have D:=FH h.1
   simp only
   omega
theorem Fe {l:bk} {d:av} (h:d.Out=true):gh l d=d.Time:=if_pos (Or.inl h)
theorem FB {l:bk} {d:av} (h:d.Out=false∧d.dj=true):gh l d=d.Time:=if_pos (Or.inr h.2)
theorem EC {l:bk} {d:av} (h:d.Out=false∧d.dj=false):gh l d=Aw l d.a_:=if_neg (by simp [h])
theorem rl {l:bk} {d:av} (h:d.Out=true):iW l d=(d.dj=false∧d.Time=gP∧mZ d.a_):=if_pos h
theorem tT {l:bk} {d:av} (h:d.Out=false∧d.dj=true):iW l d=(mq d.Time∧mZ d.a_):=by unfold iW; rw [if_neg (by simp [h]),if_pos h.2]
theorem qE {l:bk} {d:av} (h:d.Out=false∧d.dj=false):iW l d=(de l d.a_ l.bS=0∧d.Time=gP):=by unfold iW; rw [if_neg (by simp [h]),if_neg (by simp [h])]
structure fK (r:eZ):Prop where
 num:1≤(r.aY.length:Int)∧(r.aY.length:Int)≤5
 AD:0≤r.mj∧r.mj≤5
 nh:1≤(r.aB.length:Int)∧(r.aB.length:Int)≤3
 ids: ∀ (i:Nat) x,r.aY[i]? =some x→(0≤x∧x≤9999)∧ ∀ y,0<i→r.aY[i-1]? =some y→y<x
 draw:r.ck.Perm ((List.range r.aY.length).map fun (k:Nat)=>(k:Int))
 gf: ∀ h∈r.aB,h.length=r.aY.length∧ ∀ d∈h,iW r.ar d
noncomputable instance (r:eZ):Decidable (fK r):=Classical.propDecidable _
noncomputable def jK (r:eZ):Int:=if dD r.ar=0 then (if fK r then 0 else 60) else dD r.ar
end
section
theorem n_ {α β:Type} {f g:α→Option β}: ∀ {l:List α},(∀ x∈l,f x=g x)→l.filterMap f=l.filterMap g
 |[],_=>rfl
 |x::l,h=>by simp only [List.filterMap_cons,h x cy,n_ (l:=l) (fun y hy=>h y (dI _ hy))]
abbrev sV:=List (Int×ag)
/-- the sum of a sled in some heats, the first ones -/
noncomputable def jZ (l:bk) (hs:List (List av)) (i:Nat):Nat→Option ag
 |0=>some ⟨0,0⟩
 |k+1=>match jZ l hs i k,(hs[k]?).bind (·[i]?) with
  |some s,some d=>if d.Out=true then none else some ⟨s.Lo+(gh l d).Lo/10,s.Hi+(gh l d).Hi/10⟩
  |_,_=>none
noncomputable def er (l:bk) (hs:List (List av)) (n h i:Nat):sV:=(List.range n).filterMap fun q=>(jZ l hs q (if q<i then h+1 else h)).map fun s=>((q:Int),s)
noncomputable def Bh (r:eZ) (k:Nat):sV:=(List.range r.aY.length).filterMap fun q=>(jZ r.ar r.aB q k).map fun s=>((q:Int),s)
noncomputable def OE (r:eZ):sV:=Bh r r.aB.length
section
variable {l:bk} {hs:List (List av)} {n h i q:Nat} {s:ag} {d:av}
theorem Br:er l hs n h 0=(List.range n).filterMap fun q=>(jZ l hs q h).map fun s=>((q:Int),s):=by
 unfold er
 apply n_
 intro q _
 rw [if_neg (Nat.not_lt_zero _)]
theorem MQ:er l hs n h n=er l hs n (h+1) 0:=by
 rw [Br]
 unfold er
 apply n_
 intro q hq
 rw [if_pos (List.mem_range.1 hq)]
theorem GV {x:List av} (hx:hs[h]? =some x) (hd:x[i]? =some d) (ho:d.Out=true):jZ l hs i (h+1)=none:=by
 unfold jZ
 rw [hx]
 simp only [Option.bind_some,hd]
 cases jZ l hs i h with
 |none=>rfl
 |some s=>simp [ho]
theorem Er (h0:jZ l hs i h=none):jZ l hs i (h+1)=none:=by unfold jZ; rw [h0]
theorem DI {x:List av} (hx:hs[h]? =some x) (hd:x[i]? =some d) (ho: ¬ d.Out=true) (hs0:jZ l hs i h=some s):jZ l hs i (h+1)=some ⟨s.Lo+(gh l d).Lo/10,s.Hi+(gh l d).Hi/10⟩:=by
 unfold jZ
 rw [hx,hs0]
 simp only [Option.bind_some,hd,if_neg ho]
end
section
variable {l:bk} {hs:List (List av)} {n h i q:Nat} {s t:ag}
theorem QQ {K β:Type} [DecidableEq K] {L Y:List (K×β)} {t:K}:(L++Y).lookup t=match L.lookup t with |some v=>some v|none=>Y.lookup t:=by
 induction L with
 |nil=>rfl
 |cons p L ih=>
  obtain ⟨k,u⟩:=p
  by_cases e:t==k
  ·simp [List.lookup,e]
  ·have:(t==k)=false:=by simpa using e
   simp only [List.cons_append,List.lookup,this,ih]
theorem vh {f:Nat→Option ag}: ∀ (n i:Nat),((List.range n).filterMap fun q=>(f q).map fun s=>((q:Int),s)).lookup (i:Int)=if i<n then f i else none
 |0,i=>by simp
 |n+1,i=>by
  rw [List.range_succ,List.filterMap_append,QQ,vh n i]
  by_cases c:i<n
  ·rw [if_pos c,if_pos I]
   cases e:f i with
   |some s=>rfl
   |none=>
    simp only
    cases e2:f n with
    |none=>simp [e2]
    |some u=>
     have:((i:Int)==(n:Int))=false:=by simp only [beq_eq_false_iff_ne,ne_eq]; omega
     simp [e2,List.lookup,this]
  ·rw [if_neg c]
   simp only
   by_cases A:i=n
   ·subst A
    rw [if_pos I]
    cases e2:f i with
    |none=>simp [e2]
    |some u=>simp [e2]
   ·rw [if_neg I]
    have:((i:Int)==(n:Int))=false:=by simp only [beq_eq_false_iff_ne,ne_eq]; omega
    cases e2:f n with
    |none=>simp [e2]
    |some u=>simp [e2,List.lookup,this]
theorem yj:(er l hs n h i).lookup (q:Int)=if q<n then jZ l hs q (if q<i then h+1 else h) else none:=vh n q
theorem PO {f g:Nat→Option ag} {n i:Nat} (hi:i<n) {s:ag} (hf:(f i).isSome=true) (hg:g i=some s) (hfg: ∀ q,q≠i→f q=g q):ed ((List.range n).filterMap fun q=>(f q).map fun s=>((q:Int),s)) (i:Int) s=(List.range n).filterMap fun q=>(g q).map fun s=>((q:Int),s):=by
 unfold ed
 rw [if_pos (by rw [vh,if_pos hi]; exact hf),List.map_filterMap]
 apply n_
 intro q _
 by_cases e:q=i
 ·subst e
  obtain ⟨u,hu⟩:=Option.isSome_iff_exists.1 hf
  rw [hu,hg]; simp
 ·rw [hfg q e]
  cases g q with
  |none=>rfl
  |some u=>
   have: ¬ ((q:Int)=(i:Int)):=by omega
   simp [this]
theorem Pt {f g:Nat→Option ag} {n i:Nat} (hg:g i=none) (hfg: ∀ q,q≠i→f q=g q):e9 ((List.range n).filterMap fun q=>(f q).map fun s=>((q:Int),s)) (i:Int)=(List.range n).filterMap fun q=>(g q).map fun s=>((q:Int),s):=by
 unfold e9
 rw [List.filter_filterMap]
 apply n_
 intro q _
 by_cases e:q=i
 ·subst e
  rw [hg]
  cases f q with
  |none=>rfl
  |some u=>simp
 ·rw [hfg q e]
  cases g q with
  |none=>rfl
  |some u=>
   have: ¬ ((q:Int)=(i:Int)):=by omega
   simp [this]
theorem LO (hi:i<n) (h0:(jZ l hs i h).isSome=true) (h1:jZ l hs i (h+1)=some s):ed (er l hs n h i) (i:Int) s=er l hs n h (i+1):=by
 unfold er
 refine PO hi (by rw [if_neg (Nat.lt_irrefl i)]; exact h0) (by rw [if_pos (Nat.lt_succ_self i)]; exact h1) fun q hq=>?_
 by_cases c:q<i
 ·rw [if_pos c,if_pos I]
 ·rw [if_neg c,if_neg I]
theorem Fb (h1:jZ l hs i (h+1)=none):e9 (er l hs n h i) (i:Int)=er l hs n h (i+1):=by
 unfold er
 refine Pt (by rw [if_pos (Nat.lt_succ_self i)]; exact h1) fun q hq=>?_
 by_cases c:q<i
 ·rw [if_pos c,if_pos I]
 ·rw [if_neg c,if_neg I]
end
def Av (m:sV) (i:Int):sV:=m.filter fun p=> !decide (p.1=i)
def TD (m:sV) (i n:Int):Nat:=(Av m i).countP fun p=>decide (p.2.Hi<n)
def Vw (m:sV) (i n:Int):Nat:=(Av m i).countP fun p=>decide (p.2.Lo<n)
def Nr (m:sV) (i:Int) (own:ag):List Int:=own.Lo::((Av m i).flatMap fun p=>[p.2.Lo+1,p.2.Hi+1]).filter fun n=>decide (own.Lo≤n∧n≤own.Hi)
def P_ (m:sV) (i:Int) (own:ag) (k:Int):Prop:= ∃ n∈Nr m i own,(TD m i n:Int)+1≤k∧k≤(Vw m i n:Int)+1
noncomputable instance (m:sV) (i:Int) (own:ag) (k:Int):Decidable (P_ m i own k):=Classical.propDecidable _
section
variable {m:sV} {i:Int} {own:ag}
end
end
section
def rm (l:List Int):List (List Value):=l.map fun x=>[vI x]
theorem ui {l:List Int}:(rm l).length=l.length:=by simp [rm]
theorem G0 {l:List Int} {k:Nat} {x:Int} (h:l[k]? =some x):(rm l)[k]? =some [vI x]:=by simp [rm,h]
theorem HA {l:List Int} {k:Nat} {x:List Value} (h:(rm l)[k]? =some x): ∃ y,l[k]? =some y∧x=[vI y]:=by
 simp only [rm,fM,Option.map_eq_some_iff] at h
 obtain ⟨y,hy,rfl⟩:=h
 exact ⟨y,hy,U⟩
theorem Ee {l:List Int}: ∀ x∈rm l,x.length=1:=fun x hx=>by
 simp only [rm,cE] at hx
 obtain ⟨y,_,rfl⟩:=hx
 rfl
theorem yD {l:List Int}:l.take (rm l).length=l:=by rw [ui,List.take_of_length_le (Nat.le_refl _)]
theorem D2 {l:List Int} {k:Nat} {x:Int} (h:l[k]? =some x):l.take (k+1)=l.take k++[x]:=by
 rw [List.take_add_one,h]; rfl
def nG (l:List Int):List Int:=l.mergeSort fun a b=>decide (a≤b)
theorem mu {l:List Int}:(nG l).Perm l:=List.mergeSort_perm _ _
theorem ud {l:List Int}:(nG l).Pairwise (· ≤ ·):=by
 have:=List.pairwise_mergeSort (le:=fun (a b:Int)=>decide (a≤b)) (fun a b c A B=>by simp at A B ⊢; omega) (fun a b=>by simp; omega) l
 exact this.imp fun h=>by simpa using h
@[simp] theorem uu {l:List Int}:(nG l).length=l.length:=mu.length_eq
theorem Cj {l m:List Int} (h1:m.Perm l) (h2:m.Pairwise (· ≤ ·)):m=nG l:=sI (h1.trans mu.symm) h2 ud
end
section
open Go.RowKit
def sC (s:bH):List Value:=[vS s.a s.n s.c]
theorem zt: ∀ s,(sC s).length=1:=fun s=>rfl
theorem Lf (l:List bH): ∀ v∈(l.map sC).flatten,v.oneCell'=true:=kT (fun s=>rfl) l
def B4 (l:List ag) (a:RA):bH:=⟨a.1,l.length,a.2⟩
def MZ (l:List ag) (a:RA):List Value:=[vS a.1 l.length a.2]
def QU (l:List ag) (a:RA):List ax:=[rd a.1 l.length 2 (l.map ag.cells)]
def FZ (l:List ag) (a:RA):List ax:=[own a.1 a.2 Ju 2 (l.map ag.cells)]
theorem zr {ls:List (List ag)} {az:List RA}:(List.zipWith B4 ls az).map sC=List.zipWith MZ ls az:=by
 rw [List.map_zipWith]; rfl
theorem Q5: ∀ (m:List ag) (a:RA) (w:World),(∀ X∈FZ m a,X.holds w)→ ∀ X∈QU m a,X.holds w:=fun m a w h X hX=>by
 simp only [QU,cq] at hX
 subst hX
 have:=n9 (h _ (cq.2 rfl))
 simpa using this
theorem Ef {l:List (List ag)} {bz:List RA}:(bQ (bj FZ l bz)).wr=true:=by
 show (bj FZ l bz).all (·.wr)=true
 rw [cV]
 intro X hX
 obtain ⟨k,m,a,_,_,h⟩:=j5 hX
 simp only [FZ,cq] at h
 subst h; rfl
theorem Ng {ls:List (List ag)} {az:List RA} (h:az.length=ls.length):(List.zipWith MZ ls az).length=ls.length:=by simp [h]
noncomputable def gT (r:eZ) (i:Nat):List (List ag):=(r.aB.take i).map fun h=>h.map (gh r.ar)
noncomputable def fQ (r:eZ):List (List ag):=gT r r.aB.length
section
variable {r:eZ} {i:Nat} {h:List av} {tz:List RA} {a:RA}
theorem wa (hh:r.aB[i]? =some h):gT r (i+1)=gT r i++[h.map (gh r.ar)]:=by unfold gT; rw [List.take_add_one,hh,List.map_append]; rfl
theorem k9 (hi:i≤r.aB.length):(gT r i).length=i:=by unfold gT; rw [List.length_map,List.length_take]; omega
theorem j4:(fQ r).length=r.aB.length:=k9 (Nat.le_refl _)
theorem Dp (hh:r.aB[i]? =some h):(fQ r)[i]? =some (h.map (gh r.ar)):=by
 unfold fQ gT
 rw [List.take_length,fM,hh]; rfl
theorem GC {m:List ag} (hh:r.aB[i]? =some h) (hm:(fQ r)[i]? =some m):m=h.map (gh r.ar):=by
 rw [Dp hh] at hm
 exact (Option.some.inj hm).symm
theorem tG (hh:r.aB[i]? =some h) (hl:tz.length=i):List.zipWith B4 (gT r (i+1)) (tz++[a])=List.zipWith B4 (gT r i) tz++[B4 (h.map (gh r.ar)) a]:=by
 have hi:=(aW.1 hh).1
 rw [wa hh,List.zipWith_append (by rw [k9 I,hl])]
 rfl
theorem BC (hh:r.aB[i]? =some h) (hl:tz.length=i):bj FZ (gT r i) tz++[own a.1 a.2 Ju 2 ((h.map (gh r.ar)).map ag.cells)]=bj FZ (gT r (i+1)) (tz++[a]):=by
 have hi:=(aW.1 hh).1
 rw [wa hh,jx (by rw [k9 I,hl])]
 simp [bj,FZ]
end
theorem yL {lo hi:Int} {l:List Int}:qi lo hi l=true↔ ∀ x∈l,lo≤x∧x≤hi:=by
 unfold qi
 rw [Bool.not_eq_true',List.any_eq_false]
 constructor
 ·intro h x hx; have:=h x hx; simp only [decide_eq_true_eq] at this; omega
 ·intro h x hx; have:=h x hx; simp only [decide_eq_true_eq]; omega
abbrev GB (n:Nat):List Int:=(List.range n).map fun (k:Nat)=>(k:Int)
theorem x9 (n:Nat):(GB n).Pairwise (· ≤ ·):=by
 unfold GB
 rw [List.pairwise_map]
 exact List.pairwise_lt_range.imp fun h=>by omega
theorem BX {l:List Int} {n:Nat} (h:l.Perm (GB n)):nG l=GB n:=(Cj h.symm (x9 n)).symm
theorem GI {l:List Int} {n:Nat} (hl:l.length=n) (h: ∀ j,j<n→ ∀ x,(nG l)[j]? =some x→x=(j:Int)):l.Perm (GB n):=by
 have e:nG l=GB n:=by
  apply List.ext_getElem
  ·simp [hl]
  ·intro j A B
   have C:j<n:=by simpa using B
   have:=h j C _ (eD A)
   simpa using this
 rw [← e]; exact mu.symm
def r8 (r:eZ) (i:Nat):Prop:= ∀ j,j<i→(∀ x,(nG r.ck)[j]? =some x→x=(j:Int))∧ ∀ x y,r.aY[j]? =some x→0<j→r.aY[j-1]? =some y→y<x
def Dh (r:eZ) (h:List av):Prop:=h.length=r.aY.length∧ ∀ d∈h,iW r.ar d
def ku (r:eZ) (i:Nat):Prop:= ∀ (j:Nat) h,j<i→r.aB[j]? =some h→Dh r h
def oy (l:bk) (h:List av) (k:Nat):Prop:= ∀ (j:Nat) d,j<k→h[j]? =some d→iW l d
section
variable {r:eZ} {i:Nat}
theorem DZ:r8 r 0:=fun j hj=>absurd hj (Nat.not_lt_zero _)
theorem xS {x:Int} (h:r8 r i) (hd:(nG r.ck)[i]? =some x) (e:x=(i:Int)) (hs: ∀ x y,r.aY[i]? =some x→0<i→r.aY[i-1]? =some y→y<x):r8 r (i+1):=fun j hj=>by
 rcases Nat.lt_or_ge j i with q|q
 ·exact h j q
 ·obtain rfl:j=i:=by omega
  exact ⟨fun y hy=>by rw [hd] at hy; cases hy; exact e,hs⟩
theorem xU:ku r 0:=fun j h hj=>absurd hj (Nat.not_lt_zero _)
theorem yk {h:List av} (hh:ku r i) (hx:r.aB[i]? =some h) (ho:Dh r h):ku r (i+1):=fun j y hj hy=>by
 rcases Nat.lt_or_ge j i with q|q
 ·exact hh j y q hy
 ·obtain rfl:j=i:=by omega
  rw [hx] at hy; cases hy; exact ho
theorem vU {l:bk} {h:List av}:oy l h 0:=fun j d hj=>absurd hj (Nat.not_lt_zero _)
theorem vR {l:bk} {h:List av} {d:av} (ht:oy l h i) (hx:h[i]? =some d) (ho:iW l d):oy l h (i+1):=fun j y hj hy=>by
 rcases Nat.lt_or_ge j i with q|q
 ·exact ht j y q hy
 ·obtain rfl:j=i:=by omega
  rw [hx] at hy; cases hy; exact ho
theorem FY {h:List av} (hl:h.length=r.aY.length) (ht:oy r.ar h i) (hi:h.length≤i):Dh r h:=⟨hl,fun d hd=>by
 obtain ⟨j,hj⟩:=List.getElem?_of_mem hd
 exact ht j d (by have:=(aW.1 hj).1; omega) hj⟩
theorem IN {n:Nat} (hn:n=r.aY.length) (h1:1≤(r.aY.length:Int)∧(r.aY.length:Int)≤5) (h2:r.ck.length=r.aY.length) (h3:0≤r.mj∧r.mj≤5) (h4:1≤(r.aB.length:Int)∧(r.aB.length:Int)≤3) (h5:qi 0 9999 r.aY=true)
 (h6:r8 r n) (h7:ku r i) (hi:r.aB.length≤i):fK r:=by
 subst hn
 refine ⟨h1,h3,h4,fun k x hx=>⟨yL.1 h5 x (aR hx),fun y hk hy=>?_⟩,GI h2 fun j hj=>(h6 j hj).1,fun h hh=>?_⟩
 ·exact (h6 k (aW.1 hx).1).2 x y hx hk hy
 ·obtain ⟨j,hj⟩:=List.getElem?_of_mem hh
  exact h7 j h (by have:=(aW.1 hj).1; omega) hj
theorem fK.zF (h:fK r):r.ck.length=r.aY.length:=by have:=h.draw.length_eq; simpa using this
theorem fK.ins (h:fK r):qi 0 9999 r.aY=true:=yL.2 fun x hx=>by
 obtain ⟨j,hj⟩:=List.getElem?_of_mem hx
 exact (h.ids j x hj).1
theorem fK.drawn (h:fK r) {x:Int} (hx:(nG r.ck)[i]? =some x):x=(i:Int):=by
 rw [BX h.draw] at hx
 have hi:=(aW.1 hx).1
 simp at hi
 rw [fM,List.getElem?_range hi] at hx
 exact (Option.some.inj hx).symm
theorem fK.Np (h:fK r):ku r i:=fun j x _ hx=>h.gf x (aR hx)
theorem zp (h: ¬ dD r.ar=0):jK r=dD r.ar:=if_neg h
theorem kO (h:dD r.ar=0) (hn: ¬ fK r):jK r=60:=by unfold jK; rw [if_pos h,if_neg hn]
theorem BZ (h:dD r.ar=0) (hn:fK r):jK r=0:=by unfold jK; rw [if_pos h,if_pos hn]
theorem eU (h:jK r=0):dD r.ar=0∧fK r:=by
 unfold jK at h
 split at h
 ·split at h
  ·exact ⟨asm,asm⟩
  ·cases h
 ·exact absurd h asm
end
section
variable {r:eZ} {k i n h:Nat} {s:ag} {l:bk} {hs:List (List av)}
theorem ET: ∀ {k:Nat} {s:ag},ku r k→k≤r.aB.length→jZ r.ar r.aB i k=some s→0≤s.Lo∧s.Lo≤s.Hi∧s.Hi≤8640000*(k:Int)
 |0,s,_,_,h=>by
  simp only [jZ,Option.some.injEq] at h
  subst h; simp
 |k+1,s,hh,hk,h=>by
  unfold jZ at h
  split at h
  ·rename_i u d hu hd
   split at h
   ·cases h
   ·cases h
    have A:=ET (fun j x hj hx=>hh j x I hx) I hu
    obtain ⟨x,hx,hd⟩:=Option.bind_eq_some_iff.1 hd
    have B:=Fv ((hh k x I hx).2 d (aR hd))
    simp only
    push_cast
    omega
  ·cases h
theorem Nx:ed (er l hs i 0 0) (i:Int) ⟨0,0⟩=er l hs (i+1) 0 0:=by
 have A:(er l hs i 0 0).lookup (i:Int)=none:=by rw [yj,if_neg (Nat.lt_irrefl i)]
 unfold ed
 rw [A]
 simp only [Option.isSome_none,Bool.false_eq_true,if_false]
 unfold er
 rw [List.range_succ,List.filterMap_append]
 simp [jZ]
theorem K6 (hi:i<n):(er l hs n h i).lookup (i:Int)=jZ l hs i h:=by rw [yj,if_pos hi,if_neg (Nat.lt_irrefl i)]
theorem QI {α β:Type} {f:α→β} {tr:List β} {ht:List α} {x:β} {d:α} (e:tr=ht.map f) (hx:tr[i]? =some x) (hd:ht[i]? =some d):x=f d:=by
 rw [e,fM,hd] at hx
 exact (Option.some.inj hx).symm
theorem L5:er r.ar r.aB r.aY.length h 0=Bh r h:=Br
end
end
section
def q9 (r:eZ) (i:Int):Prop:=0≤i∧i≤(r.aY.length:Int)-1
instance (r:eZ) (i:Int):Decidable (q9 r i):=by unfold q9; infer_instance
section
variable {r:eZ} {i a b:Int}
end
end
section
def kY (d:av):Prop:=d.Out=false∧d.dj=false
instance (d:av):Decidable (kY d):=by unfold kY; infer_instance
def ew (l:bk) (f:aM):Prop:=(1≤f.Kind∧f.Kind≤3)∧(0≤f.gu∧f.gu≤f.To∧f.To≤86400000)∧0≤f.eL∧f.eL≤(if f.Kind=1 then 0 else l.bS)
instance (l:bk) (f:aM):Decidable (ew l f):=by unfold ew; infer_instance
/-- the descent that a protest is of -/
def qj (j:cN) (p:aX):Option av:=(j.Race.aB[p.jm.toNat]?).bind (·[p.iM.toNat]?)
structure vc (j:cN) (i:Nat) (p:aX):Prop where
 id:0≤p.Id∧p.Id≤9999
 up: ∀ q,0<i→j.aD[i-1]? =some q→q.Id<p.Id
 lj:q9 j.Race p.iM
 gf:0≤p.jm∧p.jm≤(j.Race.aB.length:Int)-1
 fault:0≤p.jU∧p.jU≤(j.ay.length:Int)-1
 jJ: ∃ d,qj j p=some d∧kY d∧d.a_.Start≤p.At∧p.At≤86400000
structure pP (j:cN):Prop where
 nf:(j.ay.length:Int)≤5
 fault: ∀ f∈j.ay,ew j.Race.ar f
 min_:0≤j.fX∧j.fX≤60
 sK:0≤j.yA∧j.yA≤100000
 np:(j.aD.length:Int)≤8
 g8: ∀ (i:Nat) p,j.aD[i]? =some p→vc j i p
noncomputable instance (j:cN):Decidable (pP j):=Classical.propDecidable _
noncomputable def dE (j:cN):Int:=if jK j.Race=0 then (if pP j then 0 else 70) else jK j.Race
theorem yV {j:cN} (h: ¬ jK j.Race=0):dE j=jK j.Race:=if_neg h
theorem jI {j:cN} (h:jK j.Race=0) (hn: ¬ pP j):dE j=70:=by unfold dE; rw [if_pos h,if_neg hn]
theorem ub {j:cN} (h:jK j.Race=0) (hn:pP j):dE j=0:=by unfold dE; rw [if_pos h,if_pos hn]
theorem eP {j:cN} (h:dE j=0):jK j.Race=0∧pP j:=by
 unfold dE at h
 split at h
 ·split at h
  ·exact ⟨asm,asm⟩
  ·cases h
 ·rename_i q; exact absurd h q
structure vX where
 Lo:Int
 Hi:Int
 each:Bool
 never:Bool
/-- whether it passed the beam in each truth -/
noncomputable def mY (l:bk) (r:cw) (b:Int):Bool:=(gn l r).all fun n=>decide (b<n)
noncomputable def cr (l:bk) (r:cw) (b:Int):vX:=
 if b<0 then ⟨r.Start,r.Start,true,false⟩
 else if de l r b=0 then ⟨(cY l r b).Lo,if mY l r b=true then (cY l r b).Hi else 86400000,mY l r b,false⟩
 else ⟨86400000,86400000,false,true⟩
def mM (f:aM):Int:=if f.Kind=1 then-1 else if f.Kind=2 then f.eL-1 else f.eL
def zj (l:bk) (f:aM):Int:=if f.Kind=1 then l.bS else f.eL
def m7 (f:aM) (a b:vX):Prop:=if f.Kind=3 then f.gu≤a.Lo∧a.Hi≤f.To else a.Hi≤f.To∧f.gu≤b.Lo
instance (f:aM) (a b:vX):Decidable (m7 f a b):=by unfold m7; infer_instance
def iQ (f:aM) (a b:vX):Int:=if a.never=true∨f.To<a.Lo∨b.Hi<f.gu then 0 else if a.each=true∧m7 f a b then 2 else 1
noncomputable def eC (l:bk) (f:aM) (d:av):Int:=if kY d then iQ f (cr l d.a_ (mM f)) (cr l d.a_ (zj l f)) else 0
theorem Jy {f:aM} {a b:vX}:0≤iQ f a b∧iQ f a b≤2:=by unfold iQ; split; omega; split<;>omega
theorem sh {l:bk} {f:aM} {d:av} (h: ¬ kY d):eC l f d=0:=if_neg h
def jn (P:Nat→Bool) (n:Nat):List Int:=((List.range n).filter P).map fun (i:Nat)=>(i:Int)
section
variable {P:Nat→Bool} {n q:Nat} {x:Int}
theorem qx (h:P n=true):jn P (n+1)=jn P n++[(n:Int)]:=by unfold jn; rw [List.range_succ,List.filter_append,List.map_append]; simp [h]
theorem pt (h:P n=false):jn P (n+1)=jn P n:=by unfold jn; rw [List.range_succ,List.filter_append,List.map_append]; simp [h]
theorem pX:(jn P n).length≤n:=by unfold jn; rw [List.length_map]; exact Nat.le_trans (List.length_filter_le _ _) (by rw [List.length_range]; exact Nat.le_refl _)
theorem C4:x∈jn P n↔ ∃ i:Nat,i<n∧x=(i:Int)∧P i=true:=by
 unfold jn
 simp only [cE,List.mem_filter,List.mem_range]
 constructor
 ·rintro ⟨i,⟨A,B⟩,rfl⟩; exact ⟨i,A,rfl,B⟩
 ·rintro ⟨i,A,rfl,B⟩; exact ⟨i,⟨A,B⟩,rfl⟩
theorem Ea: ∀ m,∃ l,jn P (q+m)=jn P q++l∧ ∀ y∈l,(q:Int)≤y
 |0=>⟨[],sm,fun y h=>by cases h⟩
 |m+1=>by
  obtain ⟨l,e,hl⟩:=Ea m
  cases hb:P (q+m) with
  |true=>exact ⟨l++[((q+m:Nat):Int)],by rw [show q+(m+1)=(q+m)+1 from rfl,qx hb,e,List.append_assoc],fun y hy=>by
   rcases gJ.1 hy with h|h
   ·exact hl y h
   ·rw [cq.1 h]; omega⟩
  |false=>exact ⟨l,by rw [show q+(m+1)=(q+m)+1 from rfl,pt hb,e],hl⟩
/-- the pointer that goes beside: the next one is this, if it is so, and a later one, or none, if not -/
theorem N9 (h:P q=true) (hq:q<n):(jn P n)[(jn P q).length]? =some (q:Int):=by
 obtain ⟨l,hl,_⟩:=Ea (P:=P) (q:=q+1) (n-(q+1))
 rw [show q+1+(n-(q+1))=n by omega,qx h] at hl
 rw [hl,List.append_assoc,List.getElem?_append_right (Nat.le_refl _),Nat.sub_self]; rfl
theorem P3 (h:P q=false) (hq:q<n) (hx:(jn P n)[(jn P q).length]? =some x):x≠(q:Int):=by
 obtain ⟨l,hl,hy⟩:=Ea (P:=P) (q:=q+1) (n-(q+1))
 rw [show q+1+(n-(q+1))=n by omega,pt h] at hl
 rw [hl,List.getElem?_append_right (Nat.le_refl _),Nat.sub_self] at hx
 have:=hy x (aR hx)
 omega
end
noncomputable def mR (j:cN) (p:aX):Int:=match qj j p with
 |some d=>if p.At≤(cr j.Race.ar d.a_ j.Race.ar.bS).Lo+60000*j.fX then 0 else if p.At≤(cr j.Race.ar d.a_ j.Race.ar.bS).Hi+60000*j.fX then 1 else 2
 |none=>2
noncomputable def iv (j:cN) (p:aX):Bool:=match qj j p,j.ay[p.jU.toNat]? with
 |some d,some f=>decide (mR j p≠2)&&decide (eC j.Race.ar f d≠0)
 |_,_=>false
/-- which protests are granted, so far -/
noncomputable def uh (j:cN) (n:Nat):List Int:=jn (fun i=>(j.aD[i]?).any (iv j)) n
noncomputable def iL (j:cN):List Int:=uh j j.aD.length
theorem sZ {j:cN} {n:Nat} {x:Int}:x∈uh j n↔ ∃ i:Nat,i<n∧x=(i:Int)∧ ∃ p,j.aD[i]? =some p∧iv j p=true:=by
 unfold uh
 rw [C4]
 refine exists_congr fun i=>and_congr Iff.rfl (and_congr Iff.rfl ?_)
 cases h:j.aD[i]? with
 |none=>simp
 |some p=>simp
/-- by faults of which something is so -/
def K3 (l:bk) (F:aM→Prop) (fs:List aM) (d:av):Prop:= ∃ f∈fs,F f∧ ¬ eC l f d=0
noncomputable def wx (l:bk) (F:aM→Prop) (fs:List aM) (h:List av) (n:Nat):List Int:=jn (fun s=>(h[s]?).any fun d=> @decide (K3 l F fs d) (Classical.propDecidable _)) n
noncomputable def gV (j:cN) (F:aM→Prop):List (List Int):=j.Race.aB.map fun h=>wx j.Race.ar F j.ay h h.length
/-- about which a protest is granted -/
def oM (j:cN) (f:aM):Prop:= ∃ (i:Nat) (p:aX),j.aD[i]? =some p∧iv j p=true∧j.ay[p.jU.toNat]? =some f
noncomputable def kI (j:cN):List (List Int):=gV j (oM j)
noncomputable def JZ (j:cN) (s:Int) (n:Nat):Nat:=(List.range n).countP fun i=>(j.aD[i]?).any fun p=>decide (p.iM=s)&& !iv j p
noncomputable def Dm (j:cN) (s:Int):Int:= -(JZ j s j.aD.length:Int)*j.yA
noncomputable def zc (j:cN):Int:=((iL j).length:Int)*j.yA
noncomputable def EK (j:cN):Int:=(j.aD.length:Int)*j.yA-zc j
end
section
/-- the places of which something is so; from the k-th on, all of them -/
def ib (P:Nat→Bool) (n k:Nat):List (Int×Bool):=((List.range n).filter fun q=>decide (k≤q)||P q).map fun (q:Nat)=>((q:Int),true)
section
variable {P:Nat→Bool} {n k q:Nat}
theorem xo {p:Int×Bool}:p∈ib P n k↔ ∃ q:Nat,q<n∧(k≤q∨P q=true)∧p=((q:Int),true):=by
 unfold ib
 simp only [cE,List.mem_filter,List.mem_range,Bool.or_eq_true,decide_eq_true_eq]
 constructor
 ·rintro ⟨q,⟨A,B⟩,rfl⟩; exact ⟨q,A,B,rfl⟩
 ·rintro ⟨q,A,B,rfl⟩; exact ⟨q,⟨A,B⟩,rfl⟩
theorem Ge:((ib P n k).map (·.1)).Nodup:=by
 unfold ib
 rw [List.map_map,List.nodup_iff_pairwise_ne,List.pairwise_map]
 have h:(List.range n).Pairwise (· ≠ ·):=by rw [← List.nodup_iff_pairwise_ne]; exact List.nodup_range
 exact (h.sublist List.filter_sublist).imp fun {a b} A e=>A (by have B:(a:Int)=(b:Int):=e; omega)
theorem IG:ed (ib P n 0) (n:Int) true=ib P (n+1) 0:=by
 have A:(ib P n 0).lookup (n:Int)=none:=iu.2 fun p hp e=>by
  obtain ⟨q,B,_,rfl⟩:=xo.1 hp
  simp only at e; omega
 unfold ed
 rw [A]
 show ib P n 0++[((n:Int),true)]=_
 unfold ib
 rw [List.range_succ,List.filter_append,List.map_append]
 simp
theorem KS (h:P k=false):e9 (ib P n k) (k:Int)=ib P n (k+1):=by
 unfold e9 ib
 rw [List.filter_map,List.filter_filter]
 congr 1
 apply List.filter_congr
 intro q _
 by_cases e:q=k
 ·subst e; simp [h]
 ·have A:decide ((q:Int)=(k:Int))=false:=bE I
  have B:decide (k≤q)=decide (k+1≤q):=gR.2 I
  simp only [Function.comp_def,A,B,Bool.not_false,Bool.true_and]
theorem HN (h:P k=true):ib P n k=ib P n (k+1):=by
 unfold ib
 congr 1
 apply List.filter_congr
 intro q _
 by_cases e:q=k
 ·subst e; simp [h]
 ·have A:decide (k≤q)=decide (k+1≤q):=gR.2 I
  rw [A]
theorem zi (hq:q<n):((ib P n n).lookup (q:Int)).getD false=P q:=by
 cases h:P q with
 |true=>
  have:((q:Int),true)∈ib P n n:=xo.2 ⟨q,hq,.inr h,rfl⟩
  rw [(lv Ge).1 this]; rfl
 |false=>
  have:(ib P n n).lookup (q:Int)=none:=iu.2 fun p hp e=>by
   obtain ⟨u,B,A,rfl⟩:=xo.1 hp
   simp only at e
   obtain rfl:u=q:=by omega
   rcases A with A|A
   ·omega
   ·rw [h] at A; cases A
  rw [this]; rfl
end
end
section
section
variable {j j':cN} {p:aX} {l:bk} {F G:aM→Prop} {fs:List aM} {h:List av} {n:Nat} {x:Int}
theorem Hz (hFG: ∀ f∈fs,(F f↔G f)):wx l F fs h n=wx l G fs h n:=by
 unfold wx
 congr 1
 funext s
 cases e:h[s]? with
 |none=>rfl
 |some d=>
  simp only [Option.any_some]
  rw [gR]
  exact ⟨fun ⟨f,A,B,C⟩=>⟨f,A,(hFG f A).1 B,C⟩,fun ⟨f,A,B,C⟩=>⟨f,A,(hFG f A).2 B,C⟩⟩
theorem E0 {k:Nat} {h:List av} (hh:j.Race.aB[k]? =some h):(gV j F)[k]? =some (wx j.Race.ar F j.ay h h.length):=by unfold gV; rw [fM,hh]; rfl
theorem Kq:(gV j F).length=j.Race.aB.length:=by unfold gV; rw [List.length_map]
/-- a fault that lasts longer touches no fewer, and surely no fewer -/
theorem Dx {f f':aM} {a b:vX} (hk:f'.Kind=f.Kind) (h1:f'.gu≤f.gu) (h2:f.To≤f'.To):iQ f a b≤iQ f' a b:=by
 have hs:m7 f a b→m7 f' a b:=fun q=>by
  unfold m7 at q ⊢
  rw [hk]
  by_cases e:f.Kind=3
  ·rw [if_pos e] at q ⊢; omega
  ·rw [if_neg e] at q ⊢; omega
 have hn:(a.never=true∨f'.To<a.Lo∨b.Hi<f'.gu)→(a.never=true∨f.To<a.Lo∨b.Hi<f.gu):=fun q=>by
  rcases q with q|q|q
  ·exact .inl q
  ·exact .inr (.inl I)
  ·exact .inr (.inr I)
 by_cases c:a.never=true∨f.To<a.Lo∨b.Hi<f.gu
 ·have e:iQ f a b=0:=if_pos c
  rw [e]; exact Jy.1
 ·have e:iQ f a b=if a.each=true∧m7 f a b then 2 else 1:=if_neg c
  have e':iQ f' a b=if a.each=true∧m7 f' a b then 2 else 1:=if_neg fun q=>c (hn q)
  rw [e,e']
  by_cases s:a.each=true∧m7 f a b
  ·rw [if_pos s,if_pos ⟨s.1,hs s.2⟩]; omega
  ·rw [if_neg s]; split<;>omega
theorem CA {d:av} {f f':aM} (hk:f'.Kind=f.Kind) (hw:f'.eL=f.eL) (h1:f'.gu≤f.gu) (h2:f.To≤f'.To):eC l f d≤eC l f' d:=by
 unfold eC
 split
 ·rw [show mM f'=mM f from by unfold mM; rw [hk,hw],show zj l f'=zj l f from by unfold zj; rw [hk,hw]]; exact Dx hk h1 h2
 ·omega
/-- of the whole time on the way -/
theorem tq {d:av} {f:aM} (hk:f.Kind=1) (hd:kY d) (he:de l d.a_ l.bS=0) (hl:0≤l.bS) (h0:(cY l d.a_ l.bS).Lo≤(cY l d.a_ l.bS).Hi) (hb:(cY l d.a_ l.bS).Hi≤86400000) (h1:d.a_.Start≤f.To) (h2:f.gu≤(cY l d.a_ l.bS).Lo):eC l f d=2:=by
 have A:mM f= -1:=by unfold mM; rw [if_pos hk]
 have B:zj l f=l.bS:=by unfold zj; rw [if_pos hk]
 have C:cr l d.a_ (-1)=⟨d.a_.Start,d.a_.Start,true,false⟩:=by unfold cr; rw [if_pos I]
 have D:(cr l d.a_ l.bS).Lo=(cY l d.a_ l.bS).Lo∧(cY l d.a_ l.bS).Hi≤(cr l d.a_ l.bS).Hi:=by
  unfold cr; rw [if_neg I,if_pos he]
  refine ⟨U,?_⟩
  show _≤if _ then _ else _
  split<;>omega
 unfold eC
 rw [if_pos hd,A,B,C]
 unfold iQ
 rw [if_neg (by rintro (q|q|q); cases q; simp only at q; omega; omega),if_pos ⟨rfl,by unfold m7; rw [if_neg I]; simp only; omega⟩]
end
end
end Go.Proofs.YtijpnoadncadoaaGreatDoor
