/-
 The statement juryRules_said, part 4 of 9: Short, Grow, Global, RunA, Tab, Run, Comp, Ret, LoopK, MapK, Watch, Passes, Keys, MapR, RangeG, Nest, WMaps, WBounds, PassG, Drop, Spot, First, Line, Wrap, Goes, OpenW, Wheres, LineR, Race, RaceS, Vals, RaceO, RaceV, Jury, JHits, JMore.
 Conditions: none.
-/
import Derived.Test.YtkaenmjhfajbkaaGreatDoorTv1
import Derived.Test.YtkaenmjhfajbkaaGreatDoorTv2
import Derived.Test.YtkaenmjhfajbkaaGreatDoorTv3
import Derived.Test.YtkaenmjhfajbkaaGreatDoorProg
import Derived.KernelRfl
import Derived.WideKeyRuns
namespace Go.Proofs.YtkaenmjhfajbkaaGreatDoor
set_option maxRecDepth 100000
set_option maxHeartbeats 4000000
set_option linter.unusedVariables false
section
open Go.RowKit
/-- an operation that hands v to its slot d -/
structure SE (E:fH) (ops:Array Oper) (o:Oper) (D:iw) (L:dF) (C:List ay) (v:Value) (d:Nat):Prop where
 h:SD E ops o D L C v
 o:o.dst=some d
 n:Nat.blt d E.n=true
theorem rS {E:fH} {ops:Array Oper} {Q:dv} {o:Oper} {rest:List Oper} {D:iw} {L:dF} {C:List ay} {v:Value} {d:Nat}
 (h:SE E ops o D L C v d) (k:RJ E ops Q rest D ((d,v)::L) C):RJ E ops Q (o::rest) D L C:=QQ h.h h.o h.n k
theorem dS {E:fH} {ops:Array Oper} {F:dF→Prop} {o:Oper} {rest:List Oper} {D:iw} {L:dF} {C:List ay} {v:Value} {d:Nat}
 (h:SE E ops o D L C v d) (k:DJ E ops D C F rest ((d,v)::L)):DJ E ops D C F (o::rest) L:=Sm h.h h.o h.n k
theorem eS {E:fH} {ops:Array Oper} {D:iw} {C' C1:List ay} {F:dF→Prop} {bs:List Bool} {o:Oper} {l rest:List Oper} {L:dF} {v:Value} {d:Nat}
 (hl:l=o::rest) (h:SE E ops o D L C' v d) (k:qS E ops D C' C1 F bs rest ((d,v)::L)):qS E ops D C' C1 F (false::bs) l L:=Se h.h hl h.o h.n k
theorem fS {E:fH} {ops:Array Oper} {D:iw} {C' C1:List ay} {F:dF→Prop} {bs:List Bool} {o:Oper} {l rest:List Oper} {L:dF} {v:Value} {d:Nat}
 (hl:l=o::rest) (h:SE E ops o D L C1 v d) (k:qS E ops D C' C1 F bs rest ((d,v)::L)):qS E ops D C' C1 F (true::bs) l L:=Tr h.h hl h.o h.n k
def gB (n:Nat) (ops:Array Oper) (L:dF) (d:Nat) (g:Option (Nat×Bool)):Bool:=ke ops L g&&Nat.blt d n
theorem Of {n:Nat} {ops:Array Oper} {L:dF} {d:Nat} {g:Option (Nat×Bool)} (h:gB n ops L d g=true):ke ops L g=true:=by
 unfold gB at h; rw [dk] at h; exact h.1
theorem Ol {n:Nat} {ops:Array Oper} {L:dF} {d:Nat} {g:Option (Nat×Bool)} (h:gB n ops L d g=true):Nat.blt d n=true:=by
 unfold gB at h; rw [dk] at h; exact h.2
def vF (n:Nat) (ops:Array Oper) (L:dF) (d:Nat) (g:Option (Nat×Bool)) (x:Operand):Option Value:=match gB n ops L d g with
 |true=>ev L x
 |false=>none
def bF (n:Nat) (ops:Array Oper) (L:dF) (d:Nat) (g:Option (Nat×Bool)) (x y:Operand):Option (Value×Value):=match gB n ops L d g with
 |true=>match ev L x,ev L y with
  |some u,some v=>some (u,v)
  |_,_=>none
 |false=>none
def pF (n:Nat) (ops:Array Oper) (L:dF) (d:Nat) (g:Option (Nat×Bool)) (c x y:Operand):Option Value:=match gB n ops L d g with
 |true=>match ev L c with
  |some (.bool true)=>ev L x
  |some (.bool false)=>ev L y
  |_=>none
 |false=>none
def xF (n:Nat) (ops:Array Oper) (L:dF) (d:Nat) (g:Option (Nat×Bool)) (x:Operand) (i:Nat):Option Value:=match vF n ops L d g x with
 |some (.tuple vs)=>vs.toList[i]?
 |_=>none
def uF (n:Nat) (ops:Array Oper) (L:dF) (d:Nat) (g:Option (Nat×Bool)) (xs ys:List Operand):Option (List Value×List Value):=match gB n ops L d g with
 |true=>match evs L xs,evs L ys with
  |some u,some v=>some (u,v)
  |_,_=>none
 |false=>none
def cF (n:Nat) (ops:Array Oper) (L:dF) (d:Nat) (g:Option (Nat×Bool)) (fop:Operand) (xs:List Operand):Option (FuncId×List Value):=match gB n ops L d g with
 |true=>match ev L fop,evs L xs with
  |some (.func (.func f) fi ca),some vs=>some (f,fi.toList++vs++ca.toList)
  |_,_=>none
 |false=>none
theorem jI {n:Nat} {ops:Array Oper} {L:dF} {d:Nat} {g:Option (Nat×Bool)} {x:Operand} {v:Value} (h:vF n ops L d g x=some v):ke ops L g=true∧Nat.blt d n=true∧ev L x=some v:=by
 unfold vF at h
 split at h
 ·rename_i hb; exact ⟨Of hb,Ol hb,h⟩
 ·cases h
theorem tN {n:Nat} {ops:Array Oper} {L:dF} {d:Nat} {g:Option (Nat×Bool)} {x y:Operand} {u v:Value} (h:bF n ops L d g x y=some (u,v)):ke ops L g=true∧Nat.blt d n=true∧ev L x=some u∧ev L y=some v:=by
 unfold bF at h
 split at h
 ·rename_i hb
  split at h
  ·rename_i hx hy; cases h; exact ⟨Of hb,Ol hb,hx,hy⟩
  ·cases h
 ·cases h
theorem O8 {n:Nat} {ops:Array Oper} {L:dF} {d:Nat} {g:Option (Nat×Bool)} {x y:List Operand} {u v:List Value} (h:uF n ops L d g x y=some (u,v)):ke ops L g=true∧Nat.blt d n=true∧evs L x=some u∧evs L y=some v:=by
 unfold uF at h
 split at h
 ·rename_i hb
  split at h
  ·rename_i hx hy; cases h; exact ⟨Of hb,Ol hb,hx,hy⟩
  ·cases h
 ·cases h
section
variable {E:fH} {ops:Array Oper} {Q:dv} {rest:List Oper} {D:List Deferred} {L:List (Nat×Value)} {C:List ay}
variable {d:Nat} {ty:TypeId} {ps:String} {af:Array Edge} {g:Option (Nat×Bool)}
theorem SX {o:Oper} {v:Value} (h:SD E ops o D L C v) (ho:o.dst=some d) (hd:Nat.blt d E.n=true):SE E ops o D L C v d:=⟨h,ho,hd⟩
theorem MV {x:Operand} {v:Value} (h:vF E.n ops L d g x=some v):SE E ops ⟨some d,.move x,ty,ps,af,g⟩ D L C v d:=by
 obtain ⟨A,B,F⟩:=jI h; exact ⟨FN A F,rfl,B⟩
theorem AG {x:Operand} {v:Value} (h:vF E.n ops L d g x=some v):SE E ops ⟨some d,.assign x,ty,ps,af,g⟩ D L C v d:=by
 obtain ⟨A,B,F⟩:=jI h; exact ⟨zO A F,rfl,B⟩
theorem OX {op:Op} (h:(Dn ops L g&&Nat.blt d E.n)=true):SE E ops ⟨some d,op,ty,ps,af,g⟩ D L C undef d:=by
 rw [dk] at h; exact ⟨Ju h.1,rfl,h.2⟩
theorem NT {xt:TypeId} {x:Operand} {b:Bool} (h:vF E.n ops L d g x=some (.bool b)):SE E ops ⟨some d,.unOp .not xt x,ty,ps,af,g⟩ D L C (.bool !b) d:=by
 obtain ⟨A,B,F⟩:=jI h; exact ⟨Lq A F,rfl,B⟩
theorem NG {xt:TypeId} {x:Operand} {n:Int} (h:vF E.n ops L d g x=some (.int .i64 n)) (hb:rR (-n)):SE E ops ⟨some d,.unOp .neg xt x,ty,ps,af,g⟩ D L C (.int .i64 (-n)) d:=by
 obtain ⟨A,B,F⟩:=jI h; exact ⟨Pf A F hb,rfl,B⟩
theorem PK {c x y:Operand} {v:Value} (h:pF E.n ops L d g c x y=some v):SE E ops ⟨some d,.pick c x y,ty,ps,af,g⟩ D L C v d:=by
 unfold pF at h
 split at h
 ·rename_i hb
  split at h
  ·rename_i hc; exact ⟨zr (Of hb) hc h,rfl,Ol hb⟩
  ·rename_i hc; exact ⟨z4 (Of hb) hc h,rfl,Ol hb⟩
  ·cases h
 ·cases h
theorem EX {x:Operand} {i:Nat} {v:Value} (h:xF E.n ops L d g x i=some v):SE E ops ⟨some d,.extract x i,ty,ps,af,g⟩ D L C v d:=by
 unfold xF at h
 split at h
 ·rename_i vs hv
  obtain ⟨A,B,F⟩:=jI hv
  exact ⟨xV (vs:=vs.toList) A (by simpa using F) h,U,B⟩
 ·cases h
theorem LN {x:Operand} {t e:TypeId} {A:OA} {n c:Nat} (h:vF E.n ops L d g x=some (.slice A n c)) (ht:E.P.underlying t=some (.slice e)):
 SE E ops ⟨some d,.call {callee:= .builtin .len,args:= #[x],argTypes:= #[t]},ty,ps,af,g⟩ D L C (.int .i64 n) d:=by
 obtain ⟨B,F,G⟩:=jI h; exact ⟨Kk B G ht,rfl,F⟩
theorem BI {op:BinOp} {xt yt:TypeId} {x y:Operand} {u v r:Value} (h:bF E.n ops L d g x y=some (u,v)) (hb:gR E.P op xt x y u v r):SE E ops ⟨some d,.binOp op xt x y yt,ty,ps,af,g⟩ D L C r d:=by
 obtain ⟨A,B,F,G⟩:=tN h; exact ⟨eQ A F G hb,rfl,B⟩
theorem MN {x y:Operand} {ts:Array TypeId} {a b:Int} {k:IntKind} (h:bF E.n ops L d g x y=some (.int k a,.int k b)):
 SE E ops ⟨some d,.call {callee:= .builtin .min,args:= #[x,y],argTypes:=ts},ty,ps,af,g⟩ D L C (.int k (min a b)) d:=by
 obtain ⟨A,B,F,G⟩:=tN h; exact ⟨Ql A F G,rfl,B⟩
theorem MX {x y:Operand} {ts:Array TypeId} {a b:Int} {k:IntKind} (h:bF E.n ops L d g x y=some (.int k a,.int k b)):
 SE E ops ⟨some d,.call {callee:= .builtin .max,args:= #[x,y],argTypes:=ts},ty,ps,af,g⟩ D L C (.int k (max a b)) d:=by
 obtain ⟨A,B,F,G⟩:=tN h; exact ⟨Qb A F G,rfl,B⟩
theorem FA (o':Nat) {x:Operand} {b o s f k:Nat} (h:vF E.n ops L d g x=some (.pointer (some ⟨b,o,none⟩))) (hf:sR E.P s f=some k) (ho:o+k=o'):
 SE E ops ⟨some d,.fieldAddr s x f,ty,ps,af,g⟩ D L C (.pointer (some ⟨b,o',none⟩)) d:=by
 obtain ⟨A,B,F⟩:=jI h; exact ⟨N2 A F hf ho,rfl,B⟩
theorem nQ (k':Nat) {x:Operand} {A:OA} {n sz:Nat} {es:List (List Value)} {k0 s f k:Nat} (h:vF E.n ops L d g x=some (.pointer (mB A k0))) (hR:g9 C (rd A n sz es).holds) (hn:0<n*sz)
 (hf:sR E.P s f=some k) (ho:k0+k=k'):SE E ops ⟨some d,.fieldAddr s x f,ty,ps,af,g⟩ D L C (.pointer (mB A k')) d:=by
 obtain ⟨B,F,G⟩:=jI h; exact ⟨Jr B G hR hn hf ho,rfl,F⟩
theorem Vn (k':Nat) {x:Operand} {A:OA} {ad:Addr} {k0 s f k:Nat} (h:vF E.n ops L d g x=some (.pointer (mB A k0))) (hA:A=some ad)
 (hf:sR E.P s f=some k) (ho:k0+k=k'):SE E ops ⟨some d,.fieldAddr s x f,ty,ps,af,g⟩ D L C (.pointer (mB A k')) d:=by
 obtain ⟨B,F,G⟩:=jI h; exact ⟨K2 B G hA hf ho,rfl,F⟩
theorem IA (k:Nat) {x ix:Operand} {A:OA} {n c sz e t:Nat} {es:List (List Value)} {j:Int} (h:bF E.n ops L d g x ix=some (.slice A n c,.int .i64 j)) (hR:g9 C (rd A n sz es).holds)
 (ht:tE E.P t=some (e,sz)) (hz:0<sz) (hj:j=(k:Int)) (hk:k<n):SE E ops ⟨some d,.indexAddr t x ix,ty,ps,af,g⟩ D L C (.pointer (mB A (k*sz))) d:=by
 obtain ⟨B,F,G,H⟩:=tN h; exact ⟨Rv B G H hR ht hz hj hk,rfl,F⟩
theorem VG (k o':Nat) {x ix:Operand} {b o n c sz e t:Nat} {j:Int} (h:bF E.n ops L d g x ix=some (.slice (some ⟨b,o,none⟩) n c,.int .i64 j))
 (ht:tE E.P t=some (e,sz)) (hj:j=(k:Int)) (hk:k<n) (ho:o+k*sz=o'):SE E ops ⟨some d,.indexAddr t x ix,ty,ps,af,g⟩ D L C (.pointer (some ⟨b,o',none⟩)) d:=by
 obtain ⟨A,B,F,G⟩:=tN h; exact ⟨Mp A F G ht hj hk ho,rfl,B⟩
/-- the whole of a block, a part of it, one cell -/
theorem LW (i:Nat) {x:Operand} {b t tt n:Nat} {cs:List Value} (h:vF E.n ops L d g x=some (.pointer (some ⟨b,0,none⟩))) (ht:tK E.P t=some (true,n)) (hC:C[i]? =some (cy b tt cs)) (hn:cs.length=n):
 SE E ops ⟨some d,.load t x,ty,ps,af,g⟩ D L C (.agg cs.toArray) d:=by
 obtain ⟨A,B,F⟩:=jI h; exact ⟨xu A F ht (qt i hC sm) hn,rfl,B⟩
theorem LP (vs:List Value) (i:Nat) {x:Operand} {b o t tt n:Nat} {cs:List Value} (h:vF E.n ops L d g x=some (.pointer (some ⟨b,o,none⟩))) (ht:tK E.P t=some (true,n)) (hC:C[i]? =some (cy b tt cs)) (hv:(cs.drop o).take vs.length=vs) (hn:vs.length=n):
 SE E ops ⟨some d,.load t x,ty,ps,af,g⟩ D L C (.agg vs.toArray) d:=by
 obtain ⟨A,B,F⟩:=jI h; exact ⟨xu A F ht (qt i hC hv) hn,rfl,B⟩
theorem VE (vs:List Value) (i:Nat) {x:Operand} {b o t tt n:Nat} {cs:List Value} (h:vF E.n ops L d g x=some (.pointer (some ⟨b,o,none⟩))) (ht:tK E.P t=some (true,n)) (hC:C[i]? =some (cy b tt cs).ro) (hv:(cs.drop o).take vs.length=vs) (hn:vs.length=n):
 SE E ops ⟨some d,.load t x,ty,ps,af,g⟩ D L C (.agg vs.toArray) d:=by
 obtain ⟨A,B,F⟩:=jI h; exact ⟨xu A F ht (wU i hC hv) hn,rfl,B⟩
theorem L1 (v:Value) (i:Nat) {x:Operand} {b o t tt n:Nat} {cs:List Value} (h:vF E.n ops L d g x=some (.pointer (some ⟨b,o,none⟩))) (ht:tK E.P t=some (false,n)) (hC:C[i]? =some (cy b tt cs)) (hv:(cs.drop o).take 1=[v]):
 SE E ops ⟨some d,.load t x,ty,ps,af,g⟩ D L C v d:=by
 obtain ⟨A,B,F⟩:=jI h; exact ⟨vK A F ht (qt i hC hv),rfl,B⟩
theorem IQ (v:Value) (i:Nat) {x:Operand} {b o t tt n:Nat} {cs:List Value} (h:vF E.n ops L d g x=some (.pointer (some ⟨b,o,none⟩))) (ht:tK E.P t=some (false,n)) (hC:C[i]? =some (cy b tt cs).ro) (hv:(cs.drop o).take 1=[v]):
 SE E ops ⟨some d,.load t x,ty,ps,af,g⟩ D L C v d:=by
 obtain ⟨A,B,F⟩:=jI h; exact ⟨vK A F ht (wU i hC hv),rfl,B⟩
theorem Ec (i:Nat) {x:Operand} {b t tt n:Nat} {v:Value} (h:vF E.n ops L d g x=some (.pointer (some ⟨b,0,none⟩))) (ht:tK E.P t=some (false,n)) (hC:C[i]? =some (cy b tt [v])):
 SE E ops ⟨some d,.load t x,ty,ps,af,g⟩ D L C v d:=by
 obtain ⟨A,B,F⟩:=jI h; exact ⟨vK A F ht (qt i hC rfl),rfl,B⟩
theorem Vu (i:Nat) {x:Operand} {b t tt n:Nat} {v:Value} (h:vF E.n ops L d g x=some (.pointer (some ⟨b,0,none⟩))) (ht:tK E.P t=some (false,n)) (hC:C[i]? =some (cy b tt [v]).ro):
 SE E ops ⟨some d,.load t x,ty,ps,af,g⟩ D L C v d:=by
 obtain ⟨A,B,F⟩:=jI h; exact ⟨vK A F ht (wU i hC rfl),rfl,B⟩
/-- what is read of a row -/
theorem gv (k o:Nat) (v:Value) {x:Operand} {A:OA} {t m n sz:Nat} {es:List (List Value)} {e:List Value} (h:vF E.n ops L d g x=some (.pointer (mB A m))) {nn:Nat} (ht:tK E.P t=some (false,nn)) (hR:g9 C (rd A n sz es).holds) (he:es[k]? =some e) (hm:m=k*sz+o) (hz:0<sz) (hv:(e.drop o).take 1=[v]):
 SE E ops ⟨some d,.load t x,ty,ps,af,g⟩ D L C v d:=by
 obtain ⟨B,F,G⟩:=jI h; exact ⟨vK B G ht (Oi hR he hm hz hv),rfl,F⟩
theorem jL (k o:Nat) (vs:List Value) {x:Operand} {A:OA} {t m n sz:Nat} {es:List (List Value)} {e:List Value} (h:vF E.n ops L d g x=some (.pointer (mB A m))) {nn:Nat} (ht:tK E.P t=some (true,nn)) (hR:g9 C (rd A n sz es).holds) (he:es[k]? =some e) (hm:m=k*sz+o) (hz:0<sz) (hv:(e.drop o).take vs.length=vs) (hn:vs.length=nn):
 SE E ops ⟨some d,.load t x,ty,ps,af,g⟩ D L C (.agg vs.toArray) d:=by
 obtain ⟨B,F,G⟩:=jI h; exact ⟨xu B G ht (Oi hR he hm hz hv) hn,rfl,F⟩
theorem CL {fop:Operand} {xs:Array Operand} {ts:Array TypeId} {f:FuncId} {args:List Value} {Cp:List ay} {v:Value} (c:dG E.P f args Cp v) (hC:kP C Cp) (h:cF E.n ops L d g fop xs.toList=some (f,args)):
 SE E ops ⟨some d,.call {callee:= .value fop,args:=xs,argTypes:=ts},ty,ps,af,g⟩ D L C v d:=by
 unfold cF at h
 split at h
 ·rename_i hb
  split at h
  ·rename_i hf hx; cases h; exact ⟨FG (Of hb) hf hx rfl c hC,rfl,Ol hb⟩
  ·cases h
 ·cases h
theorem FU {fn:Fn} {xs ys:Array Operand} {us vs:List Value} (h:uF E.n ops L d g xs.toList ys.toList=some (us,vs)):SE E ops ⟨some d,.makeFunc fn xs ys,ty,ps,af,g⟩ D L C (.func fn us.toArray vs.toArray) d:=by
 obtain ⟨A,B,F,G⟩:=O8 h; exact ⟨NN A F G,rfl,B⟩
theorem cX {fop:Operand} {xs:Array Operand} {ts:Array TypeId} {f:FuncId} {args:List Value} {Cp:List ay} {α:Type} {V:α→Value} {p:α→Prop} {N:α→List ay} (c:lR E.P f args Cp V p N) (hC:kP C Cp)
 (h:cF E.n ops L d g fop xs.toList=some (f,args)) (k: ∀ x,p x→RJ E ops Q rest D ((d,V x)::L) (N x++C)):
 RJ E ops Q (⟨some d,.call {callee:= .value fop,args:=xs,argTypes:=ts},ty,ps,af,g⟩::rest) D L C:=by
 unfold cF at h
 split at h
 ·rename_i hb
  split at h
  ·rename_i hf hx; cases h; exact Qm (Of hb) hf hx rfl c hC (Ol hb) k
  ·cases h
 ·cases h
/-- a box of a struct, of one cell -/
theorem dV {t:TypeId} {x:Operand} {cs:List Value} (h:vF E.n ops L d g x=some (.agg cs.toArray)) (k: ∀ b,RJ E ops Q rest D ((d,.pointer (some ⟨b,0,none⟩))::L) (cy b t cs::C)):
 RJ E ops Q (⟨some d,.box t x,ty,ps,af,g⟩::rest) D L C:=by
 obtain ⟨A,B,F⟩:=jI h; exact OC A F rfl B k
theorem wV {t:TypeId} {x:Operand} {v:Value} (h:vF E.n ops L d g x=some v) (hv:v.cells.toList=[v]) (k: ∀ b,RJ E ops Q rest D ((d,.pointer (some ⟨b,0,none⟩))::L) (cy b t [v]::C)):
 RJ E ops Q (⟨some d,.box t x,ty,ps,af,g⟩::rest) D L C:=by
 obtain ⟨A,B,F⟩:=jI h; exact OC A F hv B k
theorem AL {t:TypeId} {cs:List Value} (h:gB E.n ops L d g=true) (hz:tZ E.P t=some cs) (k: ∀ b,RJ E ops Q rest D ((d,.pointer (some ⟨b,0,none⟩))::L) (cy b t cs::C)):
 RJ E ops Q (⟨some d,.alloc t,ty,ps,af,g⟩::rest) D L C:=MC (Of h) hz (Ol h) k
/-- a store into the block at the place i of the state -/
def sF (ops:Array Oper) (L:dF) (g:Option (Nat×Bool)) (x y:Operand):Option (Value×Value):=match ke ops L g with
 |true=>match ev L x,ev L y with
  |some u,some v=>some (u,v)
  |_,_=>none
 |false=>none
theorem DY {ops:Array Oper} {L:dF} {g:Option (Nat×Bool)} {x y:Operand} {u v:Value} (h:sF ops L g x y=some (u,v)):ke ops L g=true∧ev L x=some u∧ev L y=some v:=by
 unfold sF at h
 split at h
 ·rename_i hb
  split at h
  ·rename_i hx hy; cases h; exact ⟨hb,hx,hy⟩
  ·cases h
 ·cases h
theorem HX {t n b o tt:Nat} {x y:Operand} {v:Value} {cs cs':List Value} {C':List ay} (i:Nat) (h:sF ops L g x y=some (.pointer (some ⟨b,o,none⟩),v)) (ht:(tK E.P t).map (·.2)=some n) (hC:C[i]? =some (cy b tt cs))
 (hk:(v.cells.toList.length==n&&v.cells.toList.all Value.oneCell'&&Nat.ble (o+n) cs.length)=true) (hcs:cs.take o++v.cells.toList++cs.drop (o+n)=cs') (hC':C.set i (cy b tt cs')=C') (k:RJ E ops Q rest D L C'):
 RJ E ops Q (⟨none,.store t x y,ty,ps,af,g⟩::rest) D L C:=by
 obtain ⟨A,B,F⟩:=DY h
 simp only [dk,beq_iff_eq] at hk
 exact hU i A B F ht U hk.1.1 hk.1.2 hC hk.2 hcs hC' k
/-- a store of a whole block, by a struct, by one cell -/
theorem L8 {t n b tt:Nat} {x y:Operand} {cs cs':List Value} {C':List ay} (i:Nat) (h:sF ops L g x y=some (.pointer (some ⟨b,0,none⟩),.agg cs'.toArray)) (ht:(tK E.P t).map (·.2)=some n) (hC:C[i]? =some (cy b tt cs))
 (hk:(Nat.beq cs'.length n&&cs'.all Value.oneCell'&&Nat.beq n cs.length)=true) (hC':C.set i (cy b tt cs')=C') (k:RJ E ops Q rest D L C'):
 RJ E ops Q (⟨none,.store t x y,ty,ps,af,g⟩::rest) D L C:=by
 obtain ⟨AA,J,K⟩:=DY h
 simp only [dk] at hk
 obtain ⟨⟨A,B⟩,F⟩:=hk
 have H:=Nat.eq_of_beq_eq_true A
 have G:=Nat.eq_of_beq_eq_true F
 exact hU i AA J K ht U H B hC (by rw [Nat.zero_add,G]; exact Nat.ble_self_eq_true _) (by rw [Nat.zero_add,G,List.take_zero,List.drop_length]; show []++cs'++[]=cs'; simp) hC' k
theorem TR {t n b tt:Nat} {x y:Operand} {v u:Value} {C':List ay} (i:Nat) (h:sF ops L g x y=some (.pointer (some ⟨b,0,none⟩),v)) (ht:(tK E.P t).map (·.2)=some n) (hC:C[i]? =some (cy b tt [u]))
 (hv:v.cells.toList=[v]) (hk:(Nat.beq n 1&&v.oneCell')=true) (hC':C.set i (cy b tt [v])=C') (k:RJ E ops Q rest D L C'):
 RJ E ops Q (⟨none,.store t x y,ty,ps,af,g⟩::rest) D L C:=by
 obtain ⟨G,H,AA⟩:=DY h
 rw [dk] at hk
 obtain ⟨A,B⟩:=hk
 have F:=Nat.eq_of_beq_eq_true A
 subst F
 exact hU i G H AA ht hv U (by simp [B]) hC U U hC' k
theorem e7 {t n b tt:Nat} {x y:Operand} {cs cs':List Value} (h:sF ops L g x y=some (.pointer (some ⟨b,0,none⟩),.agg cs'.toArray)) (ht:(tK E.P t).map (·.2)=some n) (hk:(Nat.beq cs'.length n&&cs'.all Value.oneCell'&&Nat.beq n cs.length)=true) (k:RJ E ops Q rest D L (cy b tt cs'::C)):RJ E ops Q (⟨none,.store t x y,ty,ps,af,g⟩::rest) D L (cy b tt cs::C):=L8 0 h ht rfl hk rfl k
theorem MI {t n b tt:Nat} {x y:Operand} {v u:Value} (h:sF ops L g x y=some (.pointer (some ⟨b,0,none⟩),v)) (ht:(tK E.P t).map (·.2)=some n) (hv:v.cells.toList=[v]) (hk:(Nat.beq n 1&&v.oneCell')=true) (k:RJ E ops Q rest D L (cy b tt [v]::C)):RJ E ops Q (⟨none,.store t x y,ty,ps,af,g⟩::rest) D L (cy b tt [u]::C):=TR 0 h ht rfl hv hk rfl k
theorem VB (cs':List Value) {t n b o tt:Nat} {x y:Operand} {v:Value} {cs:List Value} (h:sF ops L g x y=some (.pointer (some ⟨b,o,none⟩),v)) (ht:(tK E.P t).map (·.2)=some n) (hk:(v.cells.toList.length==n&&v.cells.toList.all Value.oneCell'&&Nat.ble (o+n) cs.length)=true) (hcs:cs.take o++v.cells.toList++cs.drop (o+n)=cs') (k:RJ E ops Q rest D L (cy b tt cs'::C)):RJ E ops Q (⟨none,.store t x y,ty,ps,af,g⟩::rest) D L (cy b tt cs::C):=HX 0 h ht rfl hk hcs rfl k
theorem pV {t n b tt:Nat} {x y:Operand} {cs cs':List Value} {A0:ay} (h:sF ops L g x y=some (.pointer (some ⟨b,0,none⟩),.agg cs'.toArray)) (ht:(tK E.P t).map (·.2)=some n) (hk:(Nat.beq cs'.length n&&cs'.all Value.oneCell'&&Nat.beq n cs.length)=true) (k:RJ E ops Q rest D L (A0::cy b tt cs'::C)):RJ E ops Q (⟨none,.store t x y,ty,ps,af,g⟩::rest) D L (A0::cy b tt cs::C):=L8 1 h ht rfl hk rfl k
theorem VA (cs':List Value) {t n b o tt:Nat} {x y:Operand} {v:Value} {cs:List Value} {A0:ay} (h:sF ops L g x y=some (.pointer (some ⟨b,o,none⟩),v)) (ht:(tK E.P t).map (·.2)=some n) (hk:(v.cells.toList.length==n&&v.cells.toList.all Value.oneCell'&&Nat.ble (o+n) cs.length)=true) (hcs:cs.take o++v.cells.toList++cs.drop (o+n)=cs') (k:RJ E ops Q rest D L (A0::cy b tt cs'::C)):RJ E ops Q (⟨none,.store t x y,ty,ps,af,g⟩::rest) D L (A0::cy b tt cs::C):=HX 1 h ht rfl hk hcs rfl k
theorem CT {t n b tt:Nat} {x y:Operand} {cs cs':List Value} {A0 A1:ay} (h:sF ops L g x y=some (.pointer (some ⟨b,0,none⟩),.agg cs'.toArray)) (ht:(tK E.P t).map (·.2)=some n) (hk:(Nat.beq cs'.length n&&cs'.all Value.oneCell'&&Nat.beq n cs.length)=true) (k:RJ E ops Q rest D L (A0::A1::cy b tt cs'::C)):RJ E ops Q (⟨none,.store t x y,ty,ps,af,g⟩::rest) D L (A0::A1::cy b tt cs::C):=L8 2 h ht rfl hk rfl k
theorem UL (cs':List Value) {t n b o tt:Nat} {x y:Operand} {v:Value} {cs:List Value} {A0 A1:ay} (h:sF ops L g x y=some (.pointer (some ⟨b,o,none⟩),v)) (ht:(tK E.P t).map (·.2)=some n) (hk:(v.cells.toList.length==n&&v.cells.toList.all Value.oneCell'&&Nat.ble (o+n) cs.length)=true) (hcs:cs.take o++v.cells.toList++cs.drop (o+n)=cs') (k:RJ E ops Q rest D L (A0::A1::cy b tt cs'::C)):RJ E ops Q (⟨none,.store t x y,ty,ps,af,g⟩::rest) D L (A0::A1::cy b tt cs::C):=HX 2 h ht rfl hk hcs rfl k
theorem Qh {t n b tt:Nat} {x y:Operand} {cs cs':List Value} {A0 A1 A2:ay} (h:sF ops L g x y=some (.pointer (some ⟨b,0,none⟩),.agg cs'.toArray)) (ht:(tK E.P t).map (·.2)=some n) (hk:(Nat.beq cs'.length n&&cs'.all Value.oneCell'&&Nat.beq n cs.length)=true) (k:RJ E ops Q rest D L (A0::A1::A2::cy b tt cs'::C)):RJ E ops Q (⟨none,.store t x y,ty,ps,af,g⟩::rest) D L (A0::A1::A2::cy b tt cs::C):=L8 3 h ht rfl hk rfl k
theorem VK {t n b tt:Nat} {x y:Operand} {v u:Value} {A0 A1 A2:ay} (h:sF ops L g x y=some (.pointer (some ⟨b,0,none⟩),v)) (ht:(tK E.P t).map (·.2)=some n) (hv:v.cells.toList=[v]) (hk:(Nat.beq n 1&&v.oneCell')=true) (k:RJ E ops Q rest D L (A0::A1::A2::cy b tt [v]::C)):RJ E ops Q (⟨none,.store t x y,ty,ps,af,g⟩::rest) D L (A0::A1::A2::cy b tt [u]::C):=TR 3 h ht rfl hv hk rfl k
theorem PY (cs':List Value) {t n b o tt:Nat} {x y:Operand} {v:Value} {cs:List Value} {A0 A1 A2:ay} (h:sF ops L g x y=some (.pointer (some ⟨b,o,none⟩),v)) (ht:(tK E.P t).map (·.2)=some n) (hk:(v.cells.toList.length==n&&v.cells.toList.all Value.oneCell'&&Nat.ble (o+n) cs.length)=true) (hcs:cs.take o++v.cells.toList++cs.drop (o+n)=cs') (k:RJ E ops Q rest D L (A0::A1::A2::cy b tt cs'::C)):RJ E ops Q (⟨none,.store t x y,ty,ps,af,g⟩::rest) D L (A0::A1::A2::cy b tt cs::C):=HX 3 h ht rfl hk hcs rfl k
theorem QL {t n b tt:Nat} {x y:Operand} {cs cs':List Value} {A0 A1 A2 A3:ay} (h:sF ops L g x y=some (.pointer (some ⟨b,0,none⟩),.agg cs'.toArray)) (ht:(tK E.P t).map (·.2)=some n) (hk:(Nat.beq cs'.length n&&cs'.all Value.oneCell'&&Nat.beq n cs.length)=true) (k:RJ E ops Q rest D L (A0::A1::A2::A3::cy b tt cs'::C)):RJ E ops Q (⟨none,.store t x y,ty,ps,af,g⟩::rest) D L (A0::A1::A2::A3::cy b tt cs::C):=L8 4 h ht rfl hk rfl k
theorem VL {t n b tt:Nat} {x y:Operand} {v u:Value} {A0 A1 A2 A3:ay} (h:sF ops L g x y=some (.pointer (some ⟨b,0,none⟩),v)) (ht:(tK E.P t).map (·.2)=some n) (hv:v.cells.toList=[v]) (hk:(Nat.beq n 1&&v.oneCell')=true) (k:RJ E ops Q rest D L (A0::A1::A2::A3::cy b tt [v]::C)):RJ E ops Q (⟨none,.store t x y,ty,ps,af,g⟩::rest) D L (A0::A1::A2::A3::cy b tt [u]::C):=TR 4 h ht rfl hv hk rfl k
theorem UZ (cs':List Value) {t n b o tt:Nat} {x y:Operand} {v:Value} {cs:List Value} {A0 A1 A2 A3:ay} (h:sF ops L g x y=some (.pointer (some ⟨b,o,none⟩),v)) (ht:(tK E.P t).map (·.2)=some n) (hk:(v.cells.toList.length==n&&v.cells.toList.all Value.oneCell'&&Nat.ble (o+n) cs.length)=true) (hcs:cs.take o++v.cells.toList++cs.drop (o+n)=cs') (k:RJ E ops Q rest D L (A0::A1::A2::A3::cy b tt cs'::C)):RJ E ops Q (⟨none,.store t x y,ty,ps,af,g⟩::rest) D L (A0::A1::A2::A3::cy b tt cs::C):=HX 4 h ht rfl hk hcs rfl k
theorem HY {t n b tt:Nat} {x y:Operand} {cs cs':List Value} {A0 A1 A2 A3 A4:ay} (h:sF ops L g x y=some (.pointer (some ⟨b,0,none⟩),.agg cs'.toArray)) (ht:(tK E.P t).map (·.2)=some n) (hk:(Nat.beq cs'.length n&&cs'.all Value.oneCell'&&Nat.beq n cs.length)=true) (k:RJ E ops Q rest D L (A0::A1::A2::A3::A4::cy b tt cs'::C)):RJ E ops Q (⟨none,.store t x y,ty,ps,af,g⟩::rest) D L (A0::A1::A2::A3::A4::cy b tt cs::C):=L8 5 h ht rfl hk rfl k
theorem Vw (cs':List Value) {t n b o tt:Nat} {x y:Operand} {v:Value} {cs:List Value} {A0 A1 A2 A3 A4:ay} (h:sF ops L g x y=some (.pointer (some ⟨b,o,none⟩),v)) (ht:(tK E.P t).map (·.2)=some n) (hk:(v.cells.toList.length==n&&v.cells.toList.all Value.oneCell'&&Nat.ble (o+n) cs.length)=true) (hcs:cs.take o++v.cells.toList++cs.drop (o+n)=cs') (k:RJ E ops Q rest D L (A0::A1::A2::A3::A4::cy b tt cs'::C)):RJ E ops Q (⟨none,.store t x y,ty,ps,af,g⟩::rest) D L (A0::A1::A2::A3::A4::cy b tt cs::C):=HX 5 h ht rfl hk hcs rfl k
theorem Rx {t n b tt:Nat} {x y:Operand} {cs cs':List Value} {A0 A1 A2 A3 A4 A5:ay} (h:sF ops L g x y=some (.pointer (some ⟨b,0,none⟩),.agg cs'.toArray)) (ht:(tK E.P t).map (·.2)=some n) (hk:(Nat.beq cs'.length n&&cs'.all Value.oneCell'&&Nat.beq n cs.length)=true) (k:RJ E ops Q rest D L (A0::A1::A2::A3::A4::A5::cy b tt cs'::C)):RJ E ops Q (⟨none,.store t x y,ty,ps,af,g⟩::rest) D L (A0::A1::A2::A3::A4::A5::cy b tt cs::C):=L8 6 h ht rfl hk rfl k
theorem VH {t n b tt:Nat} {x y:Operand} {v u:Value} {A0 A1 A2 A3 A4 A5:ay} (h:sF ops L g x y=some (.pointer (some ⟨b,0,none⟩),v)) (ht:(tK E.P t).map (·.2)=some n) (hv:v.cells.toList=[v]) (hk:(Nat.beq n 1&&v.oneCell')=true) (k:RJ E ops Q rest D L (A0::A1::A2::A3::A4::A5::cy b tt [v]::C)):RJ E ops Q (⟨none,.store t x y,ty,ps,af,g⟩::rest) D L (A0::A1::A2::A3::A4::A5::cy b tt [u]::C):=TR 6 h ht rfl hv hk rfl k
theorem TK (cs':List Value) {t n b o tt:Nat} {x y:Operand} {v:Value} {cs:List Value} {A0 A1 A2 A3 A4 A5:ay} (h:sF ops L g x y=some (.pointer (some ⟨b,o,none⟩),v)) (ht:(tK E.P t).map (·.2)=some n) (hk:(v.cells.toList.length==n&&v.cells.toList.all Value.oneCell'&&Nat.ble (o+n) cs.length)=true) (hcs:cs.take o++v.cells.toList++cs.drop (o+n)=cs') (k:RJ E ops Q rest D L (A0::A1::A2::A3::A4::A5::cy b tt cs'::C)):RJ E ops Q (⟨none,.store t x y,ty,ps,af,g⟩::rest) D L (A0::A1::A2::A3::A4::A5::cy b tt cs::C):=HX 6 h ht rfl hk hcs rfl k
theorem VF (cs':List Value) {t n b o tt:Nat} {x y:Operand} {v:Value} {cs:List Value} {A0 A1 A2 A3 A4 A5 A6:ay} (h:sF ops L g x y=some (.pointer (some ⟨b,o,none⟩),v)) (ht:(tK E.P t).map (·.2)=some n) (hk:(v.cells.toList.length==n&&v.cells.toList.all Value.oneCell'&&Nat.ble (o+n) cs.length)=true) (hcs:cs.take o++v.cells.toList++cs.drop (o+n)=cs') (k:RJ E ops Q rest D L (A0::A1::A2::A3::A4::A5::A6::cy b tt cs'::C)):RJ E ops Q (⟨none,.store t x y,ty,ps,af,g⟩::rest) D L (A0::A1::A2::A3::A4::A5::A6::cy b tt cs::C):=HX 7 h ht rfl hk hcs rfl k
theorem VD (cs':List Value) {t n b o tt:Nat} {x y:Operand} {v:Value} {cs:List Value} {A0 A1 A2 A3 A4 A5 A6 A7:ay} (h:sF ops L g x y=some (.pointer (some ⟨b,o,none⟩),v)) (ht:(tK E.P t).map (·.2)=some n) (hk:(v.cells.toList.length==n&&v.cells.toList.all Value.oneCell'&&Nat.ble (o+n) cs.length)=true) (hcs:cs.take o++v.cells.toList++cs.drop (o+n)=cs') (k:RJ E ops Q rest D L (A0::A1::A2::A3::A4::A5::A6::A7::cy b tt cs'::C)):RJ E ops Q (⟨none,.store t x y,ty,ps,af,g⟩::rest) D L (A0::A1::A2::A3::A4::A5::A6::A7::cy b tt cs::C):=HX 8 h ht rfl hk hcs rfl k
theorem VN (cs':List Value) {t n b o tt:Nat} {x y:Operand} {v:Value} {cs:List Value} {A0 A1 A2 A3 A4 A5 A6 A7 A8:ay} (h:sF ops L g x y=some (.pointer (some ⟨b,o,none⟩),v)) (ht:(tK E.P t).map (·.2)=some n) (hk:(v.cells.toList.length==n&&v.cells.toList.all Value.oneCell'&&Nat.ble (o+n) cs.length)=true) (hcs:cs.take o++v.cells.toList++cs.drop (o+n)=cs') (k:RJ E ops Q rest D L (A0::A1::A2::A3::A4::A5::A6::A7::A8::cy b tt cs'::C)):RJ E ops Q (⟨none,.store t x y,ty,ps,af,g⟩::rest) D L (A0::A1::A2::A3::A4::A5::A6::A7::A8::cy b tt cs::C):=HX 9 h ht rfl hk hcs rfl k
theorem Vh {t n b tt:Nat} {x y:Operand} {cs cs':List Value} {A0 A1 A2 A3 A4 A5 A6 A7 A8 A9:ay} (h:sF ops L g x y=some (.pointer (some ⟨b,0,none⟩),.agg cs'.toArray)) (ht:(tK E.P t).map (·.2)=some n) (hk:(Nat.beq cs'.length n&&cs'.all Value.oneCell'&&Nat.beq n cs.length)=true) (k:RJ E ops Q rest D L (A0::A1::A2::A3::A4::A5::A6::A7::A8::A9::cy b tt cs'::C)):RJ E ops Q (⟨none,.store t x y,ty,ps,af,g⟩::rest) D L (A0::A1::A2::A3::A4::A5::A6::A7::A8::A9::cy b tt cs::C):=L8 10 h ht rfl hk rfl k
theorem SA (cs':List Value) {t n b o tt:Nat} {x y:Operand} {v:Value} {cs:List Value} {A0 A1 A2 A3 A4 A5 A6 A7 A8 A9:ay} (h:sF ops L g x y=some (.pointer (some ⟨b,o,none⟩),v)) (ht:(tK E.P t).map (·.2)=some n) (hk:(v.cells.toList.length==n&&v.cells.toList.all Value.oneCell'&&Nat.ble (o+n) cs.length)=true) (hcs:cs.take o++v.cells.toList++cs.drop (o+n)=cs') (k:RJ E ops Q rest D L (A0::A1::A2::A3::A4::A5::A6::A7::A8::A9::cy b tt cs'::C)):RJ E ops Q (⟨none,.store t x y,ty,ps,af,g⟩::rest) D L (A0::A1::A2::A3::A4::A5::A6::A7::A8::A9::cy b tt cs::C):=HX 10 h ht rfl hk hcs rfl k
theorem RT {t n b tt:Nat} {x y:Operand} {cs cs':List Value} {A0 A1 A2 A3 A4 A5 A6 A7 A8 A9 A10:ay} (h:sF ops L g x y=some (.pointer (some ⟨b,0,none⟩),.agg cs'.toArray)) (ht:(tK E.P t).map (·.2)=some n) (hk:(Nat.beq cs'.length n&&cs'.all Value.oneCell'&&Nat.beq n cs.length)=true) (k:RJ E ops Q rest D L (A0::A1::A2::A3::A4::A5::A6::A7::A8::A9::A10::cy b tt cs'::C)):RJ E ops Q (⟨none,.store t x y,ty,ps,af,g⟩::rest) D L (A0::A1::A2::A3::A4::A5::A6::A7::A8::A9::A10::cy b tt cs::C):=L8 11 h ht rfl hk rfl k
theorem Sk (cs':List Value) {t n b o tt:Nat} {x y:Operand} {v:Value} {cs:List Value} {A0 A1 A2 A3 A4 A5 A6 A7 A8 A9 A10:ay} (h:sF ops L g x y=some (.pointer (some ⟨b,o,none⟩),v)) (ht:(tK E.P t).map (·.2)=some n) (hk:(v.cells.toList.length==n&&v.cells.toList.all Value.oneCell'&&Nat.ble (o+n) cs.length)=true) (hcs:cs.take o++v.cells.toList++cs.drop (o+n)=cs') (k:RJ E ops Q rest D L (A0::A1::A2::A3::A4::A5::A6::A7::A8::A9::A10::cy b tt cs'::C)):RJ E ops Q (⟨none,.store t x y,ty,ps,af,g⟩::rest) D L (A0::A1::A2::A3::A4::A5::A6::A7::A8::A9::A10::cy b tt cs::C):=HX 11 h ht rfl hk hcs rfl k
end
section
variable {E:fH} {y:Code} {Q:dv} {D:List Deferred} {L:List (Nat×Value)} {C:List ay}
theorem WS {id:Nat} {ops:Array Oper} (h: ∀ K:Act→World→Prop,(∀ D L C,WJ E y Q D L C→KJ E K D L C)→RJ E ops (Exit.then K Q) ops.toList D L C):WJ E (.seq (.region id ops false) y) Q D L C:=ag fun K hK=>ao (h K hK)
theorem RK {ops:Array Oper} {K:Act→World→Prop} {Q':dv} (hK: ∀ D L C,WJ E y Q D L C→KJ E K D L C) (k:WJ E y Q D L C):RJ E ops (Exit.then K Q') [] D L C:=aC (a_ (hK _ _ _ k))
theorem KK {K:Act→World→Prop} {Q':dv} (hK: ∀ D L C,WJ E y Q D L C→KJ E K D L C) (k:WJ E y Q D L C):KJ E (Exit.then K Q' .normal) D L C:=a_ (hK _ _ _ k)
theorem WK {K:Act→World→Prop} {Q':dv} (hK: ∀ D L C,WJ E y Q D L C→KJ E K D L C) (k:WJ E y Q D L C):WJ E .skip (Exit.then K Q') D L C:=cg (a_ (hK _ _ _ k))
end
theorem DT {p:Prop} [Decidable p] (h:decide p=true):p:=of_decide_eq_true h
theorem DF {p:Prop} [Decidable p] (h:decide p=false): ¬ p:=of_decide_eq_false h
theorem XT {p:Prop} [Decidable p] (h:(!decide p)=true): ¬ p:=by simpa using h
theorem XF {p:Prop} [Decidable p] (h:(!decide p)=false):p:=by simpa using h
/-- what a function hands back: one result, two, three, that lie in slots -/
theorem Q1 {E:fH} {fn:Func} {K:Act→World→Prop} {L:dF} {C:List ay} {t:Nat} {u v:Value} (hQ: ∀ D L C,LJ E fn (Ae E.w0 v) D L C→KJ E K D L C) (hS:E.S=tT) (hr:fn.results.toList=[.tmp t]) (hl:L.lookup t=some u) (e:u=v):KJ E K [] L C:=
 hQ _ _ _ (j4 (vs:=[u]) (by rw [hr]; exact ⟨hl,trivial⟩) fun w hs=>Cs e (by rw [hS] at hs; exact hs))
theorem Q2 {E:fH} {fn:Func} {K:Act→World→Prop} {L:dF} {C:List ay} {t s:Nat} {u x v:Value} (hQ: ∀ D L C,LJ E fn (Ae E.w0 v) D L C→KJ E K D L C) (hS:E.S=tT) (hr:fn.results.toList=[.tmp t,.tmp s]) (hl:L.lookup t=some u) (hm:L.lookup s=some x) (e:vT [u,x]=v):KJ E K [] L C:=
 hQ _ _ _ (j4 (vs:=[u,x]) (by rw [hr]; exact ⟨hl,hm,trivial⟩) fun w hs=>Cs e (by rw [hS] at hs; exact hs))
theorem Q3 {E:fH} {fn:Func} {K:Act→World→Prop} {L:dF} {C:List ay} {t s r:Nat} {u x y v:Value} (hQ: ∀ D L C,LJ E fn (Ae E.w0 v) D L C→KJ E K D L C) (hS:E.S=tT) (hr:fn.results.toList=[.tmp t,.tmp s,.tmp r]) (hl:L.lookup t=some u) (hm:L.lookup s=some x) (hn:L.lookup r=some y) (e:vT [u,x,y]=v):KJ E K [] L C:=
 hQ _ _ _ (j4 (vs:=[u,x,y]) (by rw [hr]; exact ⟨hl,hm,hn,trivial⟩) fun w hs=>Cs e (by rw [hS] at hs; exact hs))
theorem N1 {E:fH} {ops:Array Oper} {D:iw} {C' C1:List ay} {F:dF→List ay→Prop} {tb rem:List Nat} {n:Nat} {L:dF} {C:List ay} (i:Nat)
 (h:CS E ops D C' C1 F tb n (rem.filter (· != i)) i L C) (hm:rem.filter (fun i=>rem.all fun j=> !jc (qR ops) j i)=[i]:=by kernel_rfl):TN E ops D C' C1 F tb (n+1) rem L C:=mG [i] hm (iF h pL)
theorem NO {E:fH} {ops:Array Oper} {D:iw} {C' C1:List ay} {F:dF→List ay→Prop} {tb rem:List Nat} {n i:Nat} {L:dF} {C:List ay} {o:Oper} (ho:ops[i]? =some o) (ht:tb.contains i=false) (rem':List Nat)
 (h: ∀ K:Act→World→Prop,(∀ L' C'',(∀ w,St E.S E.w0 C'' w→St E.S E.w0 C' w)→TN E ops D C' C1 F tb n rem' L' C''→KJ E K D L' C'')→RJ E ops (NQ K) [o] D L C) (hr:rem=rem':=by kernel_rfl):CS E ops D C' C1 F tb n rem i L C:=Ve ho hr ht h
theorem RD {E:fH} {ops:Array Oper} {K:Act→World→Prop} {D:iw} {L:dF} {C C':List ay} {X:dF→List ay→Prop} (hT: ∀ L' C'',(∀ w,St E.S E.w0 C'' w→St E.S E.w0 C' w)→X L' C''→KJ E K D L' C'')
 (k:Nat) (h2:C.drop k=C') (h:X L C):RJ E ops (NQ K) [] D L C:=aC (hT _ _ (fun w hs=>h2▸hs.take (List.drop_sublist k C)) h)
theorem bf {L L':dF} (h:L'.map (fun p=>L.lookup p.1)=L'.map (fun p=>some p.2)):cR L L':=by
 induction L' with
 |nil=>exact cR.nil _
 |cons p t ih=>
  simp only [List.map_cons,List.cons.injEq] at h
  exact cR.cons h.1 (ih h.2)
theorem OU {C:List ay} {A A' B B' D D':ay} (i j k:Nat) (h1:C[i]? =some A') (e1:A'.holds=A.holds) (h2:C[j]? =some B') (e2:B'.holds=B.holds) (h3:C[k]? =some D') (e3:D'.holds=D.holds):kP C [A,B,D]:=eG i h1 e1 (eG j h2 e2 (eG k h3 e3 aS))
theorem bO {E:fH} {c:Operand} {x y:Code} {b:Bool} {Q:dv} {D:List Deferred} {L:List (Nat×Value)} {C:List ay} (hc:ev L c=some (.bool b)) (h2:b=false→WJ E y Q D L C) (h1:b=true→WJ E x Q D L C):WJ E (.cond c x y) Q D L C:=cb hc h1 h2
theorem cx {E:fH} {ops:Array Oper} {Q:dv} {rest:List Oper} {D:List Deferred} {L:List (Nat×Value)} {C:List ay} {t:Nat} {b:Bool} (h:L.lookup t=some (.bool b)) (h2:b=false→RJ E ops Q rest D ((t,.bool false)::L) C) (h1:b=true→RJ E ops Q rest D ((t,.bool true)::L) C):RJ E ops Q rest D L C:=bS h h1 h2
theorem jm {E:fH} {ops:Array Oper} {Q:dv} {rest:List Oper} {D:List Deferred} {L:List (Nat×Value)} {C:List ay} {t:Nat} {b:Bool} {os:List Oper} (h:L.lookup t=some (.bool b)) (h2:b=false→DJ E ops D C (fun L2=>RJ E ops Q rest D L2 C) os ((t,.bool false)::L)) (h1:b=true→DJ E ops D C (fun L2=>RJ E ops Q rest D L2 C) os ((t,.bool true)::L)):DJ E ops D C (fun L2=>RJ E ops Q rest D L2 C) os L:=ic h h1 h2
theorem cz {L:List (Nat×Value)}: ∀ (k:Nat) {L2:List (Nat×Value)} (q:cR L (L2.drop k)) (h:(L2.take k).map (fun p=>L.lookup p.1)=(L2.take k).map (fun p=>some p.2):=by rfl),cR L L2
 |0,_,q,_=>q
 |_+1,[],_,_=>cR.nil _
 |k+1,p::L2,q,h=>by
  obtain ⟨A,B⟩:=List.cons.inj (show L.lookup p.1::(L2.take k).map (fun p=>L.lookup p.1)=some p.2::(L2.take k).map (fun p=>some p.2) from h)
  exact cR.cons (t:=p.1) (v:=p.2) A (cz k q B)
theorem oX {E:fH} {ops:Array Oper} {Q:dv} {rest:List Oper} {D:List Deferred} {L:List (Nat×Value)} {C:List ay} {d:Nat} {ty:TypeId} {ps:String} {af:Array Edge} {g:Option (Nat×Bool)} {op:Op} (k:RJ E ops Q rest D ((d,undef)::L) C) (h:(Dn ops L g&&Nat.blt d E.n)=true:=by rfl):RJ E ops Q (⟨some d,op,ty,ps,af,g⟩::rest) D L C:=rS (OX h) k
theorem dX {E:fH} {ops:Array Oper} {F:List (Nat×Value)→Prop} {rest:List Oper} {D:List Deferred} {L:List (Nat×Value)} {C:List ay} {d:Nat} {ty:TypeId} {ps:String} {af:Array Edge} {g:Option (Nat×Bool)} {op:Op} (k:DJ E ops D C F rest ((d,undef)::L)) (h:(Dn ops L g&&Nat.blt d E.n)=true:=by rfl):DJ E ops D C F (⟨some d,op,ty,ps,af,g⟩::rest) L:=dS (OX h) k
end
section
open Go.RowKit
section
variable {E:fH} {ops:Array Oper} {Q:dv} {rest:List Oper} {D:List Deferred} {L:List (Nat×Value)} {C:List ay}
variable {d:Nat} {ty:TypeId} {ps:String} {af:Array Edge} {g:Option (Nat×Bool)}
theorem Ma {P:Program} {t e sz:Nat} (h:tE P t=some (e,sz)) (w:World):P.underlying t=some (.slice e)∧(sizeOf e).run P w= .ok sz w:=by
 unfold tE at h
 split at h
 ·rename_i e' hu
  split at h
  ·rename_i i hi
   cases h
   exact ⟨hu,by simp [sizeOf,typeInfo,hi]⟩
  ·cases h
 ·cases h
theorem Fv {P:Program} {t e:Nat} (h:P.underlying t=some (.slice e)):P.underlying t=some (.slice (P.elem t)):=by
 rw [h]; simp [Program.elem,h]
theorem Mc {P:Program} {t e:Nat} (h:P.underlying t=some (.slice e)):P.elem t=e:=by simp [Program.elem,h]
/-- s[:k] -/
theorem VM (k:Nat) {x hi:Operand} {t e sz n c:Nat} {A:OA} {j:Int} (h:bF E.n ops L d g x hi=some (.slice A n c,.int .i64 j)) (ht:tE E.P t=some (e,sz)) (hj:j=(k:Int)) (hk:k≤c):
 SE E ops ⟨some d,.slice t x none (some hi) none,ty,ps,af,g⟩ D L C (.slice A k c) d:=by
 obtain ⟨H,AA,J,K⟩:=tN h
 subst hj
 refine ⟨eM H sm fun a w B hs=>?_,U,AA⟩
 obtain ⟨hu,hz⟩:=Ma ht w
 have hr:=run_slice_h (P:=E.P) w t A n c (Fv hu) .i64 (k:Int) om om
 rw [Mc hu,hz] at hr
 have G:(if c=0 then A else A.map (·.add (0*sz)))=A:=by
  split
  ·rfl
  ·cases A with
   |none=>rfl
   |some ad=>simp [Addr.add]
 simp only [Result.andThen,Int.toNat_natCast,sliced,G,Nat.sub_zero] at hr
 have F:=run_sliceAt_slice (P:=E.P) w t (.slice A n c) none (some (.int .i64 (k:Int))) none (Fv hu)
 simp [execOp,B.ev J,B.ev K,F,hr]
/-- an element of a row whose place is known -/
theorem Vy (k:Nat) {x ix:Operand} {A:OA} {ad:Addr} {n c sz e t:Nat} {j:Int} (h:bF E.n ops L d g x ix=some (.slice A n c,.int .i64 j)) (hA:A=some ad) (ht:tE E.P t=some (e,sz)) (hj:j=(k:Int)) (hk:k<n):
 SE E ops ⟨some d,.indexAddr t x ix,ty,ps,af,g⟩ D L C (.pointer (mB A (k*sz))) d:=by
 obtain ⟨F,G,H,AA⟩:=tN h
 refine ⟨eM F sm fun a w B hs=>?_,U,G⟩
 subst hA hj
 simp [execOp,B.ev H,B.ev AA,mB,qX ht hk]
end
theorem E7 {w:World} {a:OA} {c e sz:Nat} {es:List (List Value)} (h:(own a c e sz es).holds w):es.length≤c:=by
 rcases h.2.2 with ⟨A,B⟩|⟨g,cap,cur,hv,_,_,C,_⟩
 ·omega
 ·injection hv with _ _ hc; omega
end
section
open Go.RowKit
/-- an array's length, its elements' type and their size -/
def aE (P:Program) (t:TypeId):Option (Nat×TypeId×Nat):=
 match P.underlying t with
 |some (.array n e)=>match P.info? e with
  |some i=>some (n,e,i.size)
  |none=>none
 |_=>none
theorem Fz {P:Program} {t n e sz:Nat} (h:aE P t=some (n,e,sz)) (w:World):P.underlying t=some (.array n e)∧(sizeOf e).run P w= .ok sz w:=by
 unfold aE at h
 split at h
 ·rename_i n' e' hu
  split at h
  ·rename_i i hi
   cases h
   exact ⟨hu,by simp [sizeOf,typeInfo,hi]⟩
  ·cases h
 ·cases h
theorem wI {P:Program} {t n e sz:Nat} (h:aE P t=some (n,e,sz)) (a:Addr) (w:World):
 (Instr.sliceAt t (.pointer (some a)) none none none).run P w= .ok (.slice (some a) n n) w:=by
 obtain ⟨hu,hz⟩:=Fz h w
 have A:a.add 0=a:=by simp [Addr.add]
 simp [Instr.sliceAt,underlying,hu,Instr.sureAddr,Instr.sliceBounds,hz,A]
theorem wH {P:Program} {t n e sz:Nat} (h:aE P t=some (n,e,sz)) (a:Addr) {k:Nat} (hk:k<n) (w:World):
 (Instr.indexAt t (.pointer (some a)) (.int .i64 (k:Int))).run P w= .ok (.pointer (some (a.add (k*sz)))) w:=by
 obtain ⟨hu,hz⟩:=Fz h w
 have A: ¬ n≤k:=by omega
 simp [Instr.indexAt,underlying,hu,Instr.sureAddr,asIntOf,hz,A]
 try exact fun h=>absurd h A
 try omega
section
variable {E:fH} {ops:Array Oper} {Q:dv} {rest:List Oper} {D:List Deferred} {L:List (Nat×Value)} {C:List ay}
variable {dst:Option Nat} {ty:TypeId} {ps:String} {af:Array Edge} {g:Option (Nat×Bool)}
theorem ED {x:Operand} {a:Addr} {t n e sz:Nat} (hg:ke ops L g=true) (hx:ev L x=some (.pointer (some a))) (ht:aE E.P t=some (n,e,sz)):
 SD E ops ⟨dst,.slice t x none none none,ty,ps,af,g⟩ D L C (.slice (some a) n n):=
 eM hg sm fun b w A hs=>by
  simp [execOp,A.ev hx,wI ht]
theorem D1 {x ix:Operand} {a:Addr} {t n e sz k:Nat} {j:Int} (hg:ke ops L g=true) (hx:ev L x=some (.pointer (some a))) (hi:ev L ix=some (.int .i64 j)) (ht:aE E.P t=some (n,e,sz)) (hj:j=(k:Int)) (hk:k<n):
 SD E ops ⟨dst,.indexAddr t x ix,ty,ps,af,g⟩ D L C (.pointer (mB (some a) (k*sz))):=
 eM hg sm fun b w A hs=>by
  subst hj
  simp [execOp,A.ev hx,A.ev hi,mB,wH ht a hk]
end
end
section
open Go.RowKit
/-- a table of facts on the program's types -/
structure Ds where
 tk:List (Nat×Bool×Nat)
 fo:List (Nat×List (Option Nat))
 sl:List Nat
def QM {α:Type}:List (Nat×α)→Nat→Option α
 |[],_=>none
 |(k,v)::l,t=>match Nat.beq k t with
  |true=>some v
  |false=>QM l t
theorem Be {α:Type}: ∀ {l:List (Nat×α)} {t:Nat} {v:α},QM l t=some v→(t,v)∈l
 |[],t,v,h=>by simp [QM] at h
 |(k,u)::l,t,v,h=>by
  unfold QM at h
  split at h
  ·rename_i hb
   cases h
   rw [Nat.eq_of_beq_eq_true hb]; exact cr
  ·exact dH _ (Be h)
def Ly:List Nat→Nat→Bool
 |[],_=>false
 |k::l,t=>match Nat.beq k t with
  |true=>true
  |false=>Ly l t
theorem BR: ∀ {l:List Nat} {t:Nat},Ly l t=true→t∈l
 |[],t,h=>by simp [Ly] at h
 |k::l,t,h=>by
  unfold Ly at h
  split at h
  ·rename_i hb
   rw [Nat.eq_of_beq_eq_true hb]; exact cr
  ·exact dH _ (BR h)
def Ds.Jb (T:Ds) (t:Nat):Option (Bool×Nat):=QM T.tk t
def Ds.foF (T:Ds) (s f:Nat):Option Nat:=match QM T.fo s with
 |some l=>match l[f]? with
  |some (some k)=>some k
  |_=>none
 |none=>none
structure lZ (P:Program) (T:Ds):Prop where
 tk: ∀ p∈T.tk,tK P p.1=some p.2
 fo: ∀ p∈T.fo,∀ f k,p.2[f]? =some (some k)→sR P p.1 f=some k
 sl: ∀ t∈T.sl,∃ e,P.underlying t=some (.slice e)
theorem lZ.Jb {P:Program} {T:Ds} (h:lZ P T) {t:Nat} {r:Bool×Nat} (e:T.Jb t=some r):tK P t=some r:=h.tk _ (Be e)
theorem lZ.foF {P:Program} {T:Ds} (h:lZ P T) {s f k:Nat} (e:T.foF s f=some k):sR P s f=some k:=by
 unfold Ds.foF at e
 split at e
 ·rename_i l hl
  split at e
  ·rename_i k' hk
   cases e
   exact h.fo _ (Be hl) f k hk
  ·cases e
 ·cases e
def TH (P:Program) (T:Ds):Bool:=(T.tk.all fun p=>decide (tK P p.1=some p.2))&&(T.fo.all fun p=>(List.range p.2.length).all fun f=>match p.2[f]? with
 |some (some k)=>decide (sR P p.1 f=some k)
 |_=>true)&&T.sl.all fun t=>match P.underlying t with
 |some (.slice _)=>true
 |_=>false
theorem Qa {P:Program} {T:Ds} (h:TH P T=true):lZ P T:=by
 unfold TH at h
 rw [dk,dk] at h
 obtain ⟨⟨B,C⟩,D⟩:=h
 refine ⟨fun p hp=>by simpa using c_.1 B p hp,fun p hp f k hk=>?_,fun t ht=>?_⟩
 ·have A:=c_.1 (c_.1 C p hp) f (List.mem_range.2 (aZ.1 hk).1)
  rw [hk] at A
  simpa using A
 ·have A:=c_.1 D t ht
  split at A
  ·rename_i e he; exact ⟨e,he⟩
  ·cases A
end
section
theorem pZ:tK Tryz.prog 3=some (false,1):=by kernel_rfl
theorem VC:tK Tryz.prog 4=some (false,1):=by kernel_rfl
theorem TL:tK Tryz.prog 5=some (false,1):=by kernel_rfl
theorem Uc:tK Tryz.prog 22=some (false,1):=by kernel_rfl
theorem SC:tK Tryz.prog 24=some (true,1):=by kernel_rfl
theorem P_:tK Tryz.prog 25=some (false,1):=by kernel_rfl
theorem Vi:tK Tryz.prog 26=some (false,1):=by kernel_rfl
theorem Ux:tK Tryz.prog 28=some (true,7):=by kernel_rfl
theorem U5:tK Tryz.prog 29=some (false,1):=by kernel_rfl
theorem U3:tK Tryz.prog 30=some (false,1):=by kernel_rfl
theorem Uq:tK Tryz.prog 32=some (true,11):=by kernel_rfl
theorem T1:tK Tryz.prog 33=some (false,1):=by kernel_rfl
theorem Us:tK Tryz.prog 34=some (false,1):=by kernel_rfl
theorem T_:tK Tryz.prog 36=some (true,15):=by kernel_rfl
theorem xw:tK Tryz.prog 38=some (true,2):=by kernel_rfl
theorem Uj:tK Tryz.prog 39=some (false,1):=by kernel_rfl
theorem U0:tK Tryz.prog 41=some (true,3):=by kernel_rfl
theorem Ug:tK Tryz.prog 43=some (true,7):=by kernel_rfl
theorem TW:tK Tryz.prog 51=some (false,1):=by kernel_rfl
theorem UN:tK Tryz.prog 75=some (false,1):=by kernel_rfl
theorem Vl:tK Tryz.prog 86=some (true,4):=by kernel_rfl
theorem UW:tK Tryz.prog 97=some (true,15):=by kernel_rfl
theorem SR:tK Tryz.prog 102=some (true,5):=by kernel_rfl
theorem Tp:tK Tryz.prog 105=some (false,1):=by kernel_rfl
theorem Rp:tK Tryz.prog 113=some (true,2):=by kernel_rfl
theorem SB:tK Tryz.prog 121=some (false,1):=by kernel_rfl
theorem Rk:tK Tryz.prog 122=some (false,1):=by kernel_rfl
theorem Rl:tK Tryz.prog 123=some (false,1):=by kernel_rfl
theorem TA:tK Tryz.prog 128=some (true,9):=by kernel_rfl
theorem Tk:tK Tryz.prog 130=some (true,3):=by kernel_rfl
theorem Ob:tK Tryz.prog 131=some (false,1):=by kernel_rfl
theorem Ts:tK Tryz.prog 133=some (true,2):=by kernel_rfl
theorem Jq:tK Tryz.prog 135=some (true,3):=by kernel_rfl
theorem Sg:tK Tryz.prog 179=some (true,2):=by kernel_rfl
theorem Tb:tK Tryz.prog 180=some (true,8):=by kernel_rfl
theorem SG:tK Tryz.prog 183=some (true,4):=by kernel_rfl
theorem Ty:tK Tryz.prog 192=some (true,4):=by kernel_rfl
theorem Rm:tK Tryz.prog 199=some (true,1):=by kernel_rfl
theorem S6:tK Tryz.prog 200=some (true,4):=by kernel_rfl
theorem Re:tK Tryz.prog 251=some (true,1):=by kernel_rfl
theorem RE:tK Tryz.prog 274=some (false,1):=by kernel_rfl
theorem Q5:tK Tryz.prog 279=some (false,1):=by kernel_rfl
theorem SK:tK Tryz.prog 281=some (true,2):=by kernel_rfl
theorem SM:tK Tryz.prog 287=some (true,3):=by kernel_rfl
theorem En:(tK Tryz.prog 3).map (·.2)=some 1:=by rw [pZ]; rfl
theorem Vg:(tK Tryz.prog 4).map (·.2)=some 1:=by rw [VC]; rfl
theorem Un:(tK Tryz.prog 22).map (·.2)=some 1:=by rw [Uc]; rfl
theorem Rd:(tK Tryz.prog 24).map (·.2)=some 1:=by rw [SC]; rfl
theorem QU:(tK Tryz.prog 25).map (·.2)=some 1:=by rw [P_]; rfl
theorem Sr:(tK Tryz.prog 26).map (·.2)=some 1:=by rw [Vi]; rfl
theorem JX:(tK Tryz.prog 28).map (·.2)=some 7:=by rw [Ux]; rfl
theorem Bs:(tK Tryz.prog 29).map (·.2)=some 1:=by rw [U5]; rfl
theorem Q9:(tK Tryz.prog 30).map (·.2)=some 1:=by rw [U3]; rfl
theorem oZ:(tK Tryz.prog 32).map (·.2)=some 11:=by rw [Uq]; rfl
theorem Ut:(tK Tryz.prog 33).map (·.2)=some 1:=by rw [T1]; rfl
theorem T2:(tK Tryz.prog 34).map (·.2)=some 1:=by rw [Us]; rfl
theorem QR:(tK Tryz.prog 36).map (·.2)=some 15:=by rw [T_]; rfl
theorem cW:(tK Tryz.prog 38).map (·.2)=some 2:=by rw [xw]; rfl
theorem QB:(tK Tryz.prog 39).map (·.2)=some 1:=by rw [Uj]; rfl
theorem O1:(tK Tryz.prog 41).map (·.2)=some 3:=by rw [U0]; rfl
theorem Et:(tK Tryz.prog 43).map (·.2)=some 7:=by rw [Ug]; rfl
theorem UU:(tK Tryz.prog 51).map (·.2)=some 1:=by rw [TW]; rfl
theorem Rn:(tK Tryz.prog 75).map (·.2)=some 1:=by rw [UN]; rfl
theorem Ru:(tK Tryz.prog 86).map (·.2)=some 4:=by rw [Vl]; rfl
theorem H9:(tK Tryz.prog 97).map (·.2)=some 15:=by rw [UW]; rfl
theorem BU:(tK Tryz.prog 102).map (·.2)=some 5:=by rw [SR]; rfl
theorem RN:(tK Tryz.prog 105).map (·.2)=some 1:=by rw [Tp]; rfl
theorem pE:(tK Tryz.prog 113).map (·.2)=some 2:=by rw [Rp]; rfl
theorem Rc:(tK Tryz.prog 121).map (·.2)=some 1:=by rw [SB]; rfl
theorem TB:(tK Tryz.prog 122).map (·.2)=some 1:=by rw [Rk]; rfl
theorem F_:(tK Tryz.prog 123).map (·.2)=some 1:=by rw [Rl]; rfl
theorem IC:(tK Tryz.prog 128).map (·.2)=some 9:=by rw [TA]; rfl
theorem uD:(tK Tryz.prog 130).map (·.2)=some 3:=by rw [Tk]; rfl
theorem OI:(tK Tryz.prog 131).map (·.2)=some 1:=by rw [Ob]; rfl
theorem zI:(tK Tryz.prog 133).map (·.2)=some 2:=by rw [Ts]; rfl
theorem Ow:(tK Tryz.prog 135).map (·.2)=some 3:=by rw [Jq]; rfl
theorem JG:(tK Tryz.prog 179).map (·.2)=some 2:=by rw [Sg]; rfl
theorem Tc:(tK Tryz.prog 180).map (·.2)=some 8:=by rw [Tb]; rfl
theorem mX:(tK Tryz.prog 183).map (·.2)=some 4:=by rw [SG]; rfl
theorem qA:(tK Tryz.prog 192).map (·.2)=some 4:=by rw [Ty]; rfl
theorem Fi:(tK Tryz.prog 199).map (·.2)=some 1:=by rw [Rm]; rfl
theorem Si:(tK Tryz.prog 200).map (·.2)=some 4:=by rw [S6]; rfl
theorem JS:(tK Tryz.prog 251).map (·.2)=some 1:=by rw [Re]; rfl
theorem zT:(tK Tryz.prog 274).map (·.2)=some 1:=by rw [RE]; rfl
theorem Ig:(tK Tryz.prog 279).map (·.2)=some 1:=by rw [Q5]; rfl
theorem tf:(tK Tryz.prog 281).map (·.2)=some 2:=by rw [SK]; rfl
theorem RY:(tK Tryz.prog 287).map (·.2)=some 3:=by rw [SM]; rfl
theorem zY:aE Tryz.prog 207=some (3,206,2):=by kernel_rfl
theorem Jm:sR Tryz.prog 28 2=some 2:=by kernel_rfl
theorem EV:sR Tryz.prog 133 1=some 1:=by kernel_rfl
theorem Ui:sP Tryz.prog 71=true:=by kernel_rfl
theorem ld (l:List ai): ∀ v∈(l.map ai.cells).flatten,v.oneCell'=true:=kX (fun _=>rfl) l
theorem vG (l:List bg): ∀ v∈(l.map bg.cells).flatten,v.oneCell'=true:=kX (fun _=>rfl) l
theorem th (l:List bR): ∀ v∈(l.map bR.cells).flatten,v.oneCell'=true:=kX (fun _=>rfl) l
theorem oy (l:List aH): ∀ v∈(l.map aH.cells).flatten,v.oneCell'=true:=kX (fun _=>rfl) l
theorem od (l:List aD): ∀ v∈(l.map aD.cells).flatten,v.oneCell'=true:=kX (fun _=>rfl) l
theorem qN (l:List cE): ∀ v∈(l.map cE.cells).flatten,v.oneCell'=true:=kX (fun _=>rfl) l
theorem qK (l:List cO): ∀ v∈(l.map cO.cells).flatten,v.oneCell'=true:=kX (fun _=>rfl) l
theorem TC:tA Tryz.prog 22=some (128,9,72,(Value.agg [(vI 0),(vI 0),(vI 0),(vI 0),(vI 0),(vI 0),(vI 0),(Value.int .u8 0),(vI 0)].toArray)):=by kernel_rfl
theorem Ri:tA Tryz.prog 25=some (133,2,32,(Value.agg [(vI 0),(vS none 0 0)].toArray)):=by kernel_rfl
theorem Rh:tA Tryz.prog 26=some (137,4,32,(Value.agg [(vI 0),(vI 0),(vI 0),(vI 0)].toArray)):=by kernel_rfl
theorem pg:tA Tryz.prog 29=some (3,1,8,(vI 0)):=by kernel_rfl
theorem Sl:tA Tryz.prog 30=some (75,1,24,(vS none 0 0)):=by kernel_rfl
theorem UA:tA Tryz.prog 33=some (86,4,32,(Value.agg [(Value.int .u8 0),(vI 0),(vI 0),(vI 0)].toArray)):=by kernel_rfl
theorem Ul:tA Tryz.prog 34=some (102,5,40,(Value.agg [(vI 0),(vI 0),(vI 0),(vI 0),(vI 0)].toArray)):=by kernel_rfl
theorem QZ:tA Tryz.prog 39=some (113,2,16,(Value.agg [(vI 0),(vI 0)].toArray)):=by kernel_rfl
theorem SH:tA Tryz.prog 51=some (29,1,24,(vS none 0 0)):=by kernel_rfl
theorem Tw:tA Tryz.prog 75=some (43,7,64,(Value.agg [(vB false),(vB false),(vI 0),(vI 0),(vI 0),(vI 0),(vS none 0 0)].toArray)):=by kernel_rfl
theorem Ji:tA Tryz.prog 105=some (4,1,1,(vB false)):=by kernel_rfl
theorem Gd:tA Tryz.prog 121=some (38,2,16,(Value.agg [(vI 0),(vI 0)].toArray)):=by kernel_rfl
theorem Ou:tA Tryz.prog 122=some (121,1,24,(vS none 0 0)):=by kernel_rfl
theorem N5:tA Tryz.prog 131=some (130,3,24,(Value.agg [(vI 0),(vI 0),(vI 0)].toArray)):=by kernel_rfl
theorem OG:tA Tryz.prog 236=some (240,3,72,(Value.agg [(vS none 0 0),(vS none 0 0),(vS none 0 0)].toArray)):=by kernel_rfl
theorem Og:tA Tryz.prog 273=some (123,1,8,(Value.map none)):=by kernel_rfl
theorem Bw:tA Tryz.prog 274=some (279,1,8,(Value.map none)):=by kernel_rfl
theorem TZ:tB Tryz.prog 24=some ([(vS none 0 0)],[(0,1)]):=by kernel_rfl
theorem yV:tB Tryz.prog 32=some ([(vS none 0 0),(vI 0),(vS none 0 0),(vS none 0 0),(vI 0),(vI 0),(vI 0),(vS none 0 0),(vS none 0 0),(vI 0),(vS none 0 0)],[(0,7),(7,1),(8,1),(9,1),(10,1)]):=by kernel_rfl
theorem g6:tB Tryz.prog 38=some ([(vI 0),(vI 0)],[(0,1),(1,1)]):=by kernel_rfl
theorem Uo:tB Tryz.prog 97=some ([(vS none 0 0),(vI 0),(vS none 0 0),(vS none 0 0),(vI 0),(vI 0),(vI 0),(vS none 0 0),(vS none 0 0),(vI 0),(vS none 0 0),(vS none 0 0),(vS none 0 0),(vI 0),(vI 0)],[(0,15)]):=by kernel_rfl
theorem Ov:tB Tryz.prog 113=some ([(vI 0),(vI 0)],[(0,1),(1,1)]):=by kernel_rfl
theorem RS:tB Tryz.prog 125=some ([(vS none 0 0),(vI 0),(vS none 0 0),(vS none 0 0),(vI 0),(vI 0),(vI 0),(vS none 0 0),(vS none 0 0),(vI 0),(vS none 0 0),(vS none 0 0),(Value.map none)],[(0,11),(11,1),(12,1)]):=by kernel_rfl
theorem Kb:tB Tryz.prog 179=some ([Value.nilFunc,Value.nilFunc],[(0,1),(1,1)]):=by kernel_rfl
theorem SN:tB Tryz.prog 180=some ([Value.nilFunc,Value.nilFunc,Value.nilFunc,Value.nilFunc,Value.nilFunc,Value.nilFunc,Value.nilFunc,Value.nilFunc],[(0,2),(2,2),(4,2),(6,2)]):=by kernel_rfl
theorem EW:tB Tryz.prog 183=some ([(vI 0),(vI 0),(vB false),(vB false)],[(0,2),(2,1),(3,1)]):=by kernel_rfl
theorem JW:tB Tryz.prog 192=some ([(vB false),(vB false),(vI 0),(vI 0)],[(0,1),(1,1),(2,1),(3,1)]):=by kernel_rfl
theorem FQ:tB Tryz.prog 199=some ([Value.nilFunc],[(0,1)]):=by kernel_rfl
theorem Tn:tB Tryz.prog 200=some ([Value.nilFunc,Value.nilFunc,Value.nilFunc,Value.nilFunc],[(0,1),(1,1),(2,1),(3,1)]):=by kernel_rfl
theorem TE:tB Tryz.prog 240=some ([(vS none 0 0),(vS none 0 0),(vS none 0 0)],[(0,1),(1,1),(2,1)]):=by kernel_rfl
theorem Sx:tB Tryz.prog 251=some ([(vS none 0 0)],[(0,1)]):=by kernel_rfl
theorem OL:tB Tryz.prog 276=some ([(vS none 0 0),(vI 0),(vS none 0 0),(vS none 0 0),(vI 0),(vI 0),(vI 0),(vI 0),(vI 0),(vS none 0 0),(vS none 0 0),(vS none 0 0),(vS none 0 0),(vS none 0 0)],[(0,7),(7,3),(10,1),(11,1),(12,1),(13,1)]):=by kernel_rfl
theorem BV:tB Tryz.prog 281=some ([(vI 0),(vI 0)],[(0,1),(1,1)]):=by kernel_rfl
theorem wL:tE Tryz.prog 22=some (128,9):=by kernel_rfl
theorem vq:tE Tryz.prog 25=some (133,2):=by kernel_rfl
theorem uv:tE Tryz.prog 26=some (137,4):=by kernel_rfl
theorem dI:tE Tryz.prog 29=some (3,1):=by kernel_rfl
theorem kF:tE Tryz.prog 30=some (75,1):=by kernel_rfl
theorem xZ:tE Tryz.prog 33=some (86,4):=by kernel_rfl
theorem wM:tE Tryz.prog 34=some (102,5):=by kernel_rfl
theorem wG:tE Tryz.prog 39=some (113,2):=by kernel_rfl
theorem GL:tE Tryz.prog 51=some (29,1):=by kernel_rfl
theorem ov:tE Tryz.prog 75=some (43,7):=by kernel_rfl
theorem s_:tE Tryz.prog 105=some (4,1):=by kernel_rfl
theorem lF:tE Tryz.prog 121=some (38,2):=by kernel_rfl
theorem IS:tE Tryz.prog 122=some (121,1):=by kernel_rfl
theorem oo:tE Tryz.prog 131=some (130,3):=by kernel_rfl
theorem I4:tE Tryz.prog 204=some (206,2):=by kernel_rfl
theorem BT:tE Tryz.prog 236=some (240,3):=by kernel_rfl
theorem OM:tE Tryz.prog 272=some (231,1):=by kernel_rfl
theorem x3:tE Tryz.prog 273=some (123,1):=by kernel_rfl
theorem oU:tE Tryz.prog 274=some (279,1):=by kernel_rfl
theorem H3:tE Tryz.prog 291=some (135,3):=by kernel_rfl
theorem Iw:(match Tryz.prog.underlying 38 with |some (.struct fs)=>(fs[0]?).map (fun fl=>tK Tryz.prog fl.type)|_=>none)=some (some (false,1)):=by kernel_rfl
theorem KM:(match Tryz.prog.underlying 38 with |some (.struct fs)=>(fs[1]?).map (fun fl=>tK Tryz.prog fl.type)|_=>none)=some (some (false,1)):=by kernel_rfl
theorem Vs:tV Tryz.prog 3=some (vI 0):=by kernel_rfl
theorem Vv:tV Tryz.prog 4=some (vB false):=by kernel_rfl
theorem UX:tV Tryz.prog 38=some (Value.agg [(vI 0),(vI 0)].toArray):=by kernel_rfl
theorem Jc:tX Tryz.prog 180=some (4,179):=by kernel_rfl
theorem EM:tX Tryz.prog 200=some (4,199):=by kernel_rfl
theorem kR:tZ Tryz.prog 3=some [(vI 0)]:=by kernel_rfl
theorem VJ:tZ Tryz.prog 4=some [(vB false)]:=by kernel_rfl
theorem T3:tZ Tryz.prog 24=some [(vS none 0 0)]:=by kernel_rfl
theorem L5:tZ Tryz.prog 28=some [(vS none 0 0),(vI 0),(vS none 0 0),(vS none 0 0),(vI 0),(vI 0),(vI 0)]:=by kernel_rfl
theorem SO:tZ Tryz.prog 29=some [(vS none 0 0)]:=by kernel_rfl
theorem y_:tZ Tryz.prog 32=some [(vS none 0 0),(vI 0),(vS none 0 0),(vS none 0 0),(vI 0),(vI 0),(vI 0),(vS none 0 0),(vS none 0 0),(vI 0),(vS none 0 0)]:=by kernel_rfl
theorem RF:tZ Tryz.prog 36=some [(vS none 0 0),(vI 0),(vS none 0 0),(vS none 0 0),(vI 0),(vI 0),(vI 0),(vS none 0 0),(vS none 0 0),(vI 0),(vS none 0 0),(vS none 0 0),(vS none 0 0),(vI 0),(vI 0)]:=by kernel_rfl
theorem eh:tZ Tryz.prog 38=some [(vI 0),(vI 0)]:=by kernel_rfl
theorem UM:tZ Tryz.prog 41=some [(vI 0),(vI 0),(vS none 0 0)]:=by kernel_rfl
theorem II:tZ Tryz.prog 43=some [(vB false),(vB false),(vI 0),(vI 0),(vI 0),(vI 0),(vS none 0 0)]:=by kernel_rfl
theorem S8:tZ Tryz.prog 86=some [(Value.int .u8 0),(vI 0),(vI 0),(vI 0)]:=by kernel_rfl
theorem HZ:tZ Tryz.prog 97=some [(vS none 0 0),(vI 0),(vS none 0 0),(vS none 0 0),(vI 0),(vI 0),(vI 0),(vS none 0 0),(vS none 0 0),(vI 0),(vS none 0 0),(vS none 0 0),(vS none 0 0),(vI 0),(vI 0)]:=by kernel_rfl
theorem Br:tZ Tryz.prog 102=some [(vI 0),(vI 0),(vI 0),(vI 0),(vI 0)]:=by kernel_rfl
theorem BY:tZ Tryz.prog 113=some [(vI 0),(vI 0)]:=by kernel_rfl
theorem N0:tZ Tryz.prog 121=some [(vS none 0 0)]:=by kernel_rfl
theorem Sj:tZ Tryz.prog 123=some [(Value.map none)]:=by kernel_rfl
theorem Lg:tZ Tryz.prog 128=some [(vI 0),(vI 0),(vI 0),(vI 0),(vI 0),(vI 0),(vI 0),(Value.int .u8 0),(vI 0)]:=by kernel_rfl
theorem uP:tZ Tryz.prog 130=some [(vI 0),(vI 0),(vI 0)]:=by kernel_rfl
theorem zC:tZ Tryz.prog 133=some [(vI 0),(vS none 0 0)]:=by kernel_rfl
theorem F8:tZ Tryz.prog 135=some [(vI 0),(vI 0),(vI 0)]:=by kernel_rfl
theorem IK:tZ Tryz.prog 179=some [Value.nilFunc,Value.nilFunc]:=by kernel_rfl
theorem Sd:tZ Tryz.prog 180=some [Value.nilFunc,Value.nilFunc,Value.nilFunc,Value.nilFunc,Value.nilFunc,Value.nilFunc,Value.nilFunc,Value.nilFunc]:=by kernel_rfl
theorem oB:tZ Tryz.prog 183=some [(vI 0),(vI 0),(vB false),(vB false)]:=by kernel_rfl
theorem uY:tZ Tryz.prog 192=some [(vB false),(vB false),(vI 0),(vI 0)]:=by kernel_rfl
theorem Ga:tZ Tryz.prog 199=some [Value.nilFunc]:=by kernel_rfl
theorem Q8:tZ Tryz.prog 200=some [Value.nilFunc,Value.nilFunc,Value.nilFunc,Value.nilFunc]:=by kernel_rfl
theorem Sf:tZ Tryz.prog 231=some [Value.nilFunc]:=by kernel_rfl
theorem Tl:tZ Tryz.prog 240=some [(vS none 0 0),(vS none 0 0),(vS none 0 0)]:=by kernel_rfl
theorem JT:tZ Tryz.prog 251=some [(vS none 0 0)]:=by kernel_rfl
theorem uM:tZ Tryz.prog 281=some [(vI 0),(vI 0)]:=by kernel_rfl
theorem ON:tZ Tryz.prog 287=some [(vS none 0 0),(vS none 0 0),(vS none 0 0)]:=by kernel_rfl
theorem oV:Tryz.prog.underlying 3=some (.int .i64):=by kernel_rfl
theorem TO:Tryz.prog.underlying 4=some .bool:=by kernel_rfl
theorem N8:Tryz.prog.underlying 5=some (.int .u8):=by kernel_rfl
theorem Vz:Tryz.prog.underlying 9=some .string:=by kernel_rfl
theorem QE:Tryz.prog.underlying 22=some (.slice 128):=by kernel_rfl
theorem Ta:Tryz.prog.underlying 25=some (.slice 133):=by kernel_rfl
theorem NK:Tryz.prog.underlying 26=some (.slice 137):=by kernel_rfl
theorem Tf:Tryz.prog.underlying 29=some (.slice 3):=by kernel_rfl
theorem RP:Tryz.prog.underlying 30=some (.slice 75):=by kernel_rfl
theorem UQ:Tryz.prog.underlying 33=some (.slice 86):=by kernel_rfl
theorem UD:Tryz.prog.underlying 34=some (.slice 102):=by kernel_rfl
theorem Tg:Tryz.prog.underlying 39=some (.slice 113):=by kernel_rfl
theorem Sp:Tryz.prog.underlying 75=some (.slice 43):=by kernel_rfl
theorem sZ:Tryz.prog.underlying 123=some (.map 3 38):=by kernel_rfl
theorem Ot:Tryz.prog.underlying 131=some (.slice 130):=by kernel_rfl
theorem Cl:Tryz.prog.underlying 144=some (.map 3 4):=by kernel_rfl
theorem SI:Tryz.prog.underlying 227=some (.int .u64):=by kernel_rfl
theorem RO:Tryz.prog.underlying 271=some (.int .u64):=by kernel_rfl
theorem pP:Tryz.prog.underlying 279=some (.map 281 3):=by kernel_rfl
theorem N6:fL Tryz.prog 102=some [(3,0),(3,1),(3,2),(3,3),(3,4)]:=by kernel_rfl
theorem P9 (d:Nat) (s z:bR) (w:World):(Op.equalIn (d+2) 102 (.agg s.cells.toArray) (.agg z.cells.toArray)).run Tryz.prog w= .ok (decide (s=z)) w:=by
 have hc:(decide (s.Id=z.Id)&&(decide (s.gH=z.gH)&&(decide (s.ib=z.ib)&&(decide (s.gh=z.gh)&&(decide (s.At=z.At)&&true)))))=decide (s=z):=by rw [Bool.eq_iff_iff]; simp [bR.ext_iff]
 rw [← hc]
 exact jO (d+1) N6 w (eW w (cZ pZ U w) (cZ pZ U w) (ij _ oV w) (eW w (cZ pZ U w) (cZ pZ U w) (ij _ oV w) (eW w (cZ pZ U w) (cZ pZ U w) (ij _ oV w) (eW w (cZ pZ U w) (cZ pZ U w) (ij _ oV w) (eW w (cZ pZ U w) (cZ pZ U w) (ij _ oV w) (nE w))))))
theorem P4 (x y:Operand) (s z:bR):gR Tryz.prog .neq 102 x y (.agg s.cells.toArray) (.agg z.cells.toArray) (.bool (!decide (s=z))):=mL x y (lW N6) fun w=>P9 9998 s z w
theorem OP:fL Tryz.prog 113=some [(3,0),(3,1)]:=by kernel_rfl
theorem PN (d:Nat) (s z:aH) (w:World):(Op.equalIn (d+2) 113 (.agg s.cells.toArray) (.agg z.cells.toArray)).run Tryz.prog w= .ok (decide (s=z)) w:=by
 have hc:(decide (s.fI=z.fI)&&(decide (s.Read=z.Read)&&true))=decide (s=z):=by rw [Bool.eq_iff_iff]; simp [aH.ext_iff]
 rw [← hc]
 exact jO (d+1) OP w (eW w (cZ pZ U w) (cZ pZ U w) (ij _ oV w) (eW w (cZ pZ U w) (cZ pZ U w) (ij _ oV w) (nE w)))
theorem Qy (x y:Operand) (s z:aH):gR Tryz.prog .neq 113 x y (.agg s.cells.toArray) (.agg z.cells.toArray) (.bool (!decide (s=z))):=mL x y (lW OP) fun w=>PN 9998 s z w
theorem Qs:fL Tryz.prog 38=some [(3,0),(3,1)]:=by kernel_rfl
theorem xW (d:Nat) (s z:ai) (w:World):(Op.equalIn (d+2) 38 (.agg s.cells.toArray) (.agg z.cells.toArray)).run Tryz.prog w= .ok (decide (s=z)) w:=by
 have hc:(decide (s.Lo=z.Lo)&&(decide (s.Hi=z.Hi)&&true))=decide (s=z):=by rw [Bool.eq_iff_iff]; simp [ai.ext_iff]
 rw [← hc]
 exact jO (d+1) Qs w (eW w (cZ pZ U w) (cZ pZ U w) (ij _ oV w) (eW w (cZ pZ U w) (cZ pZ U w) (ij _ oV w) (nE w)))
theorem wF (x y:Operand) (s z:ai):gR Tryz.prog .eql 38 x y (.agg s.cells.toArray) (.agg z.cells.toArray) (.bool (decide (s=z))):=zZ x y (lW Qs) fun w=>xW 9998 s z w
theorem Q6 (x y:Operand) (s z:ai):gR Tryz.prog .neq 38 x y (.agg s.cells.toArray) (.agg z.cells.toArray) (.bool (!decide (s=z))):=mL x y (lW Qs) fun w=>xW 9998 s z w
theorem Oa:fL Tryz.prog 128=some [(3,0),(38,1),(38,3),(38,5),(5,7),(3,8)]:=by kernel_rfl
theorem Po (d:Nat) (s z:aD) (w:World):(Op.equalIn (d+3) 128 (.agg s.cells.toArray) (.agg z.cells.toArray)).run Tryz.prog w= .ok (decide (s=z)) w:=by
 have hc:(decide (s.Id=z.Id)&&(decide (s.jR=z.jR)&&(decide (s.kQ=z.kQ)&&(decide (s.ej=z.ej)&&(decide (s.ja=z.ja)&&(decide (s.xe=z.xe)&&true))))))=decide (s=z):=by rw [Bool.eq_iff_iff]; simp [aD.ext_iff]
 rw [← hc]
 exact jO (d+2) Oa w (eW w (cZ pZ U w) (cZ pZ U w) (ij _ oV w) (eW w (jh (vs:=ai.cells s.jR) xw U w) (jh (vs:=ai.cells z.jR) xw U w) (xW (d+0) s.jR z.jR w) (eW w (jh (vs:=ai.cells s.kQ) xw U w) (jh (vs:=ai.cells z.kQ) xw U w) (xW (d+0) s.kQ z.kQ w) (eW w (jh (vs:=ai.cells s.ej) xw U w) (jh (vs:=ai.cells z.ej) xw U w) (xW (d+0) s.ej z.ej w) (eW w (cZ TL U w) (cZ TL U w) (ij _ N8 w) (eW w (cZ pZ U w) (cZ pZ U w) (ij _ oV w) (nE w)))))))
theorem Qq (x y:Operand) (s z:aD):gR Tryz.prog .neq 128 x y (.agg s.cells.toArray) (.agg z.cells.toArray) (.bool (!decide (s=z))):=mL x y (lW Oa) fun w=>Po 9997 s z w
theorem Om:fL Tryz.prog 130=some [(3,0),(38,1)]:=by kernel_rfl
theorem Py (d:Nat) (s z:cE) (w:World):(Op.equalIn (d+3) 130 (.agg s.cells.toArray) (.agg z.cells.toArray)).run Tryz.prog w= .ok (decide (s=z)) w:=by
 have hc:(decide (s.At=z.At)&&(decide (s.d_=z.d_)&&true))=decide (s=z):=by rw [Bool.eq_iff_iff]; simp [cE.ext_iff]
 rw [← hc]
 exact jO (d+2) Om w (eW w (cZ pZ U w) (cZ pZ U w) (ij _ oV w) (eW w (jh (vs:=ai.cells s.d_) xw U w) (jh (vs:=ai.cells z.d_) xw U w) (xW (d+0) s.d_ z.d_ w) (nE w)))
theorem KB (x y:Operand) (s z:cE):gR Tryz.prog .neq 130 x y (.agg s.cells.toArray) (.agg z.cells.toArray) (.bool (!decide (s=z))):=mL x y (lW Om) fun w=>Py 9997 s z w
theorem Rj:fL Tryz.prog 135=some [(3,0),(38,1)]:=by kernel_rfl
theorem PF (d:Nat) (s z:dg) (w:World):(Op.equalIn (d+3) 135 (.agg s.cells.toArray) (.agg z.cells.toArray)).run Tryz.prog w= .ok (decide (s=z)) w:=by
 have hc:(decide (s.bw=z.bw)&&(decide (s.l9=z.l9)&&true))=decide (s=z):=by rw [Bool.eq_iff_iff]; simp [dg.ext_iff]
 rw [← hc]
 exact jO (d+2) Rj w (eW w (cZ pZ U w) (cZ pZ U w) (ij _ oV w) (eW w (jh (vs:=ai.cells s.l9) xw U w) (jh (vs:=ai.cells z.l9) xw U w) (xW (d+0) s.l9 z.l9 w) (nE w)))
theorem Oq:fL Tryz.prog 137=some [(135,0),(3,3)]:=by kernel_rfl
theorem PO (d:Nat) (s z:cO) (w:World):(Op.equalIn (d+4) 137 (.agg s.cells.toArray) (.agg z.cells.toArray)).run Tryz.prog w= .ok (decide (s=z)) w:=by
 have hc:(decide (s.lg=z.lg)&&(decide (s.jS=z.jS)&&true))=decide (s=z):=by rw [Bool.eq_iff_iff]; simp [cO.ext_iff]
 rw [← hc]
 exact jO (d+3) Oq w (eW w (jh (vs:=dg.cells s.lg) Jq U w) (jh (vs:=dg.cells z.lg) Jq U w) (PF (d+0) s.lg z.lg w) (eW w (cZ pZ U w) (cZ pZ U w) (ij _ oV w) (nE w)))
theorem Qu (x y:Operand) (s z:cO):gR Tryz.prog .neq 137 x y (.agg s.cells.toArray) (.agg z.cells.toArray) (.bool (!decide (s=z))):=mL x y (lW Oq) fun w=>PO 9996 s z w
theorem OJ:fL Tryz.prog 281=some [(3,0),(3,1)]:=by kernel_rfl
theorem Qz (d:Nat) (s z:aQ) (w:World):(Op.equalIn (d+2) 281 (.agg s.cells.toArray) (.agg z.cells.toArray)).run Tryz.prog w= .ok (decide (s=z)) w:=by
 have hc:(decide (s.right=z.right)&&(decide (s.fB=z.fB)&&true))=decide (s=z):=by rw [Bool.eq_iff_iff]; simp [aQ.ext_iff]
 rw [← hc]
 exact jO (d+1) OJ w (eW w (cZ pZ U w) (cZ pZ U w) (ij _ oV w) (eW w (cZ pZ U w) (cZ pZ U w) (ij _ oV w) (nE w)))
theorem Pw:fL Tryz.prog 86=some [(5,0),(3,1),(3,2),(3,3)]:=by kernel_rfl
theorem OE (d:Nat) (s z:bg) (w:World):(Op.equalIn (d+2) 86 (.agg s.cells.toArray) (.agg z.cells.toArray)).run Tryz.prog w= .ok (decide (s=z)) w:=by
 have hc:(decide (s.Kind=z.Kind)&&(decide (s.hE=z.hE)&&(decide (s.mz=z.mz)&&(decide (s.To=z.To)&&true))))=decide (s=z):=by rw [Bool.eq_iff_iff]; simp [bg.ext_iff]
 rw [← hc]
 exact jO (d+1) Pw w (eW w (cZ TL U w) (cZ TL U w) (ij _ N8 w) (eW w (cZ pZ U w) (cZ pZ U w) (ij _ oV w) (eW w (cZ pZ U w) (cZ pZ U w) (ij _ oV w) (eW w (cZ pZ U w) (cZ pZ U w) (ij _ oV w) (nE w)))))
theorem SP (x y:Operand) (s z:bg):gR Tryz.prog .eql 86 x y (.agg s.cells.toArray) (.agg z.cells.toArray) (.bool (decide (s=z))):=zZ x y (lW Pw) fun w=>OE 9998 s z w
theorem Rz (x y:Operand) (s z:bg):gR Tryz.prog .neq 86 x y (.agg s.cells.toArray) (.agg z.cells.toArray) (.bool (!decide (s=z))):=mL x y (lW Pw) fun w=>OE 9998 s z w
theorem cj:Tryz.prog.follows .mixedOrders=true:=by kernel_rfl
def TT:Ds:=⟨[(1,false,1),(2,false,1),(3,false,1),(4,false,1),(5,false,1),(6,false,1),(7,true,4),(8,true,4),(12,false,1),(15,false,1),(16,false,1),(17,false,1),(18,true,1),(19,true,1),(21,false,1),(22,false,1),(23,true,1),(24,true,1),(25,false,1),(26,false,1),(27,true,7),(28,true,7),(29,false,1),(30,false,1),(31,true,11),(32,true,11),(33,false,1),(34,false,1),(35,true,15),(36,true,15),(37,true,2),(38,true,2),(39,false,1),(40,true,3),(41,true,3),(42,true,7),(43,true,7),(44,false,1),(45,false,1),(46,false,1),(48,false,1),(50,false,1),(51,false,1),(53,false,1),(55,false,1),(56,false,1),(57,false,1),(59,false,1),(61,false,1),(63,false,1),(65,false,1),(67,false,1),(69,false,1),(70,false,1),(71,false,1),(72,false,1),(73,false,1),(74,false,1),(75,false,1),(76,false,1),(78,false,1),(79,false,1),(80,false,1),(81,false,1),(82,false,1),(83,false,1),(84,false,1),(85,true,4),(86,true,4),(88,false,1),(89,false,1),(90,false,1),(91,false,1),(92,false,1),(93,false,1),(94,false,1),(95,false,1),(96,true,15),(97,true,15),(99,false,1),(100,false,1),(101,true,5),(102,true,5),(103,false,1),(104,false,1),(105,false,1),(106,false,1),(107,false,1),(108,false,1),(109,false,1),(110,false,1),(111,false,1),(112,true,2),(113,true,2),(114,false,1),(115,false,1),(116,false,1),(117,false,1),(119,false,1),(120,false,1),(121,false,1),(122,false,1),(123,false,1),(124,true,13),(125,true,13),(126,false,1),(127,true,9),(128,true,9),(129,true,3),(130,true,3),(131,false,1),(132,true,2),(133,true,2),(134,true,3),(135,true,3),(136,true,4),(137,true,4),(138,false,1),(139,false,1),(140,false,1),(141,false,1),(142,false,1),(143,false,1),(144,false,1),(145,false,1),(146,false,1),(147,false,1),(148,false,1),(149,false,1),(150,false,1),(151,false,1),(152,false,1),(153,false,1),(154,false,1),(155,false,1),(156,false,1),(157,false,1),(158,false,1),(159,false,1),(160,false,1),(161,false,1),(162,false,1),(163,false,1),(164,false,1),(166,false,1),(167,false,1),(168,false,1),(169,false,1),(170,false,1),(171,false,1),(172,false,1),(174,false,1),(175,false,1),(176,false,1),(177,false,1),(178,true,2),(179,true,2),(180,true,8),(181,false,1),(182,true,4),(183,true,4),(184,false,1),(185,false,1),(186,false,1),(187,false,1),(188,false,1),(189,false,1),(190,false,1),(191,true,4),(192,true,4),(193,false,1),(194,false,1),(195,false,1),(197,false,1),(198,false,1),(199,true,1),(200,true,4),(201,false,1),(202,false,1),(203,false,1),(204,false,1),(205,true,2),(206,true,2),(207,true,6),(208,false,1),(209,false,1),(210,false,1),(211,false,1),(212,false,1),(213,false,1),(214,false,1),(216,false,1),(217,false,1),(218,false,1),(219,false,1),(220,false,1),(221,false,1),(222,false,1),(223,false,1),(224,false,1),(225,false,1),(226,false,1),(227,false,1),(228,false,1),(230,false,1),(231,false,1),(232,false,1),(233,false,1),(234,false,1),(235,false,1),(236,false,1),(238,false,1),(239,true,3),(240,true,3),(241,false,1),(242,false,1),(243,false,1),(244,false,1),(245,false,1),(246,false,1),(247,false,1),(248,false,1),(249,false,1),(250,true,1),(251,true,1),(253,false,1),(254,false,1),(256,false,1),(257,false,1),(258,false,1),(259,false,1),(260,false,1),(262,false,1),(263,false,1),(264,false,1),(265,false,1),(267,false,1),(268,false,1),(269,false,1),(270,false,1),(271,false,1),(272,false,1),(273,false,1),(274,false,1),(275,true,14),(276,true,14),(277,false,1),(278,false,1),(279,false,1),(280,true,2),(281,true,2),(282,false,1),(283,false,1),(284,false,1),(285,false,1),(286,true,3),(287,true,3),(288,false,1),(289,false,1),(290,false,1),(291,false,1),(292,false,1),(293,false,1),(294,false,1),(295,false,1),(296,false,1),(297,false,1),(298,false,1),(299,false,1),(300,false,1),(301,false,1),(302,false,1),(303,false,1),(304,false,1),(305,false,1),(306,false,1),(307,false,1),(308,false,1),(309,false,1),(310,false,1),(311,false,1),(312,false,1),(313,false,1),(316,true,0),(317,true,0),(318,true,0),(319,false,1),(320,false,1),(321,false,1),(322,false,1),(323,false,1),(324,false,1),(325,false,1),(326,true,11),(327,true,11),(328,false,1),(330,false,1)],[(7,[some 0,some 1,some 2,some 3]),(8,[some 0,some 1,some 2,some 3]),(18,[some 0]),(19,[some 0]),(23,[some 0]),(24,[some 0]),(27,[some 0,some 1,some 2,some 3,some 4,some 5,some 6]),(28,[some 0,some 1,some 2,some 3,some 4,some 5,some 6]),(31,[some 0,some 7,some 8,some 9,some 10]),(32,[some 0,some 7,some 8,some 9,some 10]),(35,[some 0,some 11,some 12,some 13,some 14]),(36,[some 0,some 11,some 12,some 13,some 14]),(37,[some 0,some 1]),(38,[some 0,some 1]),(40,[some 0,some 1,some 2]),(41,[some 0,some 1,some 2]),(42,[some 0,some 1,some 2,some 4]),(43,[some 0,some 1,some 2,some 4]),(85,[some 0,some 1,some 2,some 3]),(86,[some 0,some 1,some 2,some 3]),(96,[some 0]),(97,[some 0]),(101,[some 0,some 1,some 2,some 3,some 4]),(102,[some 0,some 1,some 2,some 3,some 4]),(112,[some 0,some 1]),(113,[some 0,some 1]),(124,[some 0,some 11,some 12]),(125,[some 0,some 11,some 12]),(127,[some 0,some 1,some 3,some 5,some 7,some 8]),(128,[some 0,some 1,some 3,some 5,some 7,some 8]),(129,[some 0,some 1]),(130,[some 0,some 1]),(132,[some 0,some 1]),(133,[some 0,some 1]),(134,[some 0,some 1]),(135,[some 0,some 1]),(136,[some 0,some 3]),(137,[some 0,some 3]),(178,[some 0,some 1]),(179,[some 0,some 1]),(182,[some 0,some 2,some 3]),(183,[some 0,some 2,some 3]),(191,[some 0,some 1,some 2,some 3]),(192,[some 0,some 1,some 2,some 3]),(199,[some 0]),(205,[some 0,some 1]),(206,[some 0,some 1]),(239,[some 0,some 1,some 2]),(240,[some 0,some 1,some 2]),(250,[some 0]),(251,[some 0]),(275,[some 0,some 7,some 10,some 11,some 12,some 13]),(276,[some 0,some 7,some 10,some 11,some 12,some 13]),(280,[some 0,some 1]),(281,[some 0,some 1]),(286,[some 0,some 1,some 2]),(287,[some 0,some 1,some 2]),(326,[some 0,some 1,some 2,some 3,some 4,some 5,some 6,some 7,some 8,some 9,some 10]),(327,[some 0,some 1,some 2,some 3,some 4,some 5,some 6,some 7,some 8,some 9,some 10])],[22,25,26,29,30,33,34,39,51,75,105,121,122,131,204,236,272,273,274,291]⟩
theorem qL:lZ Tryz.prog TT:=Qa kr
theorem bV {t:TypeId} {x:Bool×Nat} (h:TT.Jb t=some x:=by rfl):tK Tryz.prog t=some x:=qL.Jb h
theorem eD {s f k:Nat} (h:TT.foF s f=some k:=by rfl):sR Tryz.prog s f=some k:=qL.foF h
end
section
open Go.RowKit
/-- blocks that are read -/
def MM (C:List ay) (M:List (Nat×List Value)):Prop:= ∀ p∈M,∀ o vs,(p.2.drop o).take vs.length=vs→At C (some ⟨p.1,o,none⟩) vs
theorem I {C:List ay}:MM C []:=fun p h=>by cases h
theorem mc {C:List ay} {b t:Nat} {cs:List Value} {M:List (Nat×List Value)} (i:Nat) (hC:C[i]? =some (cy b t cs)) (h:MM C M):MM C ((b,cs)::M):=fun p hp o vs hv=>by
 rcases cm.1 hp with rfl|hp
 ·exact qt i hC hv
 ·exact h p hp o vs hv
theorem mr {C:List ay} {b t:Nat} {cs:List Value} {M:List (Nat×List Value)} (i:Nat) (hC:C[i]? =some (cy b t cs).ro) (h:MM C M):MM C ((b,cs)::M):=fun p hp o vs hv=>by
 rcases cm.1 hp with rfl|hp
 ·exact wU i hC hv
 ·exact h p hp o vs hv
def qq:List Prop→Prop
 |[]=>True
 |p::l=>p∧qq l
theorem ky {p:Prop} {l:List Prop} (h:p) (h2:qq l):qq (p::l):=⟨h,h2⟩
/-- the value of an operation, what it asks for, and what is left of the list of places -/
def pv (T:Ds) (ops:Array Oper) (M:List (Nat×List Value)) (L:dF) (hs:List Nat) (g:Option (Nat×Bool)) (op:Op):Option (Value×List Prop×List Nat):=
 match Dn ops L g with
 |true=>some (undef,[],hs)
 |false=>match ke ops L g with
  |false=>none
  |true=>match op with
   | .move x=>match ev L x with
    |some v=>some (v,[],hs)
    |none=>none
   | .assign x=>match ev L x with
    |some v=>some (v,[],hs)
    |none=>none
   | .pick c x y=>match ev L c with
    |some (.bool true)=>match ev L x with
     |some v=>some (v,[],hs)
     |none=>none
    |some (.bool false)=>match ev L y with
     |some v=>some (v,[],hs)
     |none=>none
    |_=>none
   | .unOp .not _ x=>match ev L x with
    |some (.bool b)=>some (.bool !b,[],hs)
    |_=>none
   | .extract x i=>match ev L x with
    |some (.tuple vs)=>match vs.toList[i]? with
     |some v=>some (v,[],hs)
     |none=>none
    |_=>none
   | .fieldAddr s x f=>match ev L x with
    |some (.pointer (some ⟨b,o,none⟩))=>match T.foF s f with
     |some k=>some (.pointer (some ⟨b,o+k,none⟩),[],hs)
     |none=>none
    |_=>none
   | .binOp op _ x y _=>match ev L x with
    |some (.int .i64 a)=>match ev L y with
     |some (.int .i64 b)=>match op with
      | .lss=>some (.bool (decide (a<b)),[],hs)
      | .leq=>some (.bool (decide (a≤b)),[],hs)
      | .gtr=>some (.bool (decide (b<a)),[],hs)
      | .geq=>some (.bool (decide (b≤a)),[],hs)
      | .eql=>some (.bool (decide (a=b)),[],hs)
      | .neq=>some (.bool (!decide (a=b)),[],hs)
      | .add=>some (.int .i64 (a+b),[-9223372036854775808≤a+b,a+b≤9223372036854775807],hs)
      | .sub=>some (.int .i64 (a-b),[-9223372036854775808≤a-b,a-b≤9223372036854775807],hs)
      |_=>none
     |_=>none
    |_=>none
   | .load t x=>match ev L x with
    |some (.pointer (some ⟨b,o,none⟩))=>match M[hs.headD 0]? with
     |some (b',cs)=>match T.Jb t with
      |some (false,_)=>match cs[o]? with
       |some v=>some (v,[b'=b],hs.tail)
       |none=>none
      |some (true,n)=>match Nat.beq o 0 with
       |true=>match Nat.beq cs.length n with
        |true=>some (.agg cs.toArray,[b'=b],hs.tail)
        |false=>none
       |false=>none
      |none=>none
     |none=>none
    |_=>none
   | .call c=>match c with
    |{callee:= .builtin .len,args:=xs,argTypes:=ts}=>match xs.toList with
     |[x]=>match ts.toList with
      |[t]=>match ev L x with
       |some (.slice A n c)=>match Ly T.sl t with
        |true=>some (.int .i64 n,[],hs)
        |false=>none
       |_=>none
      |_=>none
     |_=>none
    |_=>none
   |_=>none
section
variable {E:fH} {T:Ds} {ops:Array Oper} {M:List (Nat×List Value)} {D:List Deferred} {L:List (Nat×Value)} {C:List ay} {hs hs':List Nat}
theorem wB {cs:List Value} {o:Nat} {v:Value} (h:cs[o]? =some v):(cs.drop o).take [v].length=[v]:=by
 obtain ⟨hl,rfl⟩:=aZ.1 h
 rw [List.drop_eq_getElem_cons hl]; rfl
theorem Ro {o:Oper} {v:Value} {S:List Prop} (hT:lZ E.P T) (hM:MM C M) (h:pv T ops M L hs o.guard o.op=some (v,S,hs')) (hS:qq S):SD E ops o D L C v:=by
 obtain ⟨dst,op,ty,ps,af,g⟩:=o
 unfold pv at h
 simp only at h
 split at h
 ·rename_i hg
  cases h
  exact Ju hg
 ·split at h
  ·cases h
  ·rename_i hg
   split at h
   ·split at h
    ·rename_i hx; cases h; exact FN hg hx
    ·cases h
   ·split at h
    ·rename_i hx; cases h; exact zO hg hx
    ·cases h
   ·split at h
    ·rename_i hc
     split at h
     ·rename_i hx; cases h; exact zr hg hc hx
     ·cases h
    ·rename_i hc
     split at h
     ·rename_i hx; cases h; exact z4 hg hc hx
     ·cases h
    ·cases h
   ·split at h
    ·rename_i hx; cases h; exact Lq hg hx
    ·cases h
   ·split at h
    ·rename_i vs hx
     split at h
     ·rename_i v' hv; cases h; exact xV (vs:=vs.toList) hg (by simpa using hx) hv
     ·cases h
    ·cases h
   ·split at h
    ·rename_i hx
     split at h
     ·rename_i hk; cases h; exact N2 hg hx (hT.foF hk) rfl
     ·cases h
    ·cases h
   ·split at h
    ·rename_i hx
     split at h
     ·rename_i hy
      split at h
      ·cases h; exact eQ hg hx hy qE
      ·cases h; exact eQ hg hx hy Rf
      ·cases h; exact eQ hg hx hy FH
      ·cases h; exact eQ hg hx hy E1
      ·cases h; exact eQ hg hx hy ks
      ·cases h; exact eQ hg hx hy s7
      ·cases h; exact eQ hg hx hy (oN ⟨hS.1,hS.2.1⟩)
      ·cases h; exact eQ hg hx hy (yE ⟨hS.1,hS.2.1⟩)
      ·cases h
     ·cases h
    ·cases h
   ·split at h
    ·rename_i hx
     split at h
     ·rename_i b' cs hm
      have A:=aP hm
      split at h
      ·rename_i hk
       split at h
       ·rename_i hv
        cases h
        obtain rfl:=hS.1
        exact vK hg hx (hT.Jb hk) (hM _ A _ _ (wB hv))
       ·cases h
      ·rename_i n hk
       split at h
       ·rename_i ho
        split at h
        ·rename_i hn
         cases h
         obtain rfl:=hS.1
         have H:=Nat.eq_of_beq_eq_true ho
         subst H
         exact xu hg hx (hT.Jb hk) (hM _ A 0 cs sm) (Nat.eq_of_beq_eq_true hn)
        ·cases h
       ·cases h
      ·cases h
     ·cases h
    ·cases h
   ·split at h
    ·rename_i xs ts
     split at h
     ·rename_i x G
      split at h
      ·rename_i t F
       split at h
       ·rename_i hx
        split at h
        ·rename_i B
         cases h
         obtain ⟨e,he⟩:=hT.sl t (BR B)
         have AA:xs= #[x]:=by apply Array.ext'; simpa using G
         have J:ts= #[t]:=by apply Array.ext'; simpa using F
         subst AA J
         exact Kk hg hx he
        ·cases h
       ·cases h
      ·cases h
     ·cases h
    ·cases h
   ·cases h
def pr (T:Ds) (n:Nat) (ops:Array Oper) (M:List (Nat×List Value)):Nat→List Nat→dF→List Oper→Option (dF×List Oper×List Prop)
 |0,_,L,rest=>some (L,rest,[])
 |k+1,hs,L,[]=>none
 |k+1,hs,L,o::rest=>match o.dst with
  |none=>none
  |some d=>match Nat.blt d n with
   |false=>none
   |true=>match pv T ops M L hs o.guard o.op with
    |none=>none
    |some (v,S,hs')=>match pr T n ops M k hs' ((d,v)::L) rest with
     |none=>none
     |some (L',rest',S')=>some (L',rest',S++S')
theorem xE: ∀ {S S':List Prop},qq (S++S')→qq S∧qq S'
 |[],S',h=>⟨trivial,h⟩
 |p::S,S',h=>⟨⟨h.1,(xE h.2).1⟩,(xE h.2).2⟩
/-- whatever is closed under single steps -/
theorem KP {J:List Oper→dF→Prop} (hT:lZ E.P T) (hM:MM C M) (hJ: ∀ o rest L d v,SD E ops o D L C v→o.dst=some d→Nat.blt d E.n=true→J rest ((d,v)::L)→J (o::rest) L):
 ∀ (k:Nat) (hs:List Nat) (L:dF) (rest:List Oper) {L':dF} {rest':List Oper} {S:List Prop},pr T E.n ops M k hs L rest=some (L',rest',S)→qq S→J rest' L'→J rest L
 |0,hs,L,rest,L',rest',S,h,hS,hj=>by
  unfold pr at h
  cases h
  exact hj
 |k+1,hs,L,[],L',rest',S,h,hS,hj=>by unfold pr at h; cases h
 |k+1,hs,L,o::rest,L',rest',S,h,hS,hj=>by
  unfold pr at h
  split at h
  ·cases h
  ·rename_i d hd
   split at h
   ·cases h
   ·rename_i hn
    split at h
    ·cases h
    ·rename_i v S1 A hv
     split at h
     ·cases h
     ·rename_i L1 G S2 hr
      cases h
      obtain ⟨B,F⟩:=xE hS
      exact hJ o rest L d v (Ro hT hM hv B) hd hn (KP hT hM hJ k A _ rest hr F hj)
variable {Q:dv} {rest rest':List Oper} {L0 L':List (Nat×Value)} {S:List Prop} {F:List (Nat×Value)→Prop}
/-- a run of operations, one after the other -/
theorem rP (k:Nat) (hs:List Nat) (hM:MM C M) (j:RJ E ops Q rest' D L' C) (hT:lZ E.P T:=by exact qL) (h:pr T E.n ops M k hs L rest=some (L0,rest',S):=by rfl) (hL:L0=L':=by (try dsimp only)<;>rfl) (hS:qq S:=by repeat' first|exact True.intro |refine ky ?_ ?_ |exact rfl|omega|(dsimp only; omega)):RJ E ops Q rest D L C:=by
 subst hL
 exact KP (J:=fun r L=>RJ E ops Q r D L C) hT hM (fun o rest L d v A B F G=>QQ A B F G) k hs L rest h hS j
theorem dP (k:Nat) (hs:List Nat) (hM:MM C M) (j:DJ E ops D C F rest' L') (hT:lZ E.P T:=by exact qL) (h:pr T E.n ops M k hs L rest=some (L0,rest',S):=by rfl) (hL:L0=L':=by (try dsimp only)<;>rfl) (hS:qq S:=by repeat' first|exact True.intro |refine ky ?_ ?_ |exact rfl|omega|(dsimp only; omega)):DJ E ops D C F rest L:=by
 subst hL
 exact KP (J:=fun r L=>DJ E ops D C F r L) hT hM (fun o rest L d v A B G H=>Sm A B G H) k hs L rest h hS j
end
section
variable {P:Program} {r:Option Nat} {n:Nat} {B:BS} {w0:World} {ops:Array Oper} {M:List (Nat×List Value)} {D:List Deferred} {L L':List (Nat×Value)} {C:List ay} {Q:dv} {rest rest':List Oper} {S:List Prop} {F:List (Nat×Value)→Prop}
theorem dY (k:Nat) (hs:List Nat) (hM:MM C M) (h:pr TT n ops M k hs L rest=some (L',rest',S)) (j:RJ ⟨P,r,n,B,w0⟩ ops Q rest' D L' C) (hS:qq S:=by repeat' first|exact True.intro |refine ky ?_ ?_ |exact rfl|omega|(dsimp only; omega)) (hT:lZ P TT:=by exact qL):RJ ⟨P,r,n,B,w0⟩ ops Q rest D L C:=rP k hs hM j hT h rfl hS
theorem kf (k:Nat) (hs:List Nat) (hM:MM C M) (h:pr TT n ops M k hs L rest=some (L',rest',S)) (j:DJ ⟨P,r,n,B,w0⟩ ops D C F rest' L') (hS:qq S:=by repeat' first|exact True.intro |refine ky ?_ ?_ |exact rfl|omega|(dsimp only; omega)) (hT:lZ P TT:=by exact qL):DJ ⟨P,r,n,B,w0⟩ ops D C F rest L:=dP k hs hM j hT h rfl hS
theorem bp (k:Nat) (h:pr TT n ops [] k [] L rest=some (L',rest',S)) (j:RJ ⟨P,r,n,B,w0⟩ ops Q rest' D L' C) (hS:qq S:=by repeat' first|exact True.intro |refine ky ?_ ?_ |exact rfl|omega|(dsimp only; omega)) (hT:lZ P TT:=by exact qL):RJ ⟨P,r,n,B,w0⟩ ops Q rest D L C:=rP k [] I j hT h rfl hS
theorem kI (k:Nat) (h:pr TT n ops [] k [] L rest=some (L',rest',S)) (j:DJ ⟨P,r,n,B,w0⟩ ops D C F rest' L') (hS:qq S:=by repeat' first|exact True.intro |refine ky ?_ ?_ |exact rfl|omega|(dsimp only; omega)) (hT:lZ P TT:=by exact qL):DJ ⟨P,r,n,B,w0⟩ ops D C F rest L:=dP k [] I j hT h rfl hS
end
end
section
open Go.RowKit
/-- parts of a context, reckoned to the end -/
def sQ (C:List ay):List Nat→Option (List ay)
 |[]=>some []
 |i::is=>match C[i]? with
  |some A=>match sQ C is with
   |some l=>some (A::l)
   |none=>none
  |none=>none
theorem mQ {C:List ay}: ∀ {is:List Nat} {C':List ay},sQ C is=some C'→kS C is=C'
 |[],C',h=>by cases h; rfl
 |i::is,C',h=>by
  unfold sQ at h
  split at h
  ·rename_i A hA
   split at h
   ·rename_i l hl
    cases h
    show List.filterMap (C[·]?) (i::is)=A::l
    rw [List.filterMap_cons_some hA]
    exact congrArg _ (mQ hl)
   ·cases h
  ·cases h
/-- a part of a context in place of the whole -/
theorem aK {S:BS} {w0:World} {C C':List ay} (is:List Nat) (hn:decide is.Nodup=true:=by rfl) (hC:kS C is=C':=by rfl): ∀ w,St S w0 C w→St S w0 C' w:=fun w h=>St.kS is hn hC h
theorem Q_ {S:BS} {w0:World} {C C':List ay} (is:List Nat) (hC:sQ C is=some C') (hn:decide is.Nodup=true:=by rfl): ∀ w,St S w0 C w→St S w0 C' w:=fun w h=>St.kS is hn (mQ hC) h
def NX (C:List ay) (i:Nat) (B:ay):Option (List ay):=match i,C with
 |0,_::C=>some (B::C)
 |i+1,A::C=>match NX C i B with
  |some l=>some (A::l)
  |none=>none
 |_,[]=>none
theorem FF: ∀ {C:List ay} {i:Nat} {B:ay} {C':List ay},NX C i B=some C'→C.set i B=C'
 |[],0,B,C',h=>by cases h
 |[],i+1,B,C',h=>by cases h
 |A::C,0,B,C',h=>by cases h; rfl
 |A::C,i+1,B,C',h=>by
  unfold NX at h
  split at h
  ·rename_i l hl
   cases h
   exact congrArg _ (FF hl)
  ·cases h
theorem rT {E:fH} {K:Act→World→Prop} {D:iw} {L:dF} {C C':List ay} {A B:ay} (i:Nat) (hC:C[i]? =some A) (hh:(∀ w,A.holds w→B.holds w)∧(∀ b,B.fO b→A.fO b)∧ ∀ b,B.wf b→A.wf b) (hC':NX C i B=some C') (h:KJ E K D L C'):KJ E K D L C:=Ir i hC hh (FF hC') h
/-- the operations of a region but these; marks of some places -/
def UT (n:Nat) (T:List Nat):List Nat:=(List.range n).filter fun i=> !T.contains i
def Vt (k:Nat) (t:List Nat):List Bool:=(List.range k).map fun i=>t.contains i
theorem dp {E:fH} {id:Nat} {ops:Array Oper} {Q:dv} {D:iw} {L:dF} {C:List ay} (hm:E.P.follows .mixedOrders=true) (T fe tb i1 i2:List Nat) {C' C1:List ay} {free:List Nat} {feb tbb:List Bool}
 (h1:sQ C i1=some C') (h2:sQ C i2=some C1) (hf:free=UT ops.size T) (hfe:feb=Vt free.length fe) (htb:tbb=Vt T.length tb)
 (h:qS E ops D C' C1 (fun L'=>TJ E ops D C' C1 (fun L C=>KJ E (Q .normal) D L C) tbb (fp ops T) L' C) feb (fp ops free) L)
 (hc:Ml ops free T feb tbb=true:=by kernel_rfl) (n1:decide i1.Nodup=true:=by rfl) (n2:decide i2.Nodup=true:=by rfl):WJ E (.region id ops true) Q D L C:=
 MU hm free T feb tbb C' C1 hc (Q_ i1 h1 n1) (Q_ i2 h2 n2) h
end
section
open Go.RowKit
def wO (T:Ds) (M:List (Nat×List Value)) (L:dF):List ResultVar→List Nat→Option (List Value×List Prop)
 |[],_=>some ([],[])
 | .tmp t::rs,hs=>match L.lookup t with
  |some v=>match wO T M L rs hs with
   |some (vs,S)=>some (v::vs,S)
   |none=>none
  |none=>none
 | .cell a t::rs,hs=>match L.lookup a with
  |some (.pointer (some ⟨b,o,none⟩))=>match M[hs.headD 0]? with
   |some (b',cs)=>match T.Jb t with
    |some (false,_)=>match cs[o]? with
     |some v=>match wO T M L rs hs.tail with
      |some (vs,S)=>some (v::vs,(b'=b)::S)
      |none=>none
     |none=>none
    |some (true,n)=>match Nat.beq o 0 with
     |true=>match Nat.beq cs.length n with
      |true=>match wO T M L rs hs.tail with
       |some (vs,S)=>some (.agg cs.toArray::vs,(b'=b)::S)
       |none=>none
      |false=>none
     |false=>match wO T M L rs hs.tail with
      |some (vs,S)=>some (.agg ((cs.drop o).take n).toArray::vs,(b'=b)::(((cs.drop o).take n).length=n)::S)
      |none=>none
    |none=>none
   |none=>none
  |_=>none
theorem oP {P:Program} {T:Ds} {M:List (Nat×List Value)} {L:dF} {C:List ay} (hT:lZ P T) (hM:MM C M): ∀ (rs:List ResultVar) (hs:List Nat) {vs:List Value} {S:List Prop},wO T M L rs hs=some (vs,S)→qq S→G8 P L C rs vs
 |[],_,vs,S,h,hS=>by unfold wO at h; cases h; exact trivial
 | .tmp t::rs,hs,vs,S,h,hS=>by
  unfold wO at h
  split at h
  ·rename_i v hv
   split at h
   ·rename_i vs' S' hr
    cases h
    exact ⟨hv,oP hT hM rs hs hr hS⟩
   ·cases h
  ·cases h
 | .cell a t::rs,hs,vs,S,h,hS=>by
  unfold wO at h
  split at h
  ·rename_i b o hl
   split at h
   ·rename_i b' cs hm
    have A:=aP hm
    split at h
    ·rename_i hk
     split at h
     ·rename_i v hv
      split at h
      ·rename_i vs' S' hr
       cases h
       obtain ⟨rfl,hS⟩:=hS
       exact ⟨⟨_,hl,.inr ⟨_,hT.Jb hk,hM _ A _ _ (wB hv)⟩⟩,oP hT hM rs _ hr hS⟩
      ·cases h
     ·cases h
    ·rename_i n hk
     split at h
     ·rename_i ho
      split at h
      ·rename_i hn
       split at h
       ·rename_i vs' S' hr
        cases h
        obtain ⟨rfl,hS⟩:=hS
        have D:=Nat.eq_of_beq_eq_true ho
        subst D
        exact ⟨⟨_,hl,.inl ⟨_,cs,hT.Jb hk,hM _ A 0 cs sm,Nat.eq_of_beq_eq_true hn,U⟩⟩,oP hT hM rs _ hr hS⟩
       ·cases h
      ·cases h
     ·split at h
      ·rename_i vs' S' hr
       cases h
       obtain ⟨rfl,B,hS⟩:=hS
       exact ⟨⟨_,hl,.inl ⟨_,_,hT.Jb hk,hM _ A o _ (by rw [B]),B,U⟩⟩,oP hT hM rs _ hr hS⟩
      ·cases h
    ·cases h
   ·cases h
  ·cases h
section
variable {P:Program} {n:Nat} {fn:Func} {w0:World} {K:Act→World→Prop} {L:List (Nat×Value)} {C:List ay} {M:List (Nat×List Value)} {vs:List Value} {S:List Prop} {u x v:Value}
theorem Bf (hQ: ∀ D L C,LJ ⟨P,none,n,tT,w0⟩ fn (Ae w0 v) D L C→KJ ⟨P,none,n,tT,w0⟩ K D L C) (hs:List Nat) (hM:MM C M) (h:wO TT M L fn.results.toList hs=some ([u],S)) (e:u=v) (hS:qq S:=by repeat' first|exact True.intro |refine ky rfl ?_) (hT:lZ P TT:=by exact qL):KJ ⟨P,none,n,tT,w0⟩ K [] L C:=
 hQ _ _ _ (j4 (oP hT hM _ _ h hS) fun w hs=>Cs e hs)
theorem mh (hQ: ∀ D L C,LJ ⟨P,none,n,tT,w0⟩ fn (Ae w0 v) D L C→KJ ⟨P,none,n,tT,w0⟩ K D L C) (hs:List Nat) (hM:MM C M) (h:wO TT M L fn.results.toList hs=some (u::x::vs,S)) (e:Value.tuple (u::x::vs).toArray=v) (hS:qq S:=by repeat' first|exact True.intro |refine ky rfl ?_) (hT:lZ P TT:=by exact qL):KJ ⟨P,none,n,tT,w0⟩ K [] L C:=
 hQ _ _ _ (j4 (oP hT hM _ _ h hS) fun w hs=>Cs e hs)
theorem LX {α:Type} {V:α→Value} {p:α→Prop} {N:α→List ay} (hQ: ∀ D L C,LJ ⟨P,none,n,tT,w0⟩ fn (JY w0 V p N) D L C→KJ ⟨P,none,n,tT,w0⟩ K D L C) (x:α) (is hs:List Nat) (hM:MM C M) (h:wO TT M L fn.results.toList hs=some (vs,S)) (hw:(N x).all (·.wr)=true) (hN:kS C is=N x) (hV:QG vs=V x) (hp:p x) (hn:decide is.Nodup=true:=by rfl) (hS:qq S:=by repeat' first|exact True.intro |refine ky rfl ?_) (hT:lZ P TT:=by exact qL):KJ ⟨P,none,n,tT,w0⟩ K [] L C:=
 hQ _ _ _ (j4 (oP hT hM _ _ h hS) fun w hs=>PU x is hV hp hn hN hw hs)
theorem LM {A:ay} {α:Type} {V:α→Value} {p:α→Prop} {A':α→ay} (hQ: ∀ D L C,LJ ⟨P,none,n,⟨A.wf,fun _=>True⟩,w0⟩ fn (Mn w0 A V p A') D L C→KJ ⟨P,none,n,⟨A.wf,fun _=>True⟩,w0⟩ K D L C) (x:α) (i:Nat) (hs:List Nat) (hM:MM C M) (h:wO TT M L fn.results.toList hs=some (vs,S)) (hw:(A' x).wr=true) (hC:C[i]? =some (A' x)) (hV:QG vs=V x) (hp:p x) (hS:qq S:=by repeat' exact True.intro) (hT:lZ P TT:=by exact qL):KJ ⟨P,none,n,⟨A.wf,fun _=>True⟩,w0⟩ K [] L C:=
 hQ _ _ _ (j4 (oP hT hM _ _ h hS) fun w hs=>Tu x i hV hp hC hw hs)
end
end
section
open Go.RowKit
def EK {α:Type _}:List α→List α→Option (List α)
 |[],m=>some m
 |a::l,m=>match EK l m with
  |some r=>some (a::r)
  |none=>none
theorem F2 {α:Type _}: ∀ {l m r:List α},EK l m=some r→l++m=r
 |[],m,r,h=>by cases h; rfl
 |a::l,m,r,h=>by
  unfold EK at h
  split at h
  ·rename_i r' hr
   cases h
   exact congrArg (a:: ·) (F2 hr)
  ·cases h
def TF (L:dF):List Nat→Option (dF)
 |[]=>some []
 |t::ts=>match L.lookup t with
  |some v=>match TF L ts with
   |some r=>some ((t,v)::r)
   |none=>none
  |none=>none
theorem Fp {L M:dF} (k:cR L M): ∀ {ts:List Nat} {r:dF},TF L ts=some r→cR L (r++M)
 |[],r,h=>by cases h; exact k
 |t::ts,r,h=>by
  unfold TF at h
  split at h
  ·rename_i v hv
   split at h
   ·rename_i r' hr
    cases h
    exact cR.cons hv (Fp k hr)
   ·cases h
  ·cases h
section
variable {E:fH} {Q:dv} {D:List Deferred} {L L0:List (Nat×Value)} {C C0:List ay} {ι:Type} {Li:ι→List (Nat×Value)} {Ci:ι→List ay}
theorem bP {c:Code} (kL kC:List Nat) (hL:TF L kL=some L0) (hC0:sQ C kC=some C0) (S:ι→dF) (G:ι→List ay) (hLi: ∀ x,EK L0 (S x)=some (Li x)) (hCi: ∀ x,EK C0 (G x)=some (Ci x)) (μ:ι→Nat) (x0:ι)
 (h0:cR L (S x0)) (hC: ∀ w,St E.S E.w0 C w→St E.S E.w0 (Ci x0) w)
 (round: ∀ x (J:Act→World→Prop),(∀ y D' L' C',D'=D→μ y<μ x→cR L' (Li y)→(∀ w,St E.S E.w0 C' w→St E.S E.w0 (Ci y) w)→KJ E J D' L' C')→WJ E c (Exit.then J Q) D (Li x) (Ci x)):WJ E (.loop c) Q D L C:=
 O9 Li Ci μ x0 (F2 (hLi x0)▸Fp h0 hL) hC round
theorem oR {x y:Code} (kL kC:List Nat) (hL:TF L kL=some L0) (hC0:sQ C kC=some C0) (S:ι→dF) (G:ι→List ay) (hLi: ∀ x,EK L0 (S x)=some (Li x)) (hCi: ∀ x,EK C0 (G x)=some (Ci x))
 (hy: ∀ z,WJ E y Q D (Li z) (Ci z)) (h: ∀ K:Act→World→Prop,(∀ z,KJ E K D (Li z) (Ci z))→WJ E x (Exit.then K Q) D L C):WJ E (.seq x y) Q D L C:=P1 Li Ci hy h
end
end
section
open Go.RowKit
set_option linter.unusedSectionVars false
/-- what is asked of keys -/
structure vH (P:Program) (kt:Nat) {K:Type} (kV:K→Value):Prop where
 check: ∀ (e:Bool) (x:K) (w:World),(Instr.checkKey e 10000 kt (kV x)).run P w= .ok () w
 find: ∀ (x:K) (w:World) (es:List MapEntry),(∀ e∈es,∃ k,e.key=kV k)→
  ((Instr.findKey kt (kV x) es).run P w= .ok none w∧ ∀ e∈es,e.key≠kV x)∨ ∃ j e,(Instr.findKey kt (kV x) es).run P w= .ok (some (j,e.val)) w∧es[j]? =some e∧e.key=kV x
 bits: ∀ x,Instr.sameBits 10000 (kV x) (kV x)=true
 inj: ∀ x y,kV x=kV y→x=y
section
variable {K:Type} [DecidableEq K] {kV:K→Value}
def eC {β:Type} (l:List (K×β)) (x:K) (y:β):List (K×β):=if (l.lookup x).isSome then l.map (fun p=>if p.1=x then (x,y) else p) else l++[(x,y)]
def fz {β:Type} (l:List (K×β)) (x:K):List (K×β):=l.filter fun p=> !decide (p.1=x)
def cT {β γ:Type} (f:β→γ) (l:List (K×β)):List (K×γ):=l.map fun p=>(p.1,f p.2)
theorem nD {β γ:Type} (f:β→γ) (x:K): ∀ l:List (K×β),(cT f l).lookup x=(l.lookup x).map f
 |[]=>rfl
 |p::l=>by
  obtain ⟨k,v⟩:=p
  have ih:=nD f x l
  by_cases h:x=k
  ·subst h; simp [cT,List.lookup]
  ·have:(x==k)=false:=by simpa using h
   simp only [cT,List.map_cons,List.lookup,this] at ih ⊢
   exact ih
theorem gX {β γ:Type} (f:β→γ) (l:List (K×β)) (x:K) (y:β):cT f (eC l x y)=eC (cT f l) x (f y):=by
 unfold eC
 rw [nD,Option.isSome_map]
 split
 ·simp only [cT,List.map_map]
  refine List.map_congr_left fun p _=>?_
  simp only [Function.comp]
  split<;>rfl
 ·simp [cT]
theorem nS {β γ:Type} (f:β→γ) (l:List (K×β)) (x:K):cT f (fz l x)=fz (cT f l) x:=by
 unfold fz cT
 rw [List.filter_map]
 rfl
theorem iM {β:Type} {x:K}: ∀ {l:List (K×β)},l.lookup x=none↔ ∀ p∈l,p.1≠x
 |[]=>by simp
 |p::l=>by
  obtain ⟨k,v⟩:=p
  by_cases h:x=k
  ·subst h; simp [List.lookup]
  ·have hb:(x==k)=false:=by simpa using h
   simp only [List.lookup,hb,cm,forall_eq_or_imp]
   rw [iM (l:=l)]
   exact ⟨fun q=>⟨fun e=>h e.symm,q⟩,fun q=>q.2⟩
theorem lL {β:Type} {x:K} {y:β}: ∀ {l:List (K×β)},(l.map (·.1)).Nodup→((x,y)∈l↔l.lookup x=some y)
 |[],_=>by simp
 |p::l,hn=>by
  obtain ⟨k,v⟩:=p
  simp only [List.map_cons,List.nodup_cons] at hn
  by_cases h:x=k
  ·subst h
   simp only [List.lookup,beq_self_eq_true,cm,Prod.mk.injEq,true_and,Option.some.injEq]
   constructor
   ·rintro (e|e)
    ·exact e.symm
    ·exact absurd (db.2 ⟨_,e,U⟩) hn.1
   ·intro e; exact .inl e.symm
  ·have hb:(x==k)=false:=by simpa using h
   simp only [List.lookup,hb,cm,Prod.mk.injEq,h,false_and,false_or]
   exact lL hn.2
structure jz (kV:K→Value) (es:Array MapEntry) (c:Nat) (m:List (K×Value)):Prop where
 list:es.toList.map (fun (e:MapEntry)=>(e.key,e.val))=m.map (fun p=>(kV p.1,p.2))
 keys:(m.map (·.1)).Nodup
 O5: ∀ e∈es.toList,e.born<c
 born:(es.toList.map (·.born)).Nodup
def kx (kV:K→Value) (b:Nat) (m:List (K×Value)):ay where
 fO k:=k=b
 wf k:=k=b
 holds w:= ∃ es c,w.heap[b]? =some (.map es c)∧jz kV es c m
 wr:=true
 k9 _ h:=h
 whole _ _ h:=h
 lt w h k hk:=by obtain ⟨es,c,he,_⟩:=h; exact hk▸eB he
 px w w' hk h:=by obtain ⟨es,c,he,hm⟩:=h; exact ⟨es,c,(hk b rfl).trans he,hm⟩
theorem jz.nil:jz kV #[] 0 []:=⟨rfl,List.nodup_nil,sm,List.nodup_nil⟩
theorem jz.size {es:Array MapEntry} {c:Nat} {m:List (K×Value)} (h:jz kV es c m):es.size=m.length:=by
 have:=congrArg List.length h.list
 simpa using this
theorem DO {P:Program} {kt:Nat} (hk:vH P kt kV) (x:K): ∀ (es:List MapEntry) (m:List (K×Value)),es.map (fun (e:MapEntry)=>(e.key,e.val))=m.map (fun p=>(kV p.1,p.2))→
 ((∀ e∈es,e.key≠kV x)→m.lookup x=none)∧ ∀ (j:Nat) (e:MapEntry),es[j]? =some e→e.key=kV x→m[j]? =some (x,e.val):=by
 intro es m h
 refine ⟨fun hn=>iM.2 fun p hp e=>?_,fun j e he hx=>?_⟩
 ·have:(kV p.1,p.2)∈es.map (fun (e:MapEntry)=>(e.key,e.val)):=by rw [h]; exact db.2 ⟨p,hp,rfl⟩
  obtain ⟨z,hz,B⟩:=db.1 this
  simp only [Prod.mk.injEq] at B
  exact hn z hz (by rw [B.1,e])
 ·have A:(es.map (fun (e:MapEntry)=>(e.key,e.val)))[j]? =some (e.key,e.val):=by rw [f_,he]; rfl
  rw [h,f_] at A
  cases hm:m[j]? with
  |none=>simp [hm] at A
  |some p=>
   simp only [hm,Option.map_some,Option.some.injEq,Prod.mk.injEq] at A
   have:=hk.inj _ _ (A.1.trans hx)
   obtain ⟨k,v⟩:=p
   simp only at this A
   rw [this,A.2]
theorem pd {P:Program} {w:World} {kt:Nat} {x:K} {es:Array MapEntry} {c:Nat} {m:List (K×Value)} (hk:vH P kt kV) (h:jz kV es c m):
 ((Instr.findKey kt (kV x) es.toList).run P w= .ok none w∧m.lookup x=none)∨
 ∃ j v,(Instr.findKey kt (kV x) es.toList).run P w= .ok (some (j,v)) w∧m[j]? =some (x,v)∧m.lookup x=some v:=by
 obtain ⟨D,E⟩:=DO hk x es.toList m h.list
 rcases hk.find x w es.toList (fun e he=>by
  have:(e.key,e.val)∈m.map (fun p=>(kV p.1,p.2)):=by rw [← h.list]; exact db.2 ⟨e,he,rfl⟩
  obtain ⟨p,_,hp⟩:=db.1 this
  simp only [Prod.mk.injEq] at hp
  exact ⟨p.1,hp.1.symm⟩) with ⟨A,B⟩|⟨j,e,A,B,C⟩
 ·exact .inl ⟨A,D B⟩
 ·have:=E j e B C
  exact .inr ⟨j,e.val,A,this,(lL h.keys).1 (aP this)⟩
theorem jq {P:Program} {w:World} {kt:Nat} {x:K} (hk:vH P kt kV) (e:Bool):(Instr.checkKey e 10000 kt (kV x)).run P w= .ok () w:=hk.check e x w
section
variable {E:fH} {ops:Array Oper} {Q:dv} {rest:List Oper} {D:List Deferred} {L:List (Nat×Value)} {C:List ay}
variable {dst:Option Tmp} {d:Nat} {ty:TypeId} {ps:String} {af:Array Edge} {g:Option (Nat×Bool)}
theorem mZ {t:TypeId} (hg:ke ops L g=true) (hd:Nat.blt d E.n=true) (k: ∀ b,RJ E ops Q rest D ((d,.map (some b))::L) (kx kV b []::C)):RJ E ops Q (⟨some d,.makeMap t none,ty,ps,af,g⟩::rest) D L C:=by
 intro a w B hs
 have hd':d<E.n:=by rw [← Nat.blt_eq]; exact hd
 unfold tg
 rw [if_pos (eI B hg)]
 refine jl (v:= .map (some w.heap.size)) (w':=w.alloc (.map #[] 0)) sm ?_ ?_
 ·simp [execOp,Instr.makeMap,newObj,Sem.run]
 ·refine k _ _ _ (B.put hd' _) (hs.grow (dZ.alloc no w _) (N:=[kx kV w.heap.size []]) ⟨fun A hA=>?_,fun A hA b hb=>?_,List.pairwise_singleton _ _⟩)
  ·simp at hA; subst hA; exact ⟨#[],0,heap_alloc_new w _,jz.nil⟩
  ·simp at hA; subst hA; exact Nat.le_of_eq (Eq.symm hb)
theorem jz.push {es:Array MapEntry} {c:Nat} {m:List (K×Value)} (h:jz kV es c m) {x:K} (hx:m.lookup x=none) (v:Value):jz kV (es.push {key:=kV x,val:=v,born:=c}) (c+1) (m++[(x,v)]):=by
 refine ⟨by simp [h.list],?_,?_,?_⟩
 ·rw [List.map_append,List.nodup_append]
  refine ⟨h.keys,sm,fun a ha b hb=>?_⟩
  simp at hb; subst hb
  obtain ⟨p,hp,rfl⟩:=db.1 ha
  exact iM.1 hx p hp
 ·intro e he
  simp only [Array.toList_push,gQ,cH] at he
  rcases he with he|rfl
  ·exact Nat.lt_succ_of_lt (h.O5 e he)
  ·exact Nat.lt_succ_self _
 ·simp only [Array.toList_push,List.map_append,List.map_cons,List.map_nil]
  rw [List.nodup_append]
  refine ⟨h.born,sm,fun a ha b hb=>?_⟩
  simp at hb; subst hb
  obtain ⟨p,hp,rfl⟩:=db.1 ha
  exact Nat.ne_of_lt (h.O5 p hp)
theorem Nn {m:List (K×Value)} {j:Nat} {x:K} {v0 v:Value} (hn:(m.map (·.1)).Nodup) (hj:m[j]? =some (x,v0)):m.map (fun p=>if p.1=x then (x,v) else p)=m.set j (x,v):=by
 refine List.ext_getElem? fun i=>?_
 rw [f_,List.getElem?_set]
 by_cases e:j=i
 ·subst e
  have hl:=(aZ.1 hj).1
  rw [hj]; simp [hl]
 ·rw [if_neg e]
  cases hi:m[i]? with
  |none=>rfl
  |some p=>
   simp only [Option.map_some]
   rw [if_neg]
   intro hp
   have B:(m.map (·.1))[i]? =some x:=by rw [f_,hi]; simp [hp]
   have C:(m.map (·.1))[j]? =some x:=by rw [f_,hj]; rfl
   have A:=(aZ.1 B).1
   exact e (((List.getElem?_inj A hn).1 (B.trans C.symm)).symm)
theorem jz.set {es:Array MapEntry} {c:Nat} {m:List (K×Value)} (h:jz kV es c m) {x:K} {j:Nat} {v0:Value} (hj:m[j]? =some (x,v0)) (hx:m.lookup x=some v0) (v:Value):
 jz kV (es.modify j fun e=>{e with key:=kV x,val:=v}) c (eC m x v):=by
 have C:eC m x v=m.set j (x,v):=by unfold eC; rw [hx]; simpa using Nn h.keys hj
 have hl:=(aZ.1 hj).1
 have E:=h.size
 have A:j<es.size:=by omega
 have B:(es.modify j fun e=>{e with key:=kV x,val:=v}).toList=es.toList.set j {(es[j]) with key:=kV x,val:=v}:=by
  refine List.ext_getElem? fun i=>?_
  rw [Array.getElem?_toList,Array.getElem?_modify,List.getElem?_set]
  by_cases e:j=i
  ·subst e; simp [A]
  ·simp [e]
 have D:(es.toList.set j {(es[j]) with key:=kV x,val:=v}).map (·.born)=es.toList.map (·.born):=by
  rw [List.map_set]
  refine List.ext_getElem? fun i=>?_
  rw [List.getElem?_set]
  by_cases e:j=i
  ·subst e; simp [A]
  ·rw [if_neg e]
 refine ⟨?_,?_,?_,?_⟩
 ·rw [B,C,List.map_set,List.map_set,h.list]
 ·rw [C,List.map_set]
  have:(m.map (·.1)).set j x=m.map (·.1):=by
   refine List.ext_getElem? fun i=>?_
   rw [List.getElem?_set]
   by_cases e:j=i
   ·subst e; simp [hl]; simpa using (congrArg Prod.fst ((aZ.1 hj).2)).symm
   ·rw [if_neg e]
  simp only [this]
  exact h.keys
 ·intro e he
  rw [B] at he
  have hb:e.born∈(es.toList.set j {(es[j]) with key:=kV x,val:=v}).map (·.born):=db.2 ⟨e,he,rfl⟩
  rw [D] at hb
  obtain ⟨e',he',hq⟩:=db.1 hb
  rw [← hq]; exact h.O5 e' he'
 ·rw [B,D]; exact h.born
/-- m[x] = y -/
theorem je {t kt et:TypeId} {xm xk xv:Operand} {b:Nat} {x:K} {v:Value} {m m':List (K×Value)} {C':List ay} (i:Nat) (hg:ke ops L g=true) (hm:ev L xm=some (.map (some b))) (hk:ev L xk=some (kV x)) (hv:ev L xv=some v)
 (ht:E.P.underlying t=some (.map kt et)) (hkt:vH E.P kt kV) (hC:C[i]? =some (kx kV b m)) (hm':eC m x v=m') (hC':C.set i (kx kV b m')=C') (k:RJ E ops Q rest D L C'):
 RJ E ops Q (⟨none,.mapUpdate t xm xk xv,ty,ps,af,g⟩::rest) D L C:=by
 subst hm' hC'
 intro a w A hs
 unfold tg
 rw [if_pos (eI A hg)]
 obtain ⟨es,c,he,hi⟩:=hs.holds _ (aP hC)
 have B:(getObj b).run E.P w= .ok (.map es c) w:=MapKept.run_getObj_map he
 rcases pd (P:=E.P) (w:=w) (x:=x) hkt hi with ⟨AA,F⟩|⟨j,N,AA,F,J⟩
 ·refine sN (w':={w with heap:=w.heap.setIfInBounds b (.map (es.push {key:=kV x,val:=v,born:=c}) (c+1))}) sm ?_ ?_
  ·simp [execOp,A.ev hm,A.ev hk,A.ev hv,Instr.mapUpdate,run_underlying ht,B,jq hkt,AA,MapKept.run_setObj_map _ he]
  ·refine k _ _ ⟨A.defers,A.size,A.at_⟩ (hs.Ag (b:=b) i hC U U (nO _) (fun _ h=>h) ⟨_,_,pT he,?_⟩)
   have:eC m x v=m++[(x,v)]:=by unfold eC; rw [F]; rfl
   rw [this]; exact hi.push F v
 ·have M:=hi.size
  have G:j<es.size:=by have:=(aZ.1 F).1; omega
  have H:(es[j]).key=kV x:=by
   have:=congrArg (fun l=>l[j]?) hi.list
   simp [G,F] at this
   exact this.1
  refine sN (w':={w with heap:=w.heap.setIfInBounds b (.map (es.modify j fun e=>{e with key:=kV x,val:=v}) c)}) sm ?_ ?_
  ·simp [execOp,A.ev hm,A.ev hk,A.ev hv,Instr.mapUpdate,run_underlying ht,B,jq hkt,AA,MapKept.run_setObj_map _ he,Instr.keyThatStays,G,H,hkt.bits x]
  ·exact k _ _ ⟨A.defers,A.size,A.at_⟩ (hs.Ag (b:=b) i hC U U (nO _) (fun _ h=>h) ⟨_,_,pT he,hi.set F J v⟩)
theorem jz.del {es:Array MapEntry} {c:Nat} {m:List (K×Value)} (h:jz kV es c m) {x:K} {j:Nat} {v0:Value} (hj:m[j]? =some (x,v0)):jz kV (es.eraseIdxIfInBounds j) c (fz m x):=by
 have hl:=(aZ.1 hj).1
 have D:=h.size
 have A:j<es.size:=by omega
 have B:(es.eraseIdxIfInBounds j).toList=es.toList.eraseIdx j:=by simp [Array.eraseIdxIfInBounds,A]
 have E:fz m x=m.eraseIdx j:=by
  have hn:=h.keys
  clear h D A B
  induction m generalizing j with
  |nil=>simp at hj
  |cons p m ih=>
   obtain ⟨k,v⟩:=p
   simp only [List.map_cons,List.nodup_cons] at hn
   cases j with
   |zero=>
    simp at hj
    obtain ⟨rfl,rfl⟩:=hj
    simp only [fz,List.eraseIdx_zero,List.tail_cons]
    rw [List.filter_cons_of_neg sm]
    refine List.filter_eq_self.2 fun p hp=>?_
    have:p.1≠k:=fun e=>hn.1 (db.2 ⟨p,hp,e⟩)
    simpa using this
   |succ j=>
    simp only [List.getElem?_cons_succ] at hj
    have C:k≠x:=fun e=>hn.1 (db.2 ⟨_,aP hj,e.symm⟩)
    simp only [fz,List.eraseIdx_cons_succ] at ih ⊢
    rw [List.filter_cons_of_pos (by simpa using C),ih hj (by simpa using (aZ.1 hj).1) hn.2]
 have sub:(es.eraseIdxIfInBounds j).toList.Sublist es.toList:=by rw [B]; exact List.eraseIdx_sublist _ _
 refine ⟨?_,?_,fun e he=>h.O5 e (sub.subset he),h.born.sublist (sub.map _)⟩
 ·rw [B,E,ChangeMaps.map_eraseIdx,ChangeMaps.map_eraseIdx,h.list]
 ·rw [E]; exact h.keys.sublist ((List.eraseIdx_sublist _ _).map _)
theorem DA {m:List (K×Value)} {x:K} (h:m.lookup x=none):fz m x=m:=List.filter_eq_self.2 fun p hp=>by simpa using iM.1 h p hp
/-- y, ok := m[x] -/
theorem Jw {t kt et:TypeId} {xm xk:Operand} {b:Nat} {x:K} {z:Value} {m:List (K×Value)} (hg:ke ops L g=true) (hm:ev L xm=some (.map (some b))) (hk:ev L xk=some (kV x))
 (ht:E.P.underlying t=some (.map kt et)) (hkt:vH E.P kt kV) (hz:tV E.P et=some z) (hC:g9 C (kx kV b m).holds):
 SD E ops ⟨dst,.lookup t xm xk true,ty,ps,af,g⟩ D L C (.tuple [(m.lookup x).getD z,.bool (m.lookup x).isSome].toArray):=
 eM hg sm fun a w A hs=>by
  obtain ⟨es,c,he,hi⟩:=hs.has hC
  have B:(getObj b).run E.P w= .ok (.map es c) w:=MapKept.run_getObj_map he
  rcases pd (P:=E.P) (w:=w) (x:=x) hkt hi with ⟨F,G⟩|⟨j,AA,F,G,H⟩
  ·simp [execOp,Instr.lookup,A.ev hm,A.ev hk,run_underlying ht,B,jq hkt,F,G,Ls hz]
  ·simp [execOp,Instr.lookup,A.ev hm,A.ev hk,run_underlying ht,B,jq hkt,F,H]
/-- m[x] -/
theorem Hq {t kt et:TypeId} {xm xk:Operand} {b:Nat} {x:K} {z:Value} {m:List (K×Value)} (hg:ke ops L g=true) (hm:ev L xm=some (.map (some b))) (hk:ev L xk=some (kV x))
 (ht:E.P.underlying t=some (.map kt et)) (hkt:vH E.P kt kV) (hz:tV E.P et=some z) (hC:g9 C (kx kV b m).holds):
 SD E ops ⟨dst,.lookup t xm xk false,ty,ps,af,g⟩ D L C ((m.lookup x).getD z):=
 eM hg sm fun a w A hs=>by
  obtain ⟨es,c,he,hi⟩:=hs.has hC
  have B:(getObj b).run E.P w= .ok (.map es c) w:=MapKept.run_getObj_map he
  rcases pd (P:=E.P) (w:=w) (x:=x) hkt hi with ⟨F,G⟩|⟨j,AA,F,G,H⟩
  ·simp [execOp,Instr.lookup,A.ev hm,A.ev hk,run_underlying ht,B,jq hkt,F,G,Ls hz]
  ·simp [execOp,Instr.lookup,A.ev hm,A.ev hk,run_underlying ht,B,jq hkt,F,H]
theorem tI {β:Type} {t kt et:TypeId} {xm xk:Operand} {b:Nat} {x:K} {f:β→Value} {z:β} {l:List (K×β)} (hg:ke ops L g=true) (hm:ev L xm=some (.map (some b))) (hk:ev L xk=some (kV x))
 (ht:E.P.underlying t=some (.map kt et)) (hkt:vH E.P kt kV) (hz:tV E.P et=some (f z)) (hC:g9 C (kx kV b (cT f l)).holds):
 SD E ops ⟨dst,.lookup t xm xk true,ty,ps,af,g⟩ D L C (.tuple [f ((l.lookup x).getD z),.bool (l.lookup x).isSome].toArray):=by
 have:=Jw (dst:=dst) (ty:=ty) (ps:=ps) (af:=af) (D:=D) hg hm hk ht hkt hz hC
 rw [nD] at this
 have A:((l.lookup x).map f).getD (f z)=f ((l.lookup x).getD z):=by cases l.lookup x<;>rfl
 rw [A,Option.isSome_map] at this
 exact this
theorem wy {β:Type} {t kt et:TypeId} {xm xk:Operand} {b:Nat} {x:K} {f:β→Value} {z:β} {l:List (K×β)} (hg:ke ops L g=true) (hm:ev L xm=some (.map (some b))) (hk:ev L xk=some (kV x))
 (ht:E.P.underlying t=some (.map kt et)) (hkt:vH E.P kt kV) (hz:tV E.P et=some (f z)) (hC:g9 C (kx kV b (cT f l)).holds):
 SD E ops ⟨dst,.lookup t xm xk false,ty,ps,af,g⟩ D L C (f ((l.lookup x).getD z)):=by
 have:=Hq (dst:=dst) (ty:=ty) (ps:=ps) (af:=af) (D:=D) hg hm hk ht hkt hz hC
 rw [nD] at this
 have A:((l.lookup x).map f).getD (f z)=f ((l.lookup x).getD z):=by cases l.lookup x<;>rfl
 rw [A] at this
 exact this
end
theorem mY {β:Type} {x:K} {y:β} {l:List (K×β)} (h:(x,y)∈l):(fz l x).length<l.length:=by
 unfold fz
 exact List.length_filter_lt_length_iff_exists.2 ⟨_,h,sm⟩
theorem zt {β:Type} {x:K} {p:K×β} {l:List (K×β)}:p∈fz l x↔p∈l∧p.1≠x:=by simp [fz]
/-- an iterator over a map: what is left; what came last -/
def AY (kV:K→Value) (r b:Nat) (m left:List (K×Value)) (cur:Option (K×Value)):ay where
 fO k:=k=r∨k=b
 wf k:=k=r∨k=b
 holds w:=r≠b∧ ∃ (es:Array MapEntry) (c since:Nat) (seen:Array Nat) (st:Nat),w.heap[b]? =some (.map es c)∧jz kV es c m∧w.heap[r]? =some (.mapIter (some b) since seen st)∧(∀ e∈es.toList,e.born<since)∧since≤st∧since≤c∧
  (leftOf es seen).toList.map (fun (e:MapEntry)=>(e.key,e.val))=left.map (fun p=>(kV p.1,p.2))∧
  ∀ p,cur=some p→ ∃ (e:MapEntry) (seen0:Array Nat),e∈es.toList∧seen=seen0.push e.born∧st=c∧e.key=kV p.1∧e.val=p.2
 wr:=true
 k9 _ h:=h
 whole _ _ h:=h
 lt w h k hk:=by
  obtain ⟨_,es,c,since,seen,st,h1,_,h2,_⟩:=h
  rcases hk with rfl|rfl
  ·exact eB h2
  ·exact eB h1
 px w w' hk h:=by
  obtain ⟨hne,es,c,since,seen,st,h1,h2,h3,h4⟩:=h
  exact ⟨hne,es,c,since,seen,st,(hk b (.inr rfl)).trans h1,h2,(hk r (.inl rfl)).trans h3,h4⟩
theorem C5 {r b:Nat} {m left:List (K×Value)} {cur:Option (K×Value)}:(∀ w,(AY kV r b m left cur).holds w→(AY kV r b m left none).holds w)∧(∀ k,(AY kV r b m left none).fO k→(AY kV r b m left cur).fO k)∧ ∀ k,(AY kV r b m left none).wf k→(AY kV r b m left cur).wf k:=
 ⟨fun w h=>by
  obtain ⟨A,es,c,since,seen,st,B,C,D,E,F,h5',G,_⟩:=h
  exact ⟨A,es,c,since,seen,st,B,C,D,E,F,h5',G,fun p hp=>by cases hp⟩,fun _ h=>h,fun _ h=>h⟩
theorem Kt {r b:Nat} {m left:List (K×Value)} {cur:Option (K×Value)}:(∀ w,(AY kV r b m left cur).holds w→(kx kV b m).holds w)∧(∀ k,(kx kV b m).fO k→(AY kV r b m left cur).fO k)∧ ∀ k,(kx kV b m).wf k→(AY kV r b m left cur).wf k:=
 ⟨fun w h=>by
  obtain ⟨C,es,c,since,seen,st,A,B,_⟩:=h
  exact ⟨es,c,A,B⟩,fun _ h=> .inr h,fun _ h=> .inr h⟩
theorem Dh {es:Array MapEntry} {c:Nat} {m:List (K×Value)} (hinj: ∀ x y,kV x=kV y→x=y) (hi:jz kV es c m) {x y:MapEntry} (hx:x∈es.toList) (hy:y∈es.toList) (e:x.key=y.key):x=y:=by
 have hk:(es.toList.map (·.key))=(m.map (·.1)).map kV:=by
  have:=congrArg (List.map Prod.fst) hi.list
  simpa [Function.comp_def] using this
 have h:(es.toList.map (·.key)).Nodup:=by
  rw [hk,List.nodup_iff_pairwise_ne,List.pairwise_map]
  exact hi.keys.imp (fun B he=>B (hinj _ _ he))
 obtain ⟨i,A⟩:=List.getElem?_of_mem hx
 obtain ⟨j,hj⟩:=List.getElem?_of_mem hy
 have C:(es.toList.map (·.key))[i]? =some x.key:=by rw [f_,A]; rfl
 have D:(es.toList.map (·.key))[j]? =some x.key:=by rw [f_,hj,e]; rfl
 have E:=(List.getElem?_inj (aZ.1 C).1 h).1 (C.trans D.symm)
 subst E
 exact Option.some.inj (A.symm.trans hj)
section
variable {E:fH} {ops:Array Oper} {Q:dv} {rest:List Oper} {D:List Deferred} {L:List (Nat×Value)} {C:List ay}
variable {dst:Option Tmp} {d:Nat} {ty:TypeId} {ps:String} {af:Array Edge} {g:Option (Nat×Bool)}
theorem zW {t kt et:TypeId} {xm:Operand} {b:Nat} {m:List (K×Value)} (i:Nat) (hg:ke ops L g=true) (hm:ev L xm=some (.map (some b))) (ht:E.P.underlying t=some (.map kt et)) (hC:C[i]? =some (kx kV b m)) (hd:Nat.blt d E.n=true)
 (k: ∀ r,RJ E ops Q rest D ((d,.pointer (some ⟨r,0,none⟩))::L) (C.set i (AY kV r b m m none))):RJ E ops Q (⟨some d,.range t xm,ty,ps,af,g⟩::rest) D L C:=by
 intro a w A hs
 have hd':d<E.n:=by rw [← Nat.blt_eq]; exact hd
 unfold tg
 rw [if_pos (eI A hg)]
 obtain ⟨es,c,he,hi⟩:=hs.holds _ (aP hC)
 have F:b<w.heap.size:=eB he
 have B:(getObj b).run E.P w= .ok (.map es c) w:=MapKept.run_getObj_map he
 refine jl (v:= .pointer (some ⟨w.heap.size,0,none⟩)) (w':=w.alloc (.mapIter (some b) c #[] c)) sm ?_ ?_
 ·simp [execOp,Instr.range,A.ev hm,run_underlying ht,B,newObj,Sem.run]
 ·refine k _ _ _ (A.put hd' _) (hs.mv i hC ⟨⟨om,es,c,c,#[],c,?_,hi,heap_alloc_new w _,hi.O5,Nat.le_refl _,Nat.le_refl _,?_,fun p hp=>by cases hp⟩,dZ.alloc _ w _,fun q hq=>?_,fun q hq=>?_⟩)
  ·rw [Below.heap_alloc w _ b F]; exact he
  ·have:leftOf es #[]=es:=by unfold leftOf; exact Array.filter_eq_self.2 sm
   rw [this]; exact hi.list
  ·rcases hq with rfl|rfl
   ·exact .inr (Nat.le_refl _)
   ·exact .inl U
  ·rcases hq with rfl|rfl
   ·exact .inr (Nat.le_refl _)
   ·exact .inl U
theorem xb {es:Array MapEntry} {c:Nat} {m left:List (K×Value)} {seen:Array Nat} (hinj: ∀ x y,kV x=kV y→x=y) (hi:jz kV es c m) (h:(leftOf es seen).toList.map (fun (e:MapEntry)=>(e.key,e.val))=left.map (fun p=>(kV p.1,p.2))):(left.map (·.1)).Nodup:=by
 have B:((leftOf es seen).toList.map (·.key)).Sublist (es.toList.map (·.key)):=by
  unfold leftOf; rw [Array.toList_filter]; exact List.filter_sublist.map _
 have D:(es.toList.map (·.key))=(m.map (·.1)).map kV:=by
  have:=congrArg (List.map Prod.fst) hi.list
  simpa [Function.comp_def] using this
 have E:((leftOf es seen).toList.map (·.key))=(left.map (·.1)).map kV:=by
  have:=congrArg (List.map Prod.fst) h
  simpa [Function.comp_def] using this
 rw [D,E] at B
 have F:((m.map (·.1)).map kV).Nodup:=by
  rw [List.nodup_iff_pairwise_ne,List.pairwise_map]
  exact hi.keys.imp (fun A he=>A (hinj _ _ he))
 have C:=F.sublist B
 rw [List.nodup_iff_pairwise_ne,List.pairwise_map] at C
 rw [List.nodup_iff_pairwise_ne]
 exact C.imp (fun A he=>A (by rw [he]))
theorem Kj (hinj: ∀ x y,kV x=kV y→x=y) {xi:Operand} {r b:Nat} {m left:List (K×Value)} {cur:Option (K×Value)} (i:Nat) (hg:ke ops L g=true) (hm:ev L xi=some (.pointer (some ⟨r,0,none⟩))) (hC:C[i]? =some (AY kV r b m left cur)) (hd:Nat.blt d E.n=true)
 (k0:left=[]→RJ E ops Q rest D ((d,.tuple [.bool false].toArray)::L) C)
 (k1: ∀ x v,(x,v)∈left→(left.map (·.1)).Nodup→RJ E ops Q rest D ((d,.tuple [.bool true,kV x,v].toArray)::L) (C.set i (AY kV r b m (fz left x) (some (x,v))))):
 RJ E ops Q (⟨some d,.next xi false,ty,ps,af,g⟩::rest) D L C:=by
 intro a w G hs
 have hd':d<E.n:=by rw [← Nat.blt_eq]; exact hd
 unfold tg
 rw [if_pos (eI G hg)]
 obtain ⟨R,es,c,since,seen,st,X,hi,Y,J,V,M,A,_⟩:=hs.holds _ (aP hC)
 rcases run_next_at (P:=E.P) w ty r b since st seen es c Y X J V with ⟨Z,hr⟩|⟨e,he,N,H,hr⟩
 ·refine jl (v:= .tuple #[.bool false]) (w':=w) sm ?_ ?_
  ·simp [execOp,G.ev hm,hr]
  ·refine k0 ?_ _ _ (G.put hd' _) hs
   have:(leftOf es seen).toList=[]:=by rw [← List.length_eq_zero_iff,Array.length_toList]; exact Z
   rw [this] at A
   exact List.map_eq_nil_iff.1 A.symm
 ·have O:(e.key,e.val)∈left.map (fun p=>(kV p.1,p.2)):=by rw [← A]; exact db.2 ⟨e,he,rfl⟩
  obtain ⟨p,hp,S⟩:=db.1 O
  obtain ⟨x,v⟩:=p
  simp only [Prod.mk.injEq] at S
  obtain ⟨hk,hv⟩:=S
  refine jl (v:= .tuple #[.bool true,e.key,e.val]) (w':=ChangeMaps.setBlock N r (.mapIter (some b) since (seen.push e.born) c)) sm ?_ ?_
  ·simp [execOp,G.ev hm,hr]
  ·rw [← hk,← hv]
   have AA:=xb hinj hi A
   have F:e∈es.toList:=by unfold leftOf at he; rw [Array.toList_filter] at he; exact (List.mem_filter.1 he).1
   have f:c=c:=rfl
   have B:N.heap=w.heap:=by rcases H with rfl|rfl<;>rfl
   refine k1 x v hp AA _ _ (G.put hd' _) (hs.mv i hC ⟨⟨R,es,c,since,seen.push e.born,c,?_,hi,?_,J,M,M,?_,fun q hq=>?_⟩,?_,fun q hq=> .inl hq,fun q hq=> .inl hq⟩)
   ·show (N.heap.setIfInBounds r _)[b]? =_
    rw [Array.getElem?_setIfInBounds_ne R,B]; exact X
   ·show (N.heap.setIfInBounds r _)[r]? =_
    rw [Array.getElem?_setIfInBounds_self_of_lt (by rw [B]; exact eB Y)]
   ·have T:leftOf es (seen.push e.born)=(leftOf es seen).filter (fun z=> !(z.born==e.born)):=by
     unfold leftOf
     rw [Array.filter_filter]
     congr 1
     funext z
     simp only [Array.contains_push,Bool.not_or]
     rw [Bool.and_comm]
    rw [T,Array.toList_filter]
    have key: ∀ (l:List MapEntry) (ll:List (K×Value)),(∀ z∈l,z∈es.toList)→l.map (fun (e:MapEntry)=>(e.key,e.val))=ll.map (fun p=>(kV p.1,p.2))→
     (l.filter (fun z=> !(z.born==e.born))).map (fun (e:MapEntry)=>(e.key,e.val))=(fz ll x).map (fun p=>(kV p.1,p.2)):=by
     intro l
     induction l with
     |nil=>intro ll _ h; cases ll with
      |nil=>rfl
      |cons p ll=>simp at h
     |cons z l ih=>
      intro ll hz h
      cases ll with
      |nil=>simp at h
      |cons p ll=>
       simp only [List.map_cons,List.cons.injEq,Prod.mk.injEq] at h
       have ih':=ih ll (fun y hy=>hz y (by simp [hy])) h.2
       have AB:(z.born=e.born)↔(p.1=x):=by
        constructor
        ·intro hb
         have:z=e:=Dl hi.born (hz z sm) F hb
         rw [this] at h
         have:=h.1.1.symm.trans hk.symm
         exact hinj _ _ this
        ·intro hx
         have W:z.key=e.key:=by rw [h.1.1,hx,hk]
         rw [Dh hinj hi (hz z sm) F W]
       unfold fz at ih' ⊢
       by_cases hx:p.1=x
       ·rw [List.filter_cons_of_neg (by simp [AB.2 hx]),List.filter_cons_of_neg (by simp [hx])]; exact ih'
       ·rw [List.filter_cons_of_pos (by simpa using fun hb=>hx (AB.1 hb)),List.filter_cons_of_pos (by simpa using hx)]
        simp only [List.map_cons,h.1.1,h.1.2,ih']
    exact key _ _ (fun z hz=>by unfold leftOf at hz; rw [Array.toList_filter] at hz; exact (List.mem_filter.1 hz).1) A
   ·cases hq
    exact ⟨e,seen,F,U,U,hk.symm,hv.symm⟩
   ·refine ⟨?_,?_,?_,?_,fun q hq hn=>?_⟩
    ·rcases H with rfl|rfl<;>rfl
    ·rcases H with rfl|rfl<;>rfl
    ·rcases H with rfl|rfl<;>rfl
    ·show w.heap.size≤(N.heap.setIfInBounds r _).size
     simp [B]
    ·show (N.heap.setIfInBounds r _)[q]? =_
     rw [Array.getElem?_setIfInBounds_ne (fun e=>hn (.inl e.symm)),B]
theorem yu {xi:Operand} {r b:Nat} {m left:List (K×Value)} {x:K} {v:Value} (i:Nat) (hg:ke ops L g=true) (hm:ev L xi=some (.pointer (some ⟨r,0,none⟩))) (hC:C[i]? =some (AY kV r b m left (some (x,v)))):
 SD E ops ⟨dst,.entry xi,ty,ps,af,g⟩ D L C (.tuple [kV x,v].toArray):=
 eM hg sm fun a w F hs=>by
  obtain ⟨N,es,c,since,seen,st,J,hi,M,H,O,AA,G,B⟩:=hs.holds _ (aP hC)
  obtain ⟨e,A,he,rfl,rfl,hk,hv⟩:=B _ rfl
  have:=run_entry_at (P:=E.P) w r b since A es st e M J he hi.born
  simp [execOp,F.ev hm,this,hk,hv]
theorem yz (hinj: ∀ x y,kV x=kV y→x=y) {β:Type} {f:β→Value} {xi:Operand} {r b:Nat} {m:List (K×Value)} {ll:List (K×β)} {cur:Option (K×Value)} (i:Nat) (hg:ke ops L g=true) (hm:ev L xi=some (.pointer (some ⟨r,0,none⟩))) (hC:C[i]? =some (AY kV r b m (cT f ll) cur)) (hd:Nat.blt d E.n=true)
 (k0:ll=[]→RJ E ops Q rest D ((d,.tuple [.bool false].toArray)::L) C)
 (k1: ∀ x y,(x,y)∈ll→(ll.map (·.1)).Nodup→RJ E ops Q rest D ((d,.tuple [.bool true,kV x,f y].toArray)::L) (C.set i (AY kV r b m (cT f (fz ll x)) (some (x,f y))))):
 RJ E ops Q (⟨some d,.next xi false,ty,ps,af,g⟩::rest) D L C:=by
 refine Kj hinj i hg hm hC hd (fun h=>k0 (List.map_eq_nil_iff.1 h)) (fun x v B hn=>?_)
 obtain ⟨p,hp,A⟩:=db.1 B
 simp only [Prod.mk.injEq] at A
 obtain ⟨rfl,rfl⟩:=A
 have:=k1 p.1 p.2 hp (by simpa [cT,Function.comp_def] using hn)
 rwa [nS] at this
end
end
end
section
structure cq where
 Start:Int
 gL:Int
 qJ:List Int
 zM:List (List (Int×ai))
 cU:Int
 ew:Int
 Uh:Int
def cq.n (w:cq):Nat:=w.qJ.length
def gF (s:Int):aQ:=if s<0 then ⟨0,1⟩ else ⟨1,0⟩
def dR (a b:aQ):aQ:=⟨a.right+b.right,a.fB+b.fB⟩
def wW (w:cq) (b:Nat):List (Int×ai):=(w.zM[b]?).getD []
def jZ (w:cq) (b:Nat):List (Int×ai):=(-1,⟨w.Start,w.gL⟩)::wW w b
def cY (w:cq) (b:Nat):Int:=(w.qJ[b]?).getD 0
def nt (w:cq) (b:Nat) (p:aQ×Int) (o:Int×ai):Option (aQ×Int):=if max (p.2+cY w b) o.2.Lo≤min o.2.Hi w.gL then some (dR p.1 (gF o.1),max (p.2+cY w b) o.2.Lo) else none
def pW (w:cq):Nat→List (aQ×Int)
 |0=>[(⟨0,0⟩,w.Start)]
 |b+1=>(pW w b).flatMap fun p=>(jZ w b).filterMap (nt w b p)
def pJ (w:cq) (b:Nat) (p:aQ×Int) (o:Int×ai):Option (aQ×Int):=if o.2.Lo≤min p.2 o.2.Hi then some (dR p.1 (gF o.1),min p.2 o.2.Hi-cY w b) else none
def NW (w:cq):Nat→List (aQ×Int)
 |0=>[(⟨0,0⟩,w.gL)]
 |k+1=>(⟨0,0⟩,w.gL)::(NW w k).flatMap fun p=>(jZ w (w.n-(k+1))).filterMap (pJ w (w.n-(k+1)) p)
def back (w:cq) (b:Nat):List (aQ×Int):=NW w (w.n-b)
def nk (w:cq) (t:aQ):Bool:=decide (t.fB≤w.cU∧w.Uh-t.right≤w.ew)
theorem kG {w:cq} {b:Nat} {q:aQ×Int}:q∈pW w (b+1)↔ ∃ p∈pW w b,∃ o∈jZ w b,nt w b p o=some q:=by
 simp only [pW,List.mem_flatMap,List.mem_filterMap]
theorem vt {w:cq} {b:Nat} (h:w.n≤b):back w b=[(⟨0,0⟩,w.gL)]:=by
 unfold back; rw [Nat.sub_eq_zero_of_le h]; rfl
theorem ph {w:cq} {b:Nat} (h:b<w.n) {q:aQ×Int}:q∈back w b↔q=(⟨0,0⟩,w.gL)∨ ∃ p∈back w (b+1),∃ o∈jZ w b,pJ w b p o=some q:=by
 unfold back
 have e:w.n-b=(w.n-(b+1))+1:=by omega
 rw [e]
 simp only [NW,cm,List.mem_flatMap,List.mem_filterMap]
 rw [show w.n-(w.n-(b+1)+1)=b by omega]
def ug (m c:List (aQ×Int)):Prop:=(∀ t v,m.lookup t=some v→(t,v)∈c)∧ ∀ t y,(t,y)∈c→ ∃ v,m.lookup t=some v∧v≤y
def wj (m c:List (aQ×Int)):Prop:=(∀ t v,m.lookup t=some v→(t,v)∈c)∧ ∀ t y,(t,y)∈c→ ∃ v,m.lookup t=some v∧y≤v
def wu (m c:List (aQ×Int)):Prop:= ∀ t v,m.lookup t=some v→(t,v)∈c
theorem lT {K β:Type} [DecidableEq K] {m:List (K×β)} {x t:K} {y:β}:(eC m x y).lookup t=if t=x then some y else m.lookup t:=by
 unfold eC
 by_cases hx:(m.lookup x).isSome
 ·rw [if_pos hx]
  have key: ∀ l:List (K×β),(l.lookup x).isSome∨True→(l.map (fun p=>if p.1=x then (x,y) else p)).lookup t=if t=x then (if (l.lookup x).isSome then some y else none) else l.lookup t:=by
   intro l _
   induction l with
   |nil=>simp
   |cons p l ih=>
    obtain ⟨k,v⟩:=p
    have ih:=ih (.inr trivial)
    by_cases hk:k=x
    ·subst hk
     by_cases ht:t=k
     ·subst ht; simp [List.lookup]
     ·have:(t==k)=false:=by simpa using ht
      simp only [List.map_cons,if_true,List.lookup,this,ih,if_neg ht]
    ·have hk':(x==k)=false:=by simpa using fun e=>hk e.symm
     by_cases ht:t=k
     ·subst ht; simp [List.lookup,hk]
     ·have A:(t==k)=false:=by simpa using ht
      simp only [List.map_cons,if_neg hk,List.lookup,A,ih,hk']
  rw [key m (.inr trivial)]
  by_cases ht:t=x
  ·subst ht
   rw [if_pos rfl,if_pos rfl,if_pos hx]
  ·rw [if_neg ht,if_neg ht]
 ·rw [if_neg hx]
  have hn:m.lookup x=none:=by cases h0:m.lookup x with
   |none=>rfl
   |some v=>exact absurd (by rw [h0]; rfl) hx
  by_cases ht:t=x
  ·subst ht
   rw [if_pos rfl]
   have:=iM.1 hn
   clear hn hx
   induction m with
   |nil=>simp
   |cons p m ih=>
    obtain ⟨k,v⟩:=p
    have hk:(t==k)=false:=by simpa using fun e=>this (k,v) sm e.symm
    simp only [List.cons_append,List.lookup,hk]
    exact ih (fun q hq=>this q (dH _ hq))
  ·rw [if_neg ht]
   clear hn hx
   induction m with
   |nil=>
    have:(t==x)=false:=by simpa using ht
    simp [List.lookup,this]
   |cons p m ih=>
    obtain ⟨k,v⟩:=p
    by_cases hk:t=k
    ·subst hk; simp [List.lookup]
    ·have:(t==k)=false:=by simpa using hk
     simp only [List.cons_append,List.lookup,this]
     exact ih
/-- what a map is after a try -/
def pU (m:List (aQ×Int)) (q:aQ×Int):List (aQ×Int):=match m.lookup q.1 with
 |none=>eC m q.1 q.2
 |some v=>if q.2<v then eC m q.1 q.2 else m
def pM (m:List (aQ×Int)) (q:aQ×Int):List (aQ×Int):=match m.lookup q.1 with
 |none=>eC m q.1 q.2
 |some v=>if v<q.2 then eC m q.1 q.2 else m
theorem x9 {m:List (aQ×Int)} {q:aQ×Int} {t:aQ}:(pU m q).lookup t=if t=q.1 then some (match m.lookup q.1 with |none=>q.2|some v=>min q.2 v) else m.lookup t:=by
 unfold pU
 cases h:m.lookup q.1 with
 |none=>simp only; rw [lT]
 |some v=>
  simp only
  split
  ·rename_i A
   rw [lT,Int.min_eq_left om]
  ·rename_i A
   split
   ·rename_i e; subst e; rw [h,Int.min_eq_right om]
   ·rfl
theorem yx {m:List (aQ×Int)} {q:aQ×Int} {t:aQ}:(pM m q).lookup t=if t=q.1 then some (match m.lookup q.1 with |none=>q.2|some v=>max q.2 v) else m.lookup t:=by
 unfold pM
 cases h:m.lookup q.1 with
 |none=>simp only; rw [lT]
 |some v=>
  simp only
  split
  ·rename_i A
   rw [lT,Int.max_eq_left om]
  ·rename_i A
   split
   ·rename_i e; subst e; rw [h,Int.max_eq_right om]
   ·rfl
def yI (m m':List (aQ×Int)):Prop:= ∀ t v,m.lookup t=some v→ ∃ v',m'.lookup t=some v'∧v'≤v
def yB (m m':List (aQ×Int)):Prop:= ∀ t v,m.lookup t=some v→ ∃ v',m'.lookup t=some v'∧v≤v'
theorem yI.refl (m:List (aQ×Int)):yI m m:=fun t v h=>⟨v,h,om⟩
theorem yB.refl (m:List (aQ×Int)):yB m m:=fun t v h=>⟨v,h,om⟩
theorem wE {m:List (aQ×Int)} {q:aQ×Int}:yI m (pU m q):=fun t v h=>by
 rw [x9]
 split
 ·rename_i e; subst e; rw [h]; exact ⟨_,rfl,by simp only; omega⟩
 ·exact ⟨v,h,om⟩
theorem rm {m:List (aQ×Int)} {q:aQ×Int}:yB m (pM m q):=fun t v h=>by
 rw [yx]
 split
 ·rename_i e; subst e; rw [h]; exact ⟨_,rfl,by simp only; omega⟩
 ·exact ⟨v,h,om⟩
theorem Hx {m c:List (aQ×Int)} {q:aQ×Int} (h:wu m c) (hq:q∈c):wu (pU m q) c:=fun t v hv=>by
 rw [x9] at hv
 split at hv
 ·rename_i e
  subst e
  cases hm:m.lookup q.1 with
  |none=>simp only [hm,Option.some.injEq] at hv; subst hv; exact hq
  |some x=>
   simp only [hm,Option.some.injEq] at hv; subst hv
   rcases Int.lt_or_le q.2 x with A|A
   ·rw [Int.min_eq_left om]; exact hq
   ·rw [Int.min_eq_right om]; exact h _ _ hm
 ·exact h t v hv
theorem Hw {m c:List (aQ×Int)} {q:aQ×Int} (h:wu m c) (hq:q∈c):wu (pM m q) c:=fun t v hv=>by
 rw [yx] at hv
 split at hv
 ·rename_i e
  subst e
  cases hm:m.lookup q.1 with
  |none=>simp only [hm,Option.some.injEq] at hv; subst hv; exact hq
  |some x=>
   simp only [hm,Option.some.injEq] at hv; subst hv
   rcases Int.lt_or_le q.2 x with A|A
   ·rw [Int.max_eq_right om]; exact h _ _ hm
   ·rw [Int.max_eq_left om]; exact hq
 ·exact h t v hv
theorem HD {m:List (aQ×Int)} {q:aQ×Int}: ∃ v,(pU m q).lookup q.1=some v∧v≤q.2:=by
 rw [x9,if_pos rfl]
 refine ⟨_,U,?_⟩
 cases m.lookup q.1<;>simp only <;>omega
theorem Gt {m:List (aQ×Int)} {q:aQ×Int}: ∃ v,(pM m q).lookup q.1=some v∧q.2≤v:=by
 rw [yx,if_pos rfl]
 refine ⟨_,U,?_⟩
 cases m.lookup q.1<;>simp only <;>omega
/-- all that comes of one entry, by some options, is held -/
def jG (w:cq) (b:Nat) (m:List (aQ×Int)) (p:aQ×Int) (os:List (Int×ai)):Prop:= ∀ o∈os,∀ q,nt w b p o=some q→ ∃ v,m.lookup q.1=some v∧v≤q.2
def jA (w:cq) (b:Nat) (m:List (aQ×Int)) (p:aQ×Int) (os:List (Int×ai)):Prop:= ∀ o∈os,∀ q,pJ w b p o=some q→ ∃ v,m.lookup q.1=some v∧q.2≤v
theorem jG.lower {w:cq} {b:Nat} {m m':List (aQ×Int)} {p:aQ×Int} {os:List (Int×ai)} (h:jG w b m p os) (hl:yI m m'):jG w b m' p os:=fun o ho q hq=>by
 obtain ⟨v,A,C⟩:=h o ho q hq
 obtain ⟨v',B,D⟩:=hl _ _ A
 exact ⟨v',B,om⟩
theorem jA.upper {w:cq} {b:Nat} {m m':List (aQ×Int)} {p:aQ×Int} {os:List (Int×ai)} (h:jA w b m p os) (hl:yB m m'):jA w b m' p os:=fun o ho q hq=>by
 obtain ⟨v,A,C⟩:=h o ho q hq
 obtain ⟨v',B,D⟩:=hl _ _ A
 exact ⟨v',B,om⟩
theorem jG.sub {w:cq} {b:Nat} {m:List (aQ×Int)} {p:aQ×Int} {os os':List (Int×ai)} (h:jG w b m p os) (hs: ∀ o∈os',o∈os):jG w b m p os':=fun o ho=>h o (hs o ho)
theorem jA.sub {w:cq} {b:Nat} {m:List (aQ×Int)} {p:aQ×Int} {os os':List (Int×ai)} (h:jA w b m p os) (hs: ∀ o∈os',o∈os):jA w b m p os':=fun o ho=>h o (hs o ho)
theorem jG.add {w:cq} {b:Nat} {m m':List (aQ×Int)} {p:aQ×Int} {os:List (Int×ai)} {o:Int×ai} (h:jG w b m p os) (hl:yI m m') (hn: ∀ q,nt w b p o=some q→ ∃ v,m'.lookup q.1=some v∧v≤q.2):jG w b m' p (os++[o]):=fun o' ho q hq=>by
 rcases gQ.1 ho with ho|ho
 ·exact h.lower hl o' ho q hq
 ·simp only [cH] at ho; subst ho; exact hn q hq
theorem jA.add {w:cq} {b:Nat} {m m':List (aQ×Int)} {p:aQ×Int} {os:List (Int×ai)} {o:Int×ai} (h:jA w b m p os) (hl:yB m m') (hn: ∀ q,pJ w b p o=some q→ ∃ v,m'.lookup q.1=some v∧q.2≤v):jA w b m' p (os++[o]):=fun o' ho q hq=>by
 rcases gQ.1 ho with ho|ho
 ·exact h.upper hl o' ho q hq
 ·simp only [cH] at ho; subst ho; exact hn q hq
theorem fR {m:List (aQ×Int)} (hn:(m.map (·.1)).Nodup) {t:aQ} {v:Int}:(t,v)∈m↔m.lookup t=some v:=lL hn
theorem py {z t:aQ} {x v:Int}:List.lookup t [(z,x)]=some v↔t=z∧v=x:=by
 by_cases e:t=z
 ·subst e; simp [List.lookup,eq_comm]
 ·have:(t==z)=false:=by simpa using e
  simp [List.lookup,this,e]
theorem GG {w:cq}:ug [(⟨0,0⟩,w.Start)] (pW w 0):=by
 refine ⟨fun t v h=>?_,fun t y h=>?_⟩
 ·obtain ⟨rfl,rfl⟩:=py.1 h
  simp [pW]
 ·simp only [pW,cH,Prod.mk.injEq] at h
  obtain ⟨rfl,rfl⟩:=h
  exact ⟨w.Start,py.2 ⟨U,U⟩,Int.le_refl _⟩
theorem KI {w:cq} {b:Nat} {mb m:List (aQ×Int)} (hn:(mb.map (·.1)).Nodup) (h:ug mb (pW w b)) (hs:wu m (pW w (b+1))) (hd: ∀ p∈mb,jG w b m p (jZ w b)):ug m (pW w (b+1)):=⟨hs,fun t y hy=>by
 obtain ⟨p,hp,o,ho,e⟩:=kG.1 hy
 obtain ⟨v,B,E⟩:=h.2 p.1 p.2 hp
 unfold nt at e
 split at e
 ·rename_i D
  simp only [Option.some.injEq,Prod.mk.injEq] at e
  obtain ⟨v',A,C⟩:=hd (p.1,v) ((fR hn).2 B) o ho (dR p.1 (gF o.1),max (v+cY w b) o.2.Lo) (by unfold nt; rw [if_pos (by simp only; omega)])
  simp only at A C
  rw [e.1] at A
  exact ⟨v',A,om⟩
 ·cases e⟩
theorem JL {w:cq} {b:Nat} (hb:w.n≤b):wj [(⟨0,0⟩,w.gL)] (back w b):=by
 rw [vt hb]
 refine ⟨fun t v h=>?_,fun t y h=>?_⟩
 ·obtain ⟨rfl,rfl⟩:=py.1 h
  simp
 ·simp only [cH,Prod.mk.injEq] at h
  obtain ⟨rfl,rfl⟩:=h
  exact ⟨w.gL,py.2 ⟨U,U⟩,Int.le_refl _⟩
theorem Kc {w:cq} {b:Nat} (hb:b<w.n) {mb m:List (aQ×Int)} (hn:(mb.map (·.1)).Nodup) (h:wj mb (back w (b+1))) (hs:wu m (back w b)) (h0: ∃ v,m.lookup ⟨0,0⟩=some v∧w.gL≤v) (hd: ∀ p∈mb,jA w b m p (jZ w b)):wj m (back w b):=⟨hs,fun t y hy=>by
 rcases (ph hb).1 hy with e|⟨p,hp,o,ho,e⟩
 ·simp only [Prod.mk.injEq] at e
  obtain ⟨rfl,rfl⟩:=e
  exact h0
 obtain ⟨v,B,E⟩:=h.2 p.1 p.2 hp
 unfold pJ at e
 split at e
 ·rename_i D
  simp only [Option.some.injEq,Prod.mk.injEq] at e
  obtain ⟨v',A,C⟩:=hd (p.1,v) ((fR hn).2 B) o ho (dR p.1 (gF o.1),min v o.2.Hi-cY w b) (by unfold pJ; rw [if_pos (by simp only; omega)])
  simp only at A C
  rw [e.1] at A
  exact ⟨v',A,om⟩
 ·cases e⟩
end
section
def lE (w:cq) (b:Nat) (p u:aQ×Int) (o:Int×ai):ai:=⟨max (p.2+cY w b) o.2.Lo,min u.2 o.2.Hi⟩
def zX (p u:aQ×Int) (o:Int×ai):aQ:=dR (dR p.1 u.1) (gF o.1)
def ni (w:cq) (b:Nat) (p u:aQ×Int) (o:Int×ai):Option (Int×ai):=if (lE w b p u o).Lo≤(lE w b p u o).Hi∧nk w (zX p u o)=true then some (o.1,lE w b p u o) else none
def qF (w:cq) (b:Nat) (mf mb:List (aQ×Int)):List (Int×ai):=(jZ w b).flatMap fun o=>mf.flatMap fun p=>mb.filterMap fun u=>ni w b p u o
def te (w:cq) (b:Nat):List (Int×ai):=qF w b (pW w b) (back w (b+1))
theorem jF {w:cq} {b:Nat} {mf mb:List (aQ×Int)} {q:Int×ai}:q∈qF w b mf mb↔ ∃ o∈jZ w b,∃ p∈mf,∃ u∈mb,ni w b p u o=some q:=by
 simp only [qF,List.mem_flatMap,List.mem_filterMap]
theorem lj {w:cq} {b:Nat} {p u:aQ×Int} {o q:Int×ai}:ni w b p u o=some q↔(lE w b p u o).Lo≤(lE w b p u o).Hi∧nk w (zX p u o)=true∧q=(o.1,lE w b p u o):=by
 unfold ni
 split
 ·rename_i h
  simp only [Option.some.injEq]
  exact ⟨fun e=>⟨h.1,h.2,e.symm⟩,fun e=>e.2.2.symm⟩
 ·rename_i h
  simp only [reduceCtorEq,false_iff]
  exact fun e=>h ⟨e.1,e.2.1⟩
theorem oK {w:cq} {b:Nat} {mf mb:List (aQ×Int)} {q:Int×ai} (h:q∈qF w b mf mb):q.2.Lo≤q.2.Hi:=by
 obtain ⟨o,_,p,_,u,_,e⟩:=jF.1 h
 obtain ⟨A,_,rfl⟩:=lj.1 e
 exact A
/-- what the maps tell is what all ways tell -/
theorem NL {w:cq} {b:Nat} {mf mb:List (aQ×Int)} (hf:ug mf (pW w b)) (hb:wj mb (back w (b+1))) (nf:(mf.map (·.1)).Nodup) (nb:(mb.map (·.1)).Nodup) {q:Int×ai} (h:q∈qF w b mf mb):q∈te w b:=by
 obtain ⟨o,ho,p,hp,u,hu,e⟩:=jF.1 h
 exact jF.2 ⟨o,ho,p,hf.1 _ _ ((fR nf).1 hp),u,hb.1 _ _ ((fR nb).1 hu),e⟩
theorem I6 {w:cq} {b:Nat} {mf mb:List (aQ×Int)} (hf:ug mf (pW w b)) (hb:wj mb (back w (b+1))) (nf:(mf.map (·.1)).Nodup) (nb:(mb.map (·.1)).Nodup) {q:Int×ai} (h:q∈te w b): ∃ q'∈qF w b mf mb,q'.1=q.1∧q'.2.Lo≤q.2.Lo∧q.2.Hi≤q'.2.Hi:=by
 obtain ⟨o,ho,p,hp,u,hu,e⟩:=jF.1 h
 obtain ⟨A,B,rfl⟩:=lj.1 e
 obtain ⟨v,hv,C⟩:=hf.2 p.1 p.2 hp
 obtain ⟨y,hy,D⟩:=hb.2 u.1 u.2 hu
 simp only [lE] at A
 refine ⟨(o.1,lE w b (p.1,v) (u.1,y) o),jF.2 ⟨o,ho,(p.1,v),(fR nf).2 hv,(u.1,y),(fR nb).2 hy,lj.2 ⟨?_,B,U⟩⟩,U,?_,?_⟩
 ·simp only [lE]; omega
 ·simp only [lE]; omega
 ·simp only [lE]; omega
def nv:ai:=⟨1,0⟩
def ng (h x:ai):ai:=if h=nv then x else ⟨min x.Lo h.Lo,max x.Hi h.Hi⟩
def yH (l:List (Int×ai)):ai:=l.foldl (fun h q=>ng h q.2) nv
structure o2 (l:List (Int×ai)) (h:ai):Prop where
 le:h.Lo≤h.Hi
 lo: ∃ x∈l,x.2.Lo=h.Lo
 hi: ∃ x∈l,x.2.Hi=h.Hi
 all: ∀ x∈l,h.Lo≤x.2.Lo∧x.2.Hi≤h.Hi
def kM (l:List (Int×ai)) (h:ai):Prop:=(l=[]∧h=nv)∨o2 l h
theorem o2.ne {l:List (Int×ai)} {h:ai} (hh:o2 l h):h≠nv:=fun e=>by
 have:=hh.le; rw [e] at this; simp [nv] at this
theorem C8:kM [] nv:= .inl ⟨rfl,rfl⟩
theorem vp {l:List (Int×ai)} {h:ai} {q:Int×ai} (hh:kM l h) (hq:q.2.Lo≤q.2.Hi):kM (l++[q]) (ng h q.2):=by
 right
 rcases hh with ⟨rfl,rfl⟩|hh
 ·unfold ng
  rw [if_pos rfl]
  exact ⟨hq,⟨q,sm,rfl⟩,⟨q,sm,rfl⟩,fun x hx=>by simp at hx; subst hx; exact ⟨Int.le_refl _,Int.le_refl _⟩⟩
 ·unfold ng
  rw [if_neg hh.ne]
  have A:=hh.le
  obtain ⟨a,ha,ea⟩:=hh.lo
  obtain ⟨c,hc,ec⟩:=hh.hi
  refine ⟨by simp only; omega,?_,?_,fun x hx=>?_⟩
  ·rcases Int.lt_or_le q.2.Lo h.Lo with p|p
   ·exact ⟨q,sm,by simp only; omega⟩
   ·exact ⟨a,by simp [ha],by simp only; omega⟩
  ·rcases Int.lt_or_le h.Hi q.2.Hi with p|p
   ·exact ⟨q,sm,by simp only; omega⟩
   ·exact ⟨c,by simp [hc],by simp only; omega⟩
  ·rcases gQ.1 hx with hx|hx
   ·have:=hh.all x hx; simp only; omega
   ·simp at hx; subst hx; simp only; omega
theorem vy {l:List (Int×ai)} (hl: ∀ q∈l,q.2.Lo≤q.2.Hi):kM l (yH l):=by
 have key: ∀ (r d:List (Int×ai)) (h:ai),(∀ q∈r,q.2.Lo≤q.2.Hi)→kM d h→kM (d++r) (r.foldl (fun h q=>ng h q.2) h):=by
  intro r
  induction r with
  |nil=>intro d h _ hd; simpa using hd
  |cons q r ih=>
   intro d h hr hd
   have:=ih (d++[q]) (ng h q.2) (fun x hx=>hr x (dH _ hx)) (vp hd (hr q sm))
   simpa using this
 have:=key l [] nv hl C8
 rw [List.nil_append] at this
 exact this
def DQ (a b:List (Int×ai)):Prop:= ∀ x∈b,∃ y∈a,y.2.Lo≤x.2.Lo∧x.2.Hi≤y.2.Hi
theorem MS {a b:List (Int×ai)} {h k:ai} (ha:kM a h) (hb:kM b k) (hab:DQ a b) (hba:DQ b a):h=k:=by
 rcases ha with ⟨rfl,rfl⟩|ha
 ·rcases hb with ⟨rfl,rfl⟩|hb
  ·rfl
  ·obtain ⟨x,hx,_⟩:=hb.lo
   obtain ⟨y,hy,_⟩:=hab x hx
   cases hy
 ·rcases hb with ⟨rfl,rfl⟩|hb
  ·obtain ⟨x,hx,_⟩:=ha.lo
   obtain ⟨y,hy,_⟩:=hba x hx
   cases hy
  ·have le: ∀ {a b:List (Int×ai)} {h k:ai},o2 a h→o2 b k→DQ a b→h.Lo≤k.Lo∧k.Hi≤h.Hi:=fun {a b h k} ha hb hab=>by
    obtain ⟨x,hx,ex⟩:=hb.lo
    obtain ⟨z,hz,ez⟩:=hb.hi
    obtain ⟨y,hy,ey⟩:=hab x hx
    obtain ⟨y',hy',ey'⟩:=hab z hz
    have A:=ha.all y hy
    have B:=ha.all y' hy'
    omega
   have A:=le ha hb hab
   have B:=le hb ha hba
   rw [ai.ext_iff]; omega
theorem zG {w:cq} {b:Nat} {mf mb:List (aQ×Int)} {l:List (Int×ai)} {h:ai} (hf:ug mf (pW w b)) (hb:wj mb (back w (b+1))) (nf:(mf.map (·.1)).Nodup) (nb:(mb.map (·.1)).Nodup)
 (hl: ∀ q∈l,q∈qF w b mf mb) (hl2: ∀ q∈qF w b mf mb,q∈l) (hh:kM l h):h=yH (te w b):=
 MS hh (vy fun q hq=>oK hq) (fun x hx=>by
  obtain ⟨q,hq,_,A,B⟩:=I6 hf hb nf nb hx
  exact ⟨q,hl2 q hq,A,B⟩) (fun x hx=>⟨x,NL hf hb nf nb (hl x hx),Int.le_refl _,Int.le_refl _⟩)
def lq (w:cq) (m:List (aQ×Int)):Bool:=m.any fun p=>nk w p.1
theorem Df {w:cq} {b:Nat} {m:List (aQ×Int)} (h:ug m (pW w b)) (nf:(m.map (·.1)).Nodup):lq w m=lq w (pW w b):=by
 unfold lq
 rw [Bool.eq_iff_iff,List.any_eq_true,List.any_eq_true]
 constructor
 ·rintro ⟨p,hp,A⟩
  exact ⟨p,h.1 _ _ ((fR nf).1 hp),A⟩
 ·rintro ⟨p,hp,A⟩
  obtain ⟨v,hv,_⟩:=h.2 p.1 p.2 hp
  exact ⟨(p.1,v),(fR nf).2 hv,A⟩
def iT (w:cq) (k:Nat):List Int:=((List.range k).filter fun i=>lq w (pW w i)).map fun (i:Nat)=>(i:Int)
def lY (w:cq):List Int:=iT w (w.n+1)
theorem xD {w:cq} {k:Nat} (h:lq w (pW w k)=true):iT w (k+1)=iT w k++[(k:Int)]:=by simp [iT,List.range_succ,h]
theorem zF {w:cq} {k:Nat} (h:lq w (pW w k)=false):iT w (k+1)=iT w k:=by simp [iT,List.range_succ,h]
theorem oa {w:cq} {k:Nat}:(iT w k).length≤k:=by
 unfold iT
 rw [List.length_map]
 exact Nat.le_trans (List.length_filter_le _ _) sm
end
section
open Go.RowKit
theorem Gs {P:Program} {t:Nat} {k:IntKind} (hu:P.underlying t=some (.int k)) (e:Bool) (n:Nat) (v:Value) (w:World):(Instr.checkKey e (n+1) t v).run P w= .ok () w:=by
 unfold Instr.checkKey
 simp only [Sem.run_bind,run_underlying hu,Result.andThen]
 cases v<;>rfl
theorem Ad {P:Program} {kt:Nat} {l:List (Nat×Nat)} (hl:fL P kt=some l) (e:Bool) (n:Nat) (cs:Array Value) (w:World)
 (hf: ∀ p∈l,(∃ v,(part p.1 cs p.2).run P w= .ok v w)∧ ∃ k,P.underlying p.1=some (.int k)):(Instr.checkKey e (n+2) kt (.agg cs)).run P w= .ok () w:=by
 unfold fL at hl
 cases hu:P.underlying kt with
 |none=>simp [hu] at hl
 |some d=>
  cases d<;>simp [hu] at hl
  rename_i fs
  obtain ⟨hn,hl⟩:=hl
  rw [show n+2=(n+1)+1 from rfl,Instr.checkKey]
  simp only [Sem.run_bind,run_underlying hu,Result.andThen_ok]
  rw [← Array.forIn_toList]
  have A: ∀ f∈fs.toList,(∃ v,(part f.type cs f.offset).run P w= .ok v w)∧ ∃ k,P.underlying f.type=some (.int k):=fun f hf'=>hf (f.type,f.offset) (by rw [← hl]; exact db.2 ⟨f,hf',rfl⟩)
  have B: ∀ f∈fs.toList,f.name≠"_":=fun f hf'=>by
   obtain ⟨i,hi,rfl⟩:=List.getElem_of_mem hf'
   exact hn.1.1 i (by simpa using hi)
  clear hl hn hf
  generalize fs.toList=L at A B
  induction L with
  |nil=>simp
  |cons f L ih=>
   obtain ⟨⟨v,hv⟩,k,hk⟩:=A f sm
   have C:=B f sm
   simp only [List.forIn_cons,Sem.run_bind,C,ne_eq,not_false_eq_true,if_true,Result.andThen_ok,hv,Gs hk,Sem.run_pure]
   exact ih (fun y hy=>A y (by simp [hy])) (fun y hy=>B y (by simp [hy]))
theorem BH {P:Program} {kt:Nat} {K:Type} [DecidableEq K] {kV:K→Value} (hw: ∀ (k:Value) (es:List MapEntry) (w:World),(Instr.findKey kt k es).run P w=(Instr.findAsking kt k es).run P w)
 (heq: ∀ x y w,(Op.equal kt (kV x) (kV y)).run P w= .ok (decide (x=y)) w) (inj: ∀ x y,kV x=kV y→x=y) (x:K) (w:World) (es:List MapEntry) (hk: ∀ e∈es,∃ k,e.key=kV k):
 ((Instr.findKey kt (kV x) es).run P w= .ok none w∧ ∀ e∈es,e.key≠kV x)∨ ∃ j e,(Instr.findKey kt (kV x) es).run P w= .ok (some (j,e.val)) w∧es[j]? =some e∧e.key=kV x:=by
 have key: ∀ (es:List MapEntry) (i:Nat),(∀ e∈es,∃ k,e.key=kV k)→((Instr.findAsking kt (kV x) es i).run P w= .ok none w∧ ∀ e∈es,e.key≠kV x)∨ ∃ j e,(Instr.findAsking kt (kV x) es i).run P w= .ok (some (i+j,e.val)) w∧es[j]? =some e∧e.key=kV x:=by
  intro es
  induction es with
  |nil=>intro i _; exact .inl ⟨by simp [Instr.findAsking],sm⟩
  |cons e es ih=>
   intro i B
   obtain ⟨k,A⟩:=B e sm
   by_cases h:x=k
   ·refine .inr ⟨0,e,?_,U,by rw [A,h]⟩
    subst h
    simp [Instr.findAsking,A,heq]
   ·rcases ih (i+1) (fun y hy=>B y (by simp [hy])) with ⟨C,D⟩|⟨j,e',C,D,E⟩
    ·refine .inl ⟨by simp [Instr.findAsking,A,heq,h,C],fun y hy=>?_⟩
     rcases cm.1 hy with rfl|hy
     ·rw [A]; exact fun q=>h (inj _ _ q).symm
     ·exact D y hy
    ·exact .inr ⟨j+1,e',by simp [Instr.findAsking,A,heq,h,C]; omega,by simpa using D,E⟩
 rw [hw]
 rcases key es 0 hk with h|⟨j,e,C,D,E⟩
 ·exact .inl h
 ·exact .inr ⟨j,e,by simpa using C,D,E⟩
theorem DE {P:Program} {kt:Nat} {l:List (Nat×Nat)} (hl:fL P kt=some l) (k:Value) (es:List MapEntry) (w:World):(Instr.findKey kt k es).run P w=(Instr.findAsking kt k es).run P w:=by
 refine run_findKey_eq w ?_ k es
 unfold fL at hl
 cases hu:P.underlying kt with
 |none=>simp [hu] at hl
 |some d=>cases d<;>simp [hu] at hl ⊢
theorem Ng {P:Program} {kt:Nat} {K:Type} [DecidableEq K] {kV:K→Value} {l:List (Nat×Nat)} (hl:fL P kt=some l) (heq: ∀ x y w,(Op.equal kt (kV x) (kV y)).run P w= .ok (decide (x=y)) w) (inj: ∀ x y,kV x=kV y→x=y)
 (hb: ∀ x,Instr.sameBits 10000 (kV x) (kV x)=true) (hp: ∀ x w,∃ cs,kV x= .agg cs∧ ∀ p∈l,(∃ v,(part p.1 cs p.2).run P w= .ok v w)∧ ∃ k,P.underlying p.1=some (.int k)):vH P kt kV:=
 ⟨fun e x w=>by obtain ⟨cs,A,B⟩:=hp x w; rw [A]; exact Ad hl e 9998 cs w B,fun x w es=>BH (DE hl) heq inj x w es,hb,inj⟩
end
section
open Go.RowKit
set_option linter.unusedSectionVars false
theorem iW {P:Program} {kt:Nat} (hk:P.underlying kt=some (.int .i64)):vH P kt (Value.int .i64):=by
 refine ⟨fun e x w=>Gy hk e,fun x w es A=>?_,fun x=>by simp [Instr.sameBits],fun x y h=>by injection h⟩
 have key: ∀ (es:List MapEntry) (i:Nat),(∀ e∈es,∃ k:Int,e.key= .int .i64 k)→(Instr.findNow (.int .i64) (.int .i64 x) es i=some none∧ ∀ e∈es,e.key≠ .int .i64 x)∨ ∃ j e,Instr.findNow (.int .i64) (.int .i64 x) es i=some (some (i+j,e.val))∧es[j]? =some e∧e.key= .int .i64 x:=by
  intro es
  induction es with
  |nil=>intro i _; exact .inl ⟨rfl,sm⟩
  |cons e es ih=>
   intro i A
   obtain ⟨k,B⟩:=A e sm
   by_cases h:x=k
   ·subst h
    exact .inr ⟨0,e,by simp [Instr.findNow,Instr.sameNow,B],U,B⟩
   ·have hb:(x==k)=false:=by simpa using h
    rcases ih (i+1) (fun y hy=>A y (by simp [hy])) with ⟨C,D⟩|⟨j,e',C,D,E⟩
    ·refine .inl ⟨by simp [Instr.findNow,Instr.sameNow,B,hb,C],fun y hy=>?_⟩
     rcases cm.1 hy with rfl|hy
     ·rw [B]; intro q; injection q with _ q; exact h q.symm
     ·exact D y hy
    ·refine .inr ⟨j+1,e',?_,by simpa using D,E⟩
     simp only [Instr.findNow,Instr.sameNow,B,hb,if_true,C]
     simp; omega
 rcases key es 0 A with ⟨C,D⟩|⟨j,e,C,D,E⟩
 ·exact .inl ⟨MapKept.run_findKey hk C,D⟩
 ·exact .inr ⟨j,e,MapKept.run_findKey hk (by simpa using C),D,E⟩
theorem St.LV {S:BS} {w0 w w':World} {C:List ay} {A N:ay} (h:St S w0 C w) (i:Nat) (hA:C[i]? =some A) (k:dZ no w w') (hN:N.holds w') (hf: ∀ b,N.fO b→w.heap.size≤b∨A.fO b∧ ¬ A.wf b∧ ¬ N.wf b):St S w0 (N::C) w':=by
 have h':=h.same k
 have G:=aP hA
 have hi:=(aZ.1 hA).1
 have B:C[i]=A:=(aZ.1 hA).2
 refine ⟨h'.keeps,fun X hX=>?_,List.Pairwise.cons (fun X hX b hb hb'=>?_) h'.sep,fun X hX b hb=>?_,fun X hX b hb=>?_⟩
 ·rcases cm.1 hX with rfl|hX
  ·exact hN
  ·exact h'.holds X hX
 ·rcases hf b hb with E|⟨E,AA,H⟩
  ·have:=X.lt w (h.holds X hX) b hb'; omega
  ·refine ⟨H,?_⟩
   obtain ⟨j,hj,D⟩:=List.mem_iff_getElem.1 hX
   by_cases e:j=i
   ·subst e; rw [← D,B]; exact AA
   ·rcases Nat.lt_or_gt_of_ne e with F|F
    ·have:=eZ.1 h.sep j i hj hi F b (by rw [D]; exact hb') (by rw [B]; exact E)
     rw [← D]; exact this.1
    ·have:=eZ.1 h.sep i j hi hj F b (by rw [B]; exact E) (by rw [D]; exact hb')
     rw [← D]; exact this.2
 ·rcases cm.1 hX with rfl|hX
  ·rcases hf b (X.k9 b hb) with E|⟨_,_,H⟩
   ·exact .inl (Nat.le_trans h.keeps.size E)
   ·exact absurd hb H
  ·exact h'.own X hX b hb
 ·rcases cm.1 hX with rfl|hX
  ·rcases hf b hb with E|⟨E,_,_⟩
   ·exact .inl (Nat.le_trans h.keeps.size E)
   ·exact h.seen A G b E
  ·exact h'.seen X hX b hb
section
variable {K:Type} [DecidableEq K] {kV:K→Value}
/-- an iterator over a map that is read alone -/
def Dr (kV:K→Value) (r b:Nat) (m left:List (K×Value)) (cur:Option (K×Value)):ay where
 fO k:=k=r∨k=b
 wf k:=k=r
 holds w:=r≠b∧ ∃ (es:Array MapEntry) (c since:Nat) (seen:Array Nat) (st:Nat),w.heap[b]? =some (.map es c)∧jz kV es c m∧w.heap[r]? =some (.mapIter (some b) since seen st)∧(∀ e∈es.toList,e.born<since)∧since≤st∧since≤c∧
  (leftOf es seen).toList.map (fun (e:MapEntry)=>(e.key,e.val))=left.map (fun p=>(kV p.1,p.2))∧
  ∀ p,cur=some p→ ∃ (e:MapEntry) (seen0:Array Nat),e∈es.toList∧seen=seen0.push e.born∧st=c∧e.key=kV p.1∧e.val=p.2
 wr:=false
 k9 _ h:= .inl h
 whole h:=by cases h
 lt w h k hk:=by
  obtain ⟨_,es,c,since,seen,st,h1,_,h2,_⟩:=h
  rcases hk with rfl|rfl
  ·exact eB h2
  ·exact eB h1
 px w w' hk h:=by
  obtain ⟨hne,es,c,since,seen,st,h1,h2,h3,h4⟩:=h
  exact ⟨hne,es,c,since,seen,st,(hk b (.inr rfl)).trans h1,h2,(hk r (.inl rfl)).trans h3,h4⟩
theorem pB {r b:Nat} {m left:List (K×Value)} {cur:Option (K×Value)}:(∀ w,(Dr kV r b m left cur).holds w→(Dr kV r b m left none).holds w)∧(∀ k,(Dr kV r b m left none).fO k→(Dr kV r b m left cur).fO k)∧ ∀ k,(Dr kV r b m left none).wf k→(Dr kV r b m left cur).wf k:=
 ⟨fun w h=>by
  obtain ⟨A,es,c,since,seen,st,B,C,D,E,F,h5',G,_⟩:=h
  exact ⟨A,es,c,since,seen,st,B,C,D,E,F,h5',G,fun p hp=>by cases hp⟩,fun _ h=>h,fun _ h=>h⟩
section
variable {E:fH} {ops:Array Oper} {Q:dv} {rest:List Oper} {D:List Deferred} {L:List (Nat×Value)} {C:List ay}
variable {dst:Option Tmp} {d:Nat} {ty:TypeId} {ps:String} {af:Array Edge} {g:Option (Nat×Bool)}
theorem qu {t kt et:TypeId} {xm:Operand} {b:Nat} {m:List (K×Value)} {A:ay} (i:Nat) (hg:ke ops L g=true) (hm:ev L xm=some (.map (some b))) (ht:E.P.underlying t=some (.map kt et)) (hA:C[i]? =some A) (hAf:A.fO b∧ ¬ A.wf b) (hC:g9 C (kx kV b m).holds) (hd:Nat.blt d E.n=true)
 (k: ∀ r,RJ E ops Q rest D ((d,.pointer (some ⟨r,0,none⟩))::L) (Dr kV r b m m none::C)):RJ E ops Q (⟨some d,.range t xm,ty,ps,af,g⟩::rest) D L C:=by
 intro a w B hs
 have hd':d<E.n:=by rw [← Nat.blt_eq]; exact hd
 unfold tg
 rw [if_pos (eI B hg)]
 obtain ⟨es,c,he,hi⟩:=hs.has hC
 have G:b<w.heap.size:=eB he
 have F:(getObj b).run E.P w= .ok (.map es c) w:=MapKept.run_getObj_map he
 refine jl (v:= .pointer (some ⟨w.heap.size,0,none⟩)) (w':=w.alloc (.mapIter (some b) c #[] c)) sm ?_ ?_
 ·simp [execOp,Instr.range,B.ev hm,run_underlying ht,F,newObj,Sem.run]
 ·refine k _ _ _ (B.put hd' _) (hs.LV i hA (dZ.alloc no w _) ⟨om,es,c,c,#[],c,?_,hi,heap_alloc_new w _,hi.O5,Nat.le_refl _,Nat.le_refl _,?_,fun p hp=>by cases hp⟩ (fun q hq=>?_))
  ·rw [Below.heap_alloc w _ b G]; exact he
  ·have:leftOf es #[]=es:=by unfold leftOf; exact Array.filter_eq_self.2 sm
   rw [this]; exact hi.list
  ·rcases hq with rfl|rfl
   ·exact .inl (Nat.le_refl _)
   ·refine .inr ⟨hAf.1,hAf.2,fun (e:q=w.heap.size)=>by omega⟩
theorem GO (hinj: ∀ x y,kV x=kV y→x=y) {xi:Operand} {r b:Nat} {m left:List (K×Value)} {cur:Option (K×Value)} (i:Nat) (hg:ke ops L g=true) (hm:ev L xi=some (.pointer (some ⟨r,0,none⟩))) (hC:C[i]? =some (Dr kV r b m left cur)) (hd:Nat.blt d E.n=true)
 (k0:left=[]→RJ E ops Q rest D ((d,.tuple [.bool false].toArray)::L) C)
 (k1: ∀ x v,(x,v)∈left→(left.map (·.1)).Nodup→RJ E ops Q rest D ((d,.tuple [.bool true,kV x,v].toArray)::L) (C.set i (Dr kV r b m (fz left x) (some (x,v))))):
 RJ E ops Q (⟨some d,.next xi false,ty,ps,af,g⟩::rest) D L C:=by
 intro a w G hs
 have hd':d<E.n:=by rw [← Nat.blt_eq]; exact hd
 unfold tg
 rw [if_pos (eI G hg)]
 obtain ⟨R,es,c,since,seen,st,X,hi,Y,J,V,M,A,_⟩:=hs.holds _ (aP hC)
 rcases run_next_at (P:=E.P) w ty r b since st seen es c Y X J V with ⟨Z,hr⟩|⟨e,he,N,H,hr⟩
 ·refine jl (v:= .tuple #[.bool false]) (w':=w) sm ?_ ?_
  ·simp [execOp,G.ev hm,hr]
  ·refine k0 ?_ _ _ (G.put hd' _) hs
   have:(leftOf es seen).toList=[]:=by rw [← List.length_eq_zero_iff,Array.length_toList]; exact Z
   rw [this] at A
   exact List.map_eq_nil_iff.1 A.symm
 ·have O:(e.key,e.val)∈left.map (fun p=>(kV p.1,p.2)):=by rw [← A]; exact db.2 ⟨e,he,rfl⟩
  obtain ⟨p,hp,S⟩:=db.1 O
  obtain ⟨x,v⟩:=p
  simp only [Prod.mk.injEq] at S
  obtain ⟨hk,hv⟩:=S
  refine jl (v:= .tuple #[.bool true,e.key,e.val]) (w':=ChangeMaps.setBlock N r (.mapIter (some b) since (seen.push e.born) c)) sm ?_ ?_
  ·simp [execOp,G.ev hm,hr]
  ·rw [← hk,← hv]
   have AA:=xb hinj hi A
   have F:e∈es.toList:=by unfold leftOf at he; rw [Array.toList_filter] at he; exact (List.mem_filter.1 he).1
   have f:c=c:=rfl
   have B:N.heap=w.heap:=by rcases H with rfl|rfl<;>rfl
   refine k1 x v hp AA _ _ (G.put hd' _) (hs.mv i hC ⟨⟨R,es,c,since,seen.push e.born,c,?_,hi,?_,J,M,M,?_,fun q hq=>?_⟩,?_,fun q hq=> .inl hq,fun q hq=> .inl hq⟩)
   ·show (N.heap.setIfInBounds r _)[b]? =_
    rw [Array.getElem?_setIfInBounds_ne R,B]; exact X
   ·show (N.heap.setIfInBounds r _)[r]? =_
    rw [Array.getElem?_setIfInBounds_self_of_lt (by rw [B]; exact eB Y)]
   ·have T:leftOf es (seen.push e.born)=(leftOf es seen).filter (fun z=> !(z.born==e.born)):=by
     unfold leftOf
     rw [Array.filter_filter]
     congr 1
     funext z
     simp only [Array.contains_push,Bool.not_or]
     rw [Bool.and_comm]
    rw [T,Array.toList_filter]
    have key: ∀ (l:List MapEntry) (ll:List (K×Value)),(∀ z∈l,z∈es.toList)→l.map (fun (e:MapEntry)=>(e.key,e.val))=ll.map (fun p=>(kV p.1,p.2))→
     (l.filter (fun z=> !(z.born==e.born))).map (fun (e:MapEntry)=>(e.key,e.val))=(fz ll x).map (fun p=>(kV p.1,p.2)):=by
     intro l
     induction l with
     |nil=>intro ll _ h; cases ll with
      |nil=>rfl
      |cons p ll=>simp at h
     |cons z l ih=>
      intro ll hz h
      cases ll with
      |nil=>simp at h
      |cons p ll=>
       simp only [List.map_cons,List.cons.injEq,Prod.mk.injEq] at h
       have ih':=ih ll (fun y hy=>hz y (by simp [hy])) h.2
       have AB:(z.born=e.born)↔(p.1=x):=by
        constructor
        ·intro hb
         have:z=e:=Dl hi.born (hz z sm) F hb
         rw [this] at h
         have:=h.1.1.symm.trans hk.symm
         exact hinj _ _ this
        ·intro hx
         have W:z.key=e.key:=by rw [h.1.1,hx,hk]
         rw [Dh hinj hi (hz z sm) F W]
       unfold fz at ih' ⊢
       by_cases hx:p.1=x
       ·rw [List.filter_cons_of_neg (by simp [AB.2 hx]),List.filter_cons_of_neg (by simp [hx])]; exact ih'
       ·rw [List.filter_cons_of_pos (by simpa using fun hb=>hx (AB.1 hb)),List.filter_cons_of_pos (by simpa using hx)]
        simp only [List.map_cons,h.1.1,h.1.2,ih']
    exact key _ _ (fun z hz=>by unfold leftOf at hz; rw [Array.toList_filter] at hz; exact (List.mem_filter.1 hz).1) A
   ·cases hq
    exact ⟨e,seen,F,U,U,hk.symm,hv.symm⟩
   ·refine ⟨?_,?_,?_,?_,fun q hq hn=>?_⟩
    ·rcases H with rfl|rfl<;>rfl
    ·rcases H with rfl|rfl<;>rfl
    ·rcases H with rfl|rfl<;>rfl
    ·show w.heap.size≤(N.heap.setIfInBounds r _).size
     simp [B]
    ·show (N.heap.setIfInBounds r _)[q]? =_
     rw [Array.getElem?_setIfInBounds_ne (fun e=>hn e.symm),B]
theorem oT {xi:Operand} {r b:Nat} {m left:List (K×Value)} {x:K} {v:Value} (i:Nat) (hg:ke ops L g=true) (hm:ev L xi=some (.pointer (some ⟨r,0,none⟩))) (hC:C[i]? =some (Dr kV r b m left (some (x,v)))):
 SD E ops ⟨dst,.entry xi,ty,ps,af,g⟩ D L C (.tuple [kV x,v].toArray):=
 eM hg sm fun a w F hs=>by
  obtain ⟨N,es,c,since,seen,st,J,hi,M,H,O,AA,G,B⟩:=hs.holds _ (aP hC)
  obtain ⟨e,A,he,rfl,rfl,hk,hv⟩:=B _ rfl
  have:=run_entry_at (P:=E.P) w r b since A es st e M J he hi.born
  simp [execOp,F.ev hm,this,hk,hv]
theorem oL (hinj: ∀ x y,kV x=kV y→x=y) {β:Type} {f:β→Value} {xi:Operand} {r b:Nat} {m:List (K×Value)} {ll:List (K×β)} {cur:Option (K×Value)} (i:Nat) (hg:ke ops L g=true) (hm:ev L xi=some (.pointer (some ⟨r,0,none⟩))) (hC:C[i]? =some (Dr kV r b m (cT f ll) cur)) (hd:Nat.blt d E.n=true)
 (k0:ll=[]→RJ E ops Q rest D ((d,.tuple [.bool false].toArray)::L) C)
 (k1: ∀ x y,(x,y)∈ll→(ll.map (·.1)).Nodup→RJ E ops Q rest D ((d,.tuple [.bool true,kV x,f y].toArray)::L) (C.set i (Dr kV r b m (cT f (fz ll x)) (some (x,f y))))):
 RJ E ops Q (⟨some d,.next xi false,ty,ps,af,g⟩::rest) D L C:=by
 refine GO hinj i hg hm hC hd (fun h=>k0 (List.map_eq_nil_iff.1 h)) (fun x v B hn=>?_)
 obtain ⟨p,hp,A⟩:=db.1 B
 simp only [Prod.mk.injEq] at A
 obtain ⟨rfl,rfl⟩:=A
 have:=k1 p.1 p.2 hp (by simpa [cT,Function.comp_def] using hn)
 rwa [nS] at this
theorem zQ {t kt et:TypeId} {xm xk xv:Operand} {b:Nat} {x:K} {v:Value} {m m':List (K×Value)} {C':List ay} (i:Nat) (hg:ke ops L g=true) (hm:ev L xm=some (.map (some b))) (hk:ev L xk=some (kV x)) (hv:ev L xv=some v)
 (ht:E.P.underlying t=some (.map kt et)) (hkt:vH E.P kt kV) (hC:C[i]? =some (kx kV b m)) (hm':eC m x v=m') (hC':C.set i (kx kV b m')=C') (k:RJ E ops Q rest D L C'):
 RJ E ops Q (⟨none,.insert t xm xk xv,ty,ps,af,g⟩::rest) D L C:=by
 subst hm' hC'
 intro a w A hs
 unfold tg
 rw [if_pos (eI A hg)]
 obtain ⟨es,c,he,hi⟩:=hs.holds _ (aP hC)
 have B:(getObj b).run E.P w= .ok (.map es c) w:=MapKept.run_getObj_map he
 rcases pd (P:=E.P) (w:=w) (x:=x) hkt hi with ⟨AA,F⟩|⟨j,N,AA,F,J⟩
 ·refine sN (w':={w with heap:=w.heap.setIfInBounds b (.map (es.push {key:=kV x,val:=v,born:=c}) (c+1))}) sm ?_ ?_
  ·simp [execOp,A.ev hm,A.ev hk,A.ev hv,Instr.mapUpdate,run_underlying ht,B,jq hkt,AA,MapKept.run_setObj_map _ he]
  ·refine k _ _ ⟨A.defers,A.size,A.at_⟩ (hs.Ag (b:=b) i hC U U (nO _) (fun _ h=>h) ⟨_,_,pT he,?_⟩)
   have:eC m x v=m++[(x,v)]:=by unfold eC; rw [F]; rfl
   rw [this]; exact hi.push F v
 ·have M:=hi.size
  have G:j<es.size:=by have:=(aZ.1 F).1; omega
  have H:(es[j]).key=kV x:=by
   have:=congrArg (fun l=>l[j]?) hi.list
   simp [G,F] at this
   exact this.1
  refine sN (w':={w with heap:=w.heap.setIfInBounds b (.map (es.modify j fun e=>{e with key:=kV x,val:=v}) c)}) sm ?_ ?_
  ·simp [execOp,A.ev hm,A.ev hk,A.ev hv,Instr.mapUpdate,run_underlying ht,B,jq hkt,AA,MapKept.run_setObj_map _ he,Instr.keyThatStays,G,H,hkt.bits x]
  ·exact k _ _ ⟨A.defers,A.size,A.at_⟩ (hs.Ag (b:=b) i hC U U (nO _) (fun _ h=>h) ⟨_,_,pT he,hi.set F J v⟩)
end
end
end
section
open Go.RowKit
def Va {σ:Type} (w0:World) (P:Program) (l:Nat) (step:σ→List Value→σ→Prop) (J:σ→ay→Prop) (Z:ay→Prop):Prop:=
 ∀ k x k' A w,step k x k'→J k A→w0.heap.size≤w.heap.size→A.holds w→YieldAt (Fw none) 0 P l x.toArray w fun e w'=>
  (e= .returned (.bool true)∧ ∃ B,J k' B∧Mv A B w w')∨(e= .returned (.bool false)∧ ∃ B,Z B∧Mv A B w w')
def Bl {σ:Type} (J:σ→ay→Prop) (Z:ay→Prop) (fin:σ→Prop) (A0:ay) (w0:World) (e:Ending) (w':World):Prop:=
 ∃ v,e= .returned v∧((∃ s B,fin s∧J s B∧Mv A0 B w0 w')∨ ∃ B,Z B∧Mv A0 B w0 w')
structure MJ {σ:Type} (P:Program) (f:FuncId) (fi ca:List Value) (Cp:List ay) (s0:σ) (step:σ→List Value→σ→Prop) (fin:σ→Prop):Prop where
 go:sP P f=true
 run: ∀ (l:Nat) (J:σ→ay→Prop) (Z:ay→Prop) (A0:ay) (w:World),Va w P l step J Z→J s0 A0→A0.holds w→(∀ A∈Cp,A.holds w)→(∀ A∈Cp,Dm A0 A.ro)→
  Calls P f (fi++Value.func (.yield l) #[] #[]::ca).toArray w (Bl J Z fin A0 w)
theorem Qx {σ:Type} {J:σ→ay→Prop} {Z:ay→Prop} {n:σ} {fin:σ→Prop} {A0 B:ay} {w0 w:World} {C:List ay} {v:Value} (i:Nat) (hC:C[i]? =some B) (hfin:fin n) (hJ:J n B) (hF:Fo A0 w0 B) (hs:St ⟨A0.wf,fun _=>True⟩ w0 C w):Bl J Z fin A0 w0 (.returned v) w:=
 ⟨v,rfl,.inl ⟨n,B,hfin,hJ,hs.holds B (aP hC),hs.keeps,fun b hb=>(hs.own B (aP hC) b hb).symm,hF⟩⟩
theorem FB {σ:Type} {J:σ→ay→Prop} {Z:ay→Prop} {fin:σ→Prop} {A0 B:ay} {w0 w:World} {C:List ay} {v:Value} (i:Nat) (hC:C[i]? =some B) (hJ:Z B) (hF:Fo A0 w0 B) (hs:St ⟨A0.wf,fun _=>True⟩ w0 C w):Bl J Z fin A0 w0 (.returned v) w:=
 ⟨v,rfl,.inr ⟨B,hJ,hs.holds B (aP hC),hs.keeps,fun b hb=>(hs.own B (aP hC) b hb).symm,hF⟩⟩
theorem E6 {σ:Type} {P:Program} {f:FuncId} {fn:Func} {c:Code} {fi ca:List Value} {Cp:List ay} {s0:σ} {step:σ→List Value→σ→Prop} {fin:σ→Prop} (hgo:sP P f=true) (hf:P.funcs[f]? =some fn) (hb:fn.body=some c) (hn:Nat.ble (fi.length+ca.length+1) fn.ntmps=true)
 (h: ∀ (l:Nat) (J:σ→ay→Prop) (Z:ay→Prop) (A0:ay) (w0:World) (Q:dv),Va w0 P l step J Z→J s0 A0→Fo A0 w0 A0→
  (∀ D L C,LJ ⟨P,none,fn.ntmps,⟨A0.wf,fun _=>True⟩,w0⟩ fn (Bl J Z fin A0 w0) D L C→KJ ⟨P,none,fn.ntmps,⟨A0.wf,fun _=>True⟩,w0⟩ (Q .ret) D L C)→
  (∀ D L C,LJ ⟨P,none,fn.ntmps,⟨A0.wf,fun _=>True⟩,w0⟩ fn (Bl J Z fin A0 w0) D L C→KJ ⟨P,none,fn.ntmps,⟨A0.wf,fun _=>True⟩,w0⟩ (Q .normal) D L C)→
  WJ ⟨P,none,fn.ntmps,⟨A0.wf,fun _=>True⟩,w0⟩ c Q [] (NZ (fi++Value.func (.yield l) #[] #[]::ca)) (A0::Cp.map ay.ro)):MJ P f fi ca Cp s0 step fin:=by
 refine ⟨hgo,fun l J Z A0 w hY hJ hA F E=>?_⟩
 refine Aa hf hb (by simpa [Nat.add_assoc] using hn) (h l J Z A0 w · hY hJ (fun b hb=> .inl hb)) ?_
 have G:=rj F
 refine ⟨dZ.refl _ _,fun A hA'=>?_,List.Pairwise.cons (fun B hB=>?_) G.sep,fun A hA' b hb=>?_,fun _ _ _ _=> .inr trivial⟩
 ·rcases cm.1 hA' with rfl|hA'
  ·exact hA
  ·exact G.holds A hA'
 ·obtain ⟨B',hB',rfl⟩:=db.1 hB
  exact E B' hB'
 ·rcases cm.1 hA' with rfl|hA'
  ·exact .inr hb
  ·obtain ⟨B',hB',rfl⟩:=db.1 hA'
   exact hb.elim
section
variable {E:fH} {ops:Array Oper} {Q:dv} {rest:List Oper} {D:List Deferred} {L:List (Nat×Value)} {C:List ay}
variable {d:Nat} {ty:TypeId} {ps:String} {af:Array Edge} {g:Option (Nat×Bool)}
/-- a call of yield -/
theorem x7 {σ:Type} {fop:Operand} {xs:Array Operand} {ts:Array TypeId} {l:Nat} {k k':σ} {vs:List Value} {step:σ→List Value→σ→Prop} {J:σ→ay→Prop} {Z:ay→Prop} {A0 A:ay} {w1:World} (i:Nat) (hw1:w1.heap.size≤E.w0.heap.size) (hY:Va w1 E.P l step J Z) (hJ:J k A) (hF:Fo A0 w1 A) (hg:ke ops L g=true) (hf:ev L fop=some (.func (.yield l) #[] #[]))
 (hx:evs L xs.toList=some vs) (hk:step k vs k') (hC:C[i]? =some A) (hd:Nat.blt d E.n=true)
 (k1: ∀ B,J k' B→Fo A0 w1 B→RJ E ops Q rest D ((d,.bool true)::L) (C.set i B))
 (k2: ∀ B,Z B→Fo A0 w1 B→RJ E ops Q rest D ((d,.bool false)::L) (C.set i B)):
 RJ E ops Q (⟨some d,.call {callee:= .value fop,args:=xs,argTypes:=ts},ty,ps,af,g⟩::rest) D L C:=by
 intro a w F hs
 have hd':d<E.n:=by rw [← Nat.blt_eq]; exact hd
 unfold tg
 rw [if_pos (eI F hg)]
 have K:xs.map a.eval=vs.toArray:=by
  have:=F.evs hx
  apply Array.ext'
  simp [this]
 obtain ⟨fn,tmps,assign,body,hy,hr⟩:=hY k vs k' A w hk hJ (Nat.le_trans hw1 hs.keeps.size) (hs.holds A (aP hC))
 have H:(execOp a.eval ⟨some d,.call {callee:= .value fop,args:=xs,argTypes:=ts},ty,ps,af,g⟩).run E.P w= .ok (.round l fn tmps assign body) w:=by
  simp [execOp,resolve,F.ev hf,Deferred.ofValue,invoke,K,hy]
 refine ⟨fun _ _=>trivial,?_⟩
 rw [Oper.semAt_eq _ _ _ sm,H]
 refine ⟨fun h=>by simp at h,?_⟩
 have G: ∀ (B:ay) (w':World),Mv A B w w'→Fo A0 w1 B:=fun B w' m b hb=>by
  rcases m.fO b hb with AA|AA
  ·exact hF b AA
  ·exact .inr (Nat.le_trans hw1 (Nat.le_trans hs.keeps.size AA))
 have hr':RoundIn (Fw E.r) 0 E.P l fn tmps assign body w _:=hr
 refine hr'.mono fun e w' he=>?_
 rcases he with ⟨rfl,B,hB,m⟩|⟨rfl,B,hB,m⟩
 ·exact k1 B hB (G B w' m) _ _ (F.put hd' _) (hs.mv i hC m)
 ·exact k2 B hB (G B w' m) _ _ (F.put hd' _) (hs.mv i hC m)
end
theorem tY {σ:Type} {E:fH} {Q:dv} {D:iw} {L L0:dF} {C F:List ay} {g:Operand} {ps:Array Tmp} {assign body:Code} {f:FuncId} {fi ca:List Value} {Cp:List ay} {s0:σ} {step:σ→List Value→σ→Prop} {fin_:σ→Prop} {ι κ:Type}
 (inv:σ→ι→Prop) (Ci:σ→ι→List ay) (invx:Code→κ→Prop) (Cx:Code→κ→List ay) (isJ isF:List Nat) (y0:ι)
 (hr:E.r=none) (hg:ev L g=some (.func (.func f) fi.toArray ca.toArray)) (hs:MJ E.P f fi ca Cp s0 step fin_)
 (hnd:decide (isJ++isF).Nodup=true) (hJ:kS C isJ=Ci s0 y0) (hF:kS C isF=F) (h0:inv s0 y0) (hCp: ∀ A∈Cp,∃ B∈F,Kq B A)
 (hps: ∀ k x k',step k x k'→x.length=ps.size) (hpn:ps.toList.all (fun t=>Nat.blt t E.n)=true) (hL:cR L L0)
 (round: ∀ (k:σ) (x:List Value) (k':σ) (y:ι) (l:Nat) (ra rb:Loop) (S:BS) (w0:World) (K:Act→World→Prop) (Qr:dv),E.w0.heap.size≤w0.heap.size→step k x k'→inv k y→
  (∀ L' C',WJ ⟨E.P,some l,E.n,S,w0⟩ body Qr [] L' (ju l (.loop rb)::C')→KJ ⟨E.P,some l,E.n,S,w0⟩ K [] L' (ju l (.loop ra)::C'))→
  (∀ y' L' C',inv k' y'→(∀ w,St S w0 C' w→St S w0 (ju l (.loop rb)::Ci k' y') w)→KJ ⟨E.P,some l,E.n,S,w0⟩ (Qr .normal) [] L' C')→
  (∀ id z L' C',invx (.exit id) z→(∀ w,St S w0 C' w→St S w0 (ju l (.loop rb)::Cx (.exit id) z) w)→KJ ⟨E.P,some l,E.n,S,w0⟩ (Qr (.exit id)) [] L' C')→
  (∀ z L' C',invx .ret z→(∀ w,St S w0 C' w→St S w0 (ju l (.loop rb)::Cx .ret z) w)→KJ ⟨E.P,some l,E.n,S,w0⟩ (Qr .ret) [] L' C')→
  WJ ⟨E.P,some l,E.n,S,w0⟩ assign (Exit.then K (fun _ _ _=>False)) [] (yW ps.toList x L0) (ju l (.loop ra)::Ci k y))
 (fin: ∀ r s y,fin_ s→inv s y→KJ E (Q .normal) (jY r::D) L0 (ju r (.deferred (some []))::(F++Ci s y)))
 (finx: ∀ r id z,invx (.exit id) z→KJ E (Q (.exit id)) (jY r::D) L0 (ju r (.deferred (some []))::(F++Cx (.exit id) z)))
 (finr: ∀ r z,invx .ret z→KJ E (Q .ret) (jY r::D) L0 (ju r (.deferred (some []))::(F++Cx .ret z))):WJ E (.rangeFunc g ps assign body) Q D L C:=by
 intro a w hf q
 refine wpIn_rangeFunc fun fn _=>?_
 show ∃ l jY w₁ d w₁' f args w₂,(Instr.enterLoop fn a.tmps ps assign body E.r).run E.P w= .ok (l,jY) w₁∧_
 rw [hr]
 obtain ⟨rec,G⟩: ∃ rec:LoopState→Option Code→Loop,rec=fun st pe=>{state:=st,pending:=pe,fn,tmps:=a.tmps,params:=ps,assign,body,defers:=w.heap.size}:=⟨_,rfl⟩
 obtain ⟨W1,R⟩: ∃ W1,(w.alloc (.deferred (some []))).alloc (.loop (rec .ready none))=W1:=⟨_,rfl⟩
 have A0:a.eval g= .func (.func f) fi.toArray ca.toArray:=hf.ev hg
 have p:(Instr.enterLoop fn a.tmps ps assign body none).run E.P w= .ok (w.heap.size+1,[jY w.heap.size]) W1:=by
  rw [← R,G]; exact run_enterLoop_outer _ _ _ _ _
 -- the state with the record and the block
 have u:St E.S E.w0 ((ju (w.heap.size+1) (.loop (rec .ready none))::Ci s0 y0)++(ju w.heap.size (.deferred (some []))::F)) W1:=by
  have X:St E.S E.w0 (Ci s0 y0++F) w:=St.kS (isJ++isF) hnd (by have X:=hJ; have j:=hF; unfold Go.Proofs.YtkaenmjhfajbkaaGreatDoor.kS at X j ⊢; rw [List.filterMap_append,X,j]) q
  have hn:LD w W1 [ju (w.heap.size+1) (.loop (rec .ready none)),ju w.heap.size (.deferred (some []))]:=by
   refine ⟨fun A hA=>?_,fun A hA b hb=>?_,?_⟩
   ·rcases cm.1 hA with rfl|hA
    ·show W1.heap[w.heap.size+1]? =_
     rw [← R]; have:=World.alloc_heap_new (w.alloc (.deferred (some []))) (.loop (rec .ready none)); rwa [World.size_alloc] at this
    ·simp only [cH] at hA; subst hA
     show W1.heap[w.heap.size]? =_
     rw [← R]; exact (Below.heap_alloc _ _ _ sm).trans (World.alloc_heap_new w _)
   ·rcases cm.1 hA with rfl|hA
    ·have:b=w.heap.size+1:=hb
     omega
    ·simp only [cH] at hA; subst hA
     have:b=w.heap.size:=hb
     omega
   ·refine List.Pairwise.cons (fun B hB b X j=>?_) (List.pairwise_singleton _ _)
    simp only [cH] at hB; subst hB
    have V:b=w.heap.size+1:=X
    have O:b=w.heap.size:=j
    omega
  have hk:dZ no w W1:=by rw [← R]; exact (dZ.alloc no w _).trans (dZ.alloc no _ _)
  have j:=X.grow hk hn
  refine j.perm ?_
  simp only [List.cons_append,List.nil_append]
  exact List.Perm.cons _ (List.perm_middle.symm)
 have Y:=u.tied
 obtain ⟨H,A5⟩:=List.pairwise_cons.1 Y.sep
 have AU:=Y.holds _ (cr ..)
 let J:σ→ay→Prop:=fun k A=> ∃ y,inv k y∧A=bQ (ju (w.heap.size+1) (.loop (rec .ready none))::Ci k y)
 let Z:ay→Prop:=fun A=> ∃ c z,(c= .ret∨ ∃ id,c= .exit id)∧invx c z∧A=bQ (ju (w.heap.size+1) (.loop (rec .done (some c)))::Cx c z)
 refine ⟨w.heap.size+1,[jY w.heap.size],W1,{target:= .fn (.func f) ca.toArray,args:=fi.toArray++ #[.func (.yield (w.heap.size+1)) #[] #[]]},W1,f,
  (fi++Value.func (.yield (w.heap.size+1)) #[] #[]::ca).toArray,W1,p,?_,fun _ _=>trivial,?_,fun h=>by simp at h,?_⟩
 ·simp only [resolve,A0]
  simp [Deferred.ofValue,Act.eval]
 ·have:fi.toArray++ #[Value.func (.yield (w.heap.size+1)) #[] #[]]++ca.toArray=(fi++Value.func (.yield (w.heap.size+1)) #[] #[]::ca).toArray:=by simp
  simp [invoke,nA hs.go]
 ·refine (pN E.r (hs.run (w.heap.size+1) J Z _ W1 ?_ ⟨y0,h0,U⟩ AU ?_ ?_)).mono ?_
  ·-- a round
   rintro k x k' A W hx ⟨y,hy,rfl⟩ Ax hA
   have hl:W.heap[w.heap.size+1]? =some (.loop (rec .ready none)):=hA.1 _ (cr ..)
   have AC:=run_yield (P:=E.P) (args:=x.toArray) hl (by rw [G]; simpa using hps k x k' hx)
   rw [G] at AC
   refine ⟨fn,_,assign,body,AC,roundIn_of_wpIn trivial ?_⟩
   let A:ay:=bQ (ju (w.heap.size+1) (.loop (rec .ready none))::Ci k y)
   have A1:Fr E.n [] (yW ps.toList x L0) {tmps:=(ps.zip x.toArray).foldl (fun tmps (t,a)=>tmps.setIfInBounds t a) a.tmps,defers:=[]}:=by
    have X:=Dz ps.toList x L0 a.tmps (fun t ht=>by have:=c_.1 hpn t ht; rwa [Nat.blt_eq] at this) ⟨rfl,hf.size,fun t v hv=>hf.at_ t v (hL t v hv)⟩
    rw [← Array.foldl_toList]
    simpa using X
   have o: ∀ (c:Option Code) (b:Bool),({rec .busy none with state:=if b then .ready else .done,pending:=c}:Loop)=rec (if b then .ready else .done) c:=fun c b=>by rw [G]
   have T: ∀ (c:Option Code) (N:World) (C':List ay) (S:BS),St S W (ju (w.heap.size+1) (.loop (rec .busy none))::C') N→
    ∃ M,(Instr.endRound (w.heap.size+1) c).run E.P N= .ok (.bool c.isNone) M∧St S W (ju (w.heap.size+1) (.loop (rec (if c.isNone then .ready else .done) c))::C') M:=fun c N C' S H=>by
    have AB:N.heap[w.heap.size+1]? =some (.loop (rec .busy none)):=H.holds _ (cr ..)
    refine ⟨_,run_endRound c AB,?_⟩
    have:=H.Ag (b:=w.heap.size+1) (A':=ju (w.heap.size+1) (.loop (rec (if c.isNone then .ready else .done) c))) 0 rfl rfl rfl (ik _) (fun _ h=>h) (World.putObj_heap_same (eB AB))
    rw [o]
    exact this
   refine round k x k' y (w.heap.size+1) (rec .ready none) (rec .busy none) ⟨A.wf,A.fO⟩ W _ (roundPost E.P (w.heap.size+1) (fun e w'=>(e= .returned (.bool true)∧ ∃ B,J k' B∧Mv A B W w')∨(e= .returned (.bool false)∧ ∃ B,Z B∧Mv A B W w'))) (Nat.le_trans (Nat.le_trans q.keeps.size (by rw [← R]; simp; omega)) Ax) hx hy ?_ ?_ ?_ ?_ _ _ A1 (St.Ba hA)
   ·intro L' C' hW a1 N i H
    have AB:N.heap[w.heap.size+1]? =some (.loop (rec .ready none)):=H.holds _ (cr ..)
    refine ⟨_,run_beginRound AB (by rw [G]),hW _ _ i ?_⟩
    have:=H.Ag (b:=w.heap.size+1) (A':=ju (w.heap.size+1) (.loop (rec .busy none))) 0 rfl rfl rfl (ik _) (fun _ h=>h) (World.putObj_heap_same (eB AB))
    have e:({rec .ready none with state:= .busy}:Loop)=rec .busy none:=by rw [G]
    rw [e]; exact this
   ·intro y' L' C' hy' hC' a1 N i H
    obtain ⟨M,V,O⟩:=T none N _ _ (hC' _ H)
    exact ⟨_,M,V,.inl ⟨U,_,⟨y',hy',U⟩,Mv.of O⟩⟩
   ·intro id z L' C' hz hC' a1 N i H
    obtain ⟨M,V,O⟩:=T (some (.exit id)) N _ _ (hC' _ H)
    exact ⟨_,M,V,.inr ⟨U,_,⟨_,z,.inr ⟨id,U⟩,hz,U⟩,Mv.of O⟩⟩
   ·intro z L' C' hz hC' a1 N i H
    obtain ⟨M,V,O⟩:=T (some .ret) N _ _ (hC' _ H)
    exact ⟨_,M,V,.inr ⟨U,_,⟨_,z,.inl U,hz,U⟩,Mv.of O⟩⟩
  ·intro A hA
   obtain ⟨B,hB,hc⟩:=hCp A hA
   exact hc.holds _ (Y.holds B (dH _ (dH _ hB)))
  ·intro A hA b hb hb'
   obtain ⟨B,hB,hc⟩:=hCp A hA
   exact ⟨(H B (dH _ hB) b hb (hc.fO b hb')).1,fun h=>h⟩
  ·rintro e w' ⟨v,rfl,hh⟩
   have AA:Fr E.n (jY w.heap.size::D) L0 {a with defers:=[jY w.heap.size]++a.defers}:=⟨by simp [hf.defers],hf.size,fun t v hv=>hf.at_ t v (hL t v hv)⟩
   have hleave: ∀ (st:LoopState) (c:Option Code) (C':List ay),st≠ .busy→Mv (bQ (ju (w.heap.size+1) (.loop (rec .ready none))::Ci s0 y0)) (bQ (ju (w.heap.size+1) (.loop (rec st c))::C')) W1 w'→
    ∃ M,(Instr.endLoop (w.heap.size+1)).run E.P w'= .ok c M∧St E.S E.w0 (ju w.heap.size (.deferred (some []))::(F++C')) M:=fun st c C' A3 m=>by
    have X:=(Y.mv 0 rfl m).iN
    have h1':St E.S E.w0 ((ju (w.heap.size+1) (.loop (rec st c))::C')++(ju w.heap.size (.deferred (some []))::F)) w':=X
    have AB:w'.heap[w.heap.size+1]? =some (.loop (rec st c)):=h1'.holds (ju (w.heap.size+1) (.loop (rec st c))) sm
    refine ⟨_,by have:=run_endLoop (P:=E.P) AB (by rw [G]; exact A3); rw [this,G],?_⟩
    have j:=h1'.Ag (b:=w.heap.size+1) (A':=ju (w.heap.size+1) (.loop {rec st c with state:= .exhausted})) 0 rfl rfl rfl (ik _) (fun _ h=>h) (World.putObj_heap_same (eB AB))
    have h3:St E.S E.w0 (C'++(ju w.heap.size (.deferred (some []))::F)) _:=j.take (List.sublist_cons_self _ _)
    rw [G] at h3
    refine h3.perm ?_
    exact (List.perm_append_comm).trans sm
   rcases hh with ⟨s,B,A2,⟨y,hy,rfl⟩,m⟩|⟨B,⟨c,z,hc,hz,rfl⟩,m⟩
   ·obtain ⟨M,V,O⟩:=hleave .ready none _ sm m
    exact ⟨none,M,V,fin w.heap.size s y A2 hy _ _ AA O⟩
   ·obtain ⟨M,V,O⟩:=hleave .done (some c) _ sm m
    refine ⟨some c,M,V,?_⟩
    rcases hc with rfl|⟨id,rfl⟩
    ·exact wpIn_ret (finr w.heap.size z hz _ _ AA O)
    ·exact wpIn_exit (finx w.heap.size id z hz _ _ AA O)
end
section
open Go.RowKit
/-- where a row lies, and its capacity -/
abbrev RA:=OA×Nat
/-- what is asked of memory by all elements -/
def bK {M A:Type} (f:M→A→List ay):List M→List A→List ay
 |m::ms,a::asl=>f m a++bK f ms asl
 |_,_=>[]
theorem bB {M A:Type} {f:M→A→List ay}: ∀ {ms:List M} {asl:List A} {k:Nat} {m:M} {a:A} {X:ay},ms[k]? =some m→asl[k]? =some a→X∈f m a→X∈bK f ms asl
 |[],_,k,m,a,X,h,_,_=>by simp at h
 |_::_,[],k,m,a,X,_,h,_=>by simp at h
 |x::ms,y::asl,0,m,a,X,h,h2,hX=>by
  simp at h h2; subst h h2
  exact List.mem_append_left _ hX
 |x::ms,y::asl,k+1,m,a,X,h,h2,hX=>List.mem_append_right _ (bB (ms:=ms) (asl:=asl) (k:=k) (by simpa using h) (by simpa using h2) hX)
theorem ku {M A:Type} {f:M→A→List ay}: ∀ {ms:List M} {asl:List A} {X:ay},X∈bK f ms asl→ ∃ (k:Nat) (m:M) (a:A),ms[k]? =some m∧asl[k]? =some a∧X∈f m a
 |[],_,X,h=>by cases h
 |_::_,[],X,h=>by cases h
 |x::ms,y::asl,X,h=>by
  rcases gQ.1 h with h|h
  ·exact ⟨0,x,y,U,U,h⟩
  ·obtain ⟨k,m,a,B,C,D⟩:=ku h
   exact ⟨k+1,m,a,by simpa using B,by simpa using C,D⟩
theorem jJ {M A:Type} {f:M→A→List ay}: ∀ {ms:List M} {asl:List A} {ns:List M} {bs:List A},ms.length=asl.length→bK f (ms++ns) (asl++bs)=bK f ms asl++bK f ns bs
 |[],[],ns,bs,_=>rfl
 |[],_::_,ns,bs,h=>by simp at h
 |_::_,[],ns,bs,h=>by simp at h
 |x::ms,y::asl,ns,bs,h=>by
  simp only [List.cons_append,bK,List.append_assoc]
  rw [jJ (by simpa using h)]
theorem cG {M A β:Type} {f:M→A→β} {ms:List M} {asl:List A} {k:Nat} {m:M} {a:A} (h:ms[k]? =some m) (h2:asl[k]? =some a):(List.zipWith f ms asl)[k]? =some (f m a):=by
 rw [List.getElem?_zipWith,h,h2]
theorem cd {C L:List ay} {A:ay} (i:Nat) (hC:C[i]? =some (iH L).ro) (hm:A∈L):g9 C A.holds:=fun w hw=>hw _ (aP hC) A hm
theorem eO {M A:Type} {f g:M→A→List ay} {ms:List M} {asl:List A} {C:List ay} (i:Nat) (hC:C[i]? =some (bQ (bK g ms asl))) (h: ∀ m a w,(∀ X∈g m a,X.holds w)→ ∀ X∈f m a,X.holds w):g9 C (iH (bK f ms asl)).holds:=fun w hw X hX=>by
 have hb:=hw _ (aP hC)
 obtain ⟨k,m,a,B,D,E⟩:=ku hX
 exact h m a w (fun Y hY=>hb.1 Y (bB B D hY)) X E
/-- a row that is part of another one -/
theorem M5 {C:List ay} {A:OA} {n k sz:Nat} {es:List (List Value)} (hR:g9 C (rd A n sz es).holds) (hk:k≤n):g9 C (rd A k sz (es.take k)).holds:=fun w hw=>by
 obtain ⟨D,E,F⟩:=hR w hw
 refine ⟨by rw [List.length_take,D]; omega,fun x hx=>E x (List.mem_of_mem_take hx),fun hp=>?_⟩
 have G:0<k:=Nat.pos_of_mul_pos_right hp
 have hs:0<sz:=Nat.pos_of_mul_pos_left hp
 obtain ⟨ad,hA,B⟩:=F (Nat.mul_pos om hs)
 refine ⟨ad,hA,fun i e j v he hv=>B i e j v ?_ hv⟩
 rw [List.getElem?_take] at he
 split at he
 ·exact he
 ·cases he
section
variable {E:fH} {ops:Array Oper} {Q:dv} {rest:List Oper} {D:List Deferred} {L:List (Nat×Value)} {C:List ay}
variable {d:Nat} {ty:TypeId} {ps:String} {af:Array Edge} {g:Option (Nat×Bool)}
/-- an element of a slice that is the head of a row -/
theorem VI (k:Nat) {x ix:Operand} {A:OA} {n n' c sz e t:Nat} {es:List (List Value)} {j:Int} (h:bF E.n ops L d g x ix=some (.slice A n' c,.int .i64 j)) (hR:g9 C (rd A n sz es).holds)
 (ht:tE E.P t=some (e,sz)) (hz:0<sz) (hj:j=(k:Int)) (hk:k<n') (hn:n'≤n):SE E ops ⟨some d,.indexAddr t x ix,ty,ps,af,g⟩ D L C (.pointer (mB A (k*sz))) d:=IA k h (M5 hR hn) ht hz hj hk
end
theorem St.tie {S:BS} {w0 w:World} {C:List ay} {A:ay} {L L':List ay} (h:St S w0 (A::bQ L::C) w) (e:L++[A]=L'):St S w0 (bQ L'::C) w:=by
 subst e
 have B:St S w0 (bQ L::A::C) w:=h.perm (List.Perm.swap _ _ _)
 have D:St S w0 (L++(A::C)) w:=B.iN
 have E:St S w0 ((L++[A])++C) w:=by simpa using D
 exact E.tied
theorem St.PE {S:BS} {w0 w:World} {C:List ay} (h:St S w0 C w):St S w0 (bQ []::C) w:=St.tied (C1:=[]) h
section
variable {E:fH} {Q:dv} {D:List Deferred} {L:List (Nat×Value)} {C:List ay}
theorem lx {c:Code} (h:WJ E c Q D L (bQ []::C)):WJ E c Q D L C:=fun a w hf hs=>h a w hf hs.PE
theorem xJ {ops:Array Oper} {rest:List Oper} (h:RJ E ops Q rest D L (bQ []::C)):RJ E ops Q rest D L C:=fun a w hf hs=>h a w hf hs.PE
theorem yS {K:Act→World→Prop} {C1:List ay} {A:ay} {X X':List ay} (i j:Nat) (hn:decide (j::i::(List.range C.length).filter fun k=>k != i&&k != j).Nodup=true) (hC:kS C (j::i::(List.range C.length).filter fun k=>k != i&&k != j)=A::bQ X::C1) (e:X++[A]=X')
 (h:KJ E K D L (bQ X'::C1)):KJ E K D L C:=fun a w hf hs=>h a w hf ((St.kS _ hn hC hs).tie e)
theorem Sh {ops:Array Oper} {rest:List Oper} {C1:List ay} {A:ay} {X X':List ay} (i j:Nat) (hn:decide (j::i::(List.range C.length).filter fun k=>k != i&&k != j).Nodup=true) (hC:kS C (j::i::(List.range C.length).filter fun k=>k != i&&k != j)=A::bQ X::C1) (e:X++[A]=X')
 (h:RJ E ops Q rest D L (bQ X'::C1)):RJ E ops Q rest D L C:=fun a w hf hs=>h a w hf ((St.kS _ hn hC hs).tie e)
end
end
section
open Go.RowKit
abbrev j5:ai→Value:=fun s=>vA (ai.cells s)
abbrev eJ:aQ→Value:=fun s=>vA (aQ.cells s)
abbrev TM:=List (Int×ai)
abbrev FM:=List (aQ×Int)
def gK {α:Type} (m:α) (b:Nat):List Value:=[Value.map (some b)]
def p6 (m:TM) (b:Nat):List ay:=[kx iV b (cT j5 m)]
def ny (m:FM) (b:Nat):List ay:=[kx eJ b (cT iV m)]
theorem l4 {M A:Type} {f:M→A→List ay}: ∀ (m:M) (a:A) (w:World),(∀ X∈f m a,X.holds w)→ ∀ X∈f m a,X.holds w:=fun _ _ _ h=>h
/-- untied -/
theorem FX {E:fH} {ops:Array Oper} {Q:dv} {rest:List Oper} {D:iw} {L:dF} {C X C1:List ay} (i:Nat) (hn:decide (i::(List.range C.length).filter fun k=>k != i).Nodup=true) (hC:kS C (i::(List.range C.length).filter fun k=>k != i)=bQ X::C1)
 (h:RJ E ops Q rest D L (X++C1)):RJ E ops Q rest D L C:=fun a w hf hs=>h a w hf (St.iN (St.kS _ hn hC hs))
end
section
def cV (ln:bW) (rd:de) (e:List Int) (tms:List TM):cq:=⟨rd.Start,rd.gL,e,tms,ln.cU,ln.ew,(rd.aa.n:Int)⟩
def OO (o:Int×ai):List Value:=[.int .i64 o.1,.agg (ai.cells o.2).toArray]
structure Gu (w:cq):Prop where
 n:w.n≤6
 times:w.zM.length=w.n
 now:0≤w.Start∧w.Start≤w.gL∧w.gL≤86400000
 least: ∀ x∈w.qJ,1≤x∧x≤500000000
 Fk: ∀ t∈w.zM,∀ p∈t,(0≤p.1∧p.1≤10)∧0≤p.2.Lo∧p.2.Lo≤p.2.Hi∧p.2.Hi≤86400000
theorem Gu.opt {w:cq} (h:Gu w) {b:Nat} {o:Int×ai} (ho:o∈jZ w b):(-1≤o.1∧o.1≤10)∧0≤o.2.Lo∧o.2.Lo≤o.2.Hi∧o.2.Hi≤86400000:=by
 unfold jZ wW at ho
 rcases cm.1 ho with rfl|ho
 ·have:=h.now; simp only; omega
 ·cases ht:w.zM[b]? with
  |none=>simp [ht] at ho
  |some t=>
   rw [ht] at ho
   have:=h.Fk t (aP ht) o ho
   omega
theorem Gu.cY {w:cq} (h:Gu w) (b:Nat):0≤cY w b∧cY w b≤500000000:=by
 unfold Go.Proofs.YtkaenmjhfajbkaaGreatDoor.cY
 cases ht:w.qJ[b]? with
 |none=>simp
 |some x=>have:=h.least x (aP ht); simp only [Option.getD_some]; omega
theorem vZ (s:Int):(0≤(gF s).right∧0≤(gF s).fB)∧(gF s).right+(gF s).fB=1:=by unfold gF; split<;>simp
theorem IV {w:cq} (h:Gu w): ∀ (b:Nat) p,p∈pW w b→(0≤p.2∧p.2≤86400000)∧(0≤p.1.right∧0≤p.1.fB)∧p.1.right+p.1.fB=(b:Int):=by
 intro b
 induction b with
 |zero=>
  intro p hp
  simp only [pW,cH] at hp
  subst hp
  have:=h.now; simp only; omega
 |succ b ih=>
  intro q hq
  obtain ⟨p,hp,o,ho,e⟩:=kG.1 hq
  have A:=ih p hp
  have B:=h.opt ho
  have C:=h.cY b
  have D:=h.now
  have E:=vZ o.1
  unfold nt at e
  split at e
  ·simp only [Option.some.injEq] at e
   subst e
   simp only [dR]
   omega
  ·cases e
theorem Tj {w:cq} (h:Gu w): ∀ (k:Nat) p,p∈NW w k→(-(500000000*(k:Int))≤p.2∧p.2≤86400000)∧(0≤p.1.right∧0≤p.1.fB)∧p.1.right+p.1.fB≤(k:Int):=by
 intro k
 induction k with
 |zero=>
  intro p hp
  simp only [NW,cH] at hp
  subst hp
  have:=h.now; simp only; omega
 |succ k ih=>
  intro q hq
  simp only [NW,cm,List.mem_flatMap,List.mem_filterMap] at hq
  rcases hq with rfl|⟨p,hp,o,ho,e⟩
  ·have:=h.now; simp only; omega
  ·have A:=ih p hp
   have B:=h.opt ho
   have C:=h.cY (w.n-(k+1))
   have D:=h.now
   have E:=vZ o.1
   unfold pJ at e
   split at e
   ·simp only [Option.some.injEq] at e
    subst e
    simp only [dR]
    omega
   ·cases e
theorem Lu {w:cq} (h:Gu w) {b:Nat} {p:aQ×Int} (hp:p∈back w b):(-3000000000≤p.2∧p.2≤86400000)∧(0≤p.1.right∧0≤p.1.fB)∧p.1.right+p.1.fB≤6:=by
 have:=Tj h _ _ hp
 have:=h.n
 omega
theorem yQ {w:cq} {b:Nat} {t:TM} (ht:w.zM[b]? =some t) {o:Int×ai}:o∈jZ w b↔o=(-1,⟨w.Start,w.gL⟩)∨o∈t:=by
 unfold jZ wW; rw [ht]; simp
theorem mq {K β:Type} [DecidableEq K] {l:List (K×β)} {x:K} {y:β} (hn:(l.map (·.1)).Nodup) (hm:(x,y)∈l) {o:K×β} (h:o∈l):o∈fz l x∨o=(x,y):=by
 by_cases e:o.1=x
 ·right
  obtain ⟨k,v⟩:=o
  simp only at e
  subst e
  have B:=(lL hn).1 h
  have A:=(lL hn).1 hm
  rw [B] at A
  cases A; rfl
 ·exact .inl (zt.2 ⟨h,e⟩)
theorem Gg {K β:Type} [DecidableEq K] {t l ys:List (K×β)} {x:K} {y:β} (hn:(l.map (·.1)).Nodup) (hm:(x,y)∈l) (h: ∀ o∈t,o∈l∨o∈ys): ∀ o∈t,o∈fz l x∨o∈ys++[(x,y)]:=fun o ho=>by
 rcases h o ho with h|h
 ·rcases mq hn hm h with h|h
  ·exact .inl h
  ·exact .inr (by simp [h])
 ·exact .inr (by simp [h])
theorem m7 {K β:Type} [DecidableEq K] {t l:List (K×β)} {x:K} (h: ∀ o∈l,o∈t): ∀ o∈fz l x,o∈t:=fun o ho=>h o (zt.1 ho).1
theorem H0 {w:cq} {m left:List (aQ×Int)} (h: ∀ p∈m,p∈left∨nk w p.1=false) (h0:left=[]):lq w m=false:=by
 unfold lq
 rw [List.any_eq_false]
 intro p hp
 rcases h p hp with q|q
 ·rw [h0] at q; cases q
 ·simp [q]
theorem LY {w:cq} {m:List (aQ×Int)} {p:aQ×Int} (hp:p∈m) (h:nk w p.1=true):lq w m=true:=List.any_eq_true.2 ⟨p,hp,h⟩
theorem J0 {w:cq} {m left:List (aQ×Int)} {t:aQ} {v:Int} (hn:(left.map (·.1)).Nodup) (hm:(t,v)∈left) (h: ∀ p∈m,p∈left∨nk w p.1=false) (hf:nk w t=false): ∀ p∈m,p∈fz left t∨nk w p.1=false:=fun p hp=>by
 rcases h p hp with q|q
 ·rcases mq hn hm q with q|q
  ·exact .inl q
  ·right; rw [q]; exact hf
 ·exact .inr q
/-- what the maps of a watch are -/
structure wm (w:cq) (fs:List (List (aQ×Int))):Prop where
 len:fs.length=w.n+1
 min: ∀ (b:Nat) m,fs[b]? =some m→ug m (pW w b)
 keys: ∀ (b:Nat) m,fs[b]? =some m→(m.map (·.1)).Nodup
structure tP (w:cq) (bs:List (List (aQ×Int))):Prop where
 len:bs.length=w.n+1
 max: ∀ (b:Nat) m,bs[b]? =some m→wj m (back w b)
 keys: ∀ (b:Nat) m,bs[b]? =some m→(m.map (·.1)).Nodup
theorem wm.mem {w:cq} {fs:List (List (aQ×Int))} (h:wm w fs) {b:Nat} {m:List (aQ×Int)} (hm:fs[b]? =some m) {p:aQ×Int} (hp:p∈m):p∈pW w b:=(h.min b m hm).1 _ _ ((fR (h.keys b m hm)).1 hp)
theorem tP.mem {w:cq} {fs:List (List (aQ×Int))} (h:tP w fs) {b:Nat} {m:List (aQ×Int)} (hm:fs[b]? =some m) {p:aQ×Int} (hp:p∈m):p∈back w b:=(h.max b m hm).1 _ _ ((fR (h.keys b m hm)).1 hp)
theorem Hg {w:cq} {b:Nat} {t l ys:List (Int×ai)} (ht:w.zM[b]? =some t) (h: ∀ o∈t,o∈l∨o∈ys) (h0:l=[]) (hs:(-1,(⟨w.Start,w.gL⟩:ai))∈ys): ∀ o∈jZ w b,o∈ys:=fun o ho=>by
 rcases (yQ ht).1 ho with rfl|ho
 ·exact hs
 ·rcases h o ho with q|q
  ·rw [h0] at q; cases q
  ·exact q
end
section
/-- by these options all is yielded -/
def mg (w:cq) (b:Nat) (mf mb:List (aQ×Int)) (os ys:List (Int×ai)):Prop:= ∀ o∈os,∀ p∈mf,∀ u∈mb,∀ q,ni w b p u o=some q→q∈ys
def nZ (w:cq) (b:Nat) (mf mb:List (aQ×Int)) (o:Int×ai) (left:List (aQ×Int)) (ys:List (Int×ai)):Prop:= ∀ p∈mf,p∈left∨ ∀ u∈mb,∀ q,ni w b p u o=some q→q∈ys
def nR (w:cq) (b:Nat) (mb:List (aQ×Int)) (o:Int×ai) (p:aQ×Int) (left:List (aQ×Int)) (ys:List (Int×ai)):Prop:= ∀ u∈mb,u∈left∨ ∀ q,ni w b p u o=some q→q∈ys
variable {w:cq} {b:Nat} {mf mb left:List (aQ×Int)} {o x:Int×ai} {os ys:List (Int×ai)} {p u:aQ×Int}
theorem mg.nil:mg w b mf mb [] ys:=fun o ho=>by cases ho
theorem mg.app (h:mg w b mf mb os ys):mg w b mf mb os (ys++[x]):=fun o ho p hp u hu q e=>List.mem_append_left _ (h o ho p hp u hu q e)
theorem nZ.app (h:nZ w b mf mb o left ys):nZ w b mf mb o left (ys++[x]):=fun p hp=>(h p hp).imp id fun h u hu q e=>List.mem_append_left _ (h u hu q e)
theorem nZ.start:nZ w b mf mb o mf ys:=fun p hp=> .inl hp
theorem nR.start:nR w b mb o p mb ys:=fun p hp=> .inl hp
theorem nR.skip {t:aQ} {v:Int} (hn:(left.map (·.1)).Nodup) (hm:(t,v)∈left) (h:nR w b mb o p left ys) (he:ni w b p (t,v) o=none):nR w b mb o p (fz left t) ys:=fun u hu=>by
 rcases h u hu with q|q
 ·rcases mq hn hm q with q|q
  ·exact .inl q
  ·right; intro z hz; rw [q,he] at hz; cases hz
 ·exact .inr q
theorem nR.Uv {t:aQ} {v:Int} (hn:(left.map (·.1)).Nodup) (hm:(t,v)∈left) (h:nR w b mb o p left ys) (he:ni w b p (t,v) o=some x):nR w b mb o p (fz left t) (ys++[x]):=fun u hu=>by
 rcases h u hu with q|q
 ·rcases mq hn hm q with q|q
  ·exact .inl q
  ·right; intro z hz; rw [q,he] at hz; cases hz; simp
 ·right; intro z hz; exact List.mem_append_left _ (q z hz)
theorem nZ.next {t:aQ} {v:Int} {l2:List (aQ×Int)} (hn:(left.map (·.1)).Nodup) (hm:(t,v)∈left) (h:nZ w b mf mb o left ys) (hq:nR w b mb o (t,v) l2 ys) (h0:l2=[]):nZ w b mf mb o (fz left t) ys:=fun p hp=>by
 rcases h p hp with q|q
 ·rcases mq hn hm q with q|q
  ·exact .inl q
  ·right; intro u hu z hz; subst q
   rcases hq u hu with q|q
   ·rw [h0] at q; cases q
   ·exact q z hz
 ·exact .inr q
theorem mg.next (h:mg w b mf mb os ys) (hp:nZ w b mf mb o left ys) (h0:left=[]):mg w b mf mb (os++[o]) ys:=fun o' ho p hp' u hu q e=>by
 rcases gQ.1 ho with ho|ho
 ·exact h o' ho p hp' u hu q e
 ·simp only [cH] at ho; subst ho
  rcases hp p hp' with z|z
  ·rw [h0] at z; cases z
  ·exact z u hu q e
theorem mg.fin (h:mg w b mf mb os ys) (ho: ∀ o∈jZ w b,o∈os): ∀ q∈qF w b mf mb,q∈ys:=fun q hq=>by
 obtain ⟨o,A,p,B,u,C,e⟩:=jF.1 hq
 exact h o (ho o A) p B u C q e
theorem HV (h:max (p.2+cY w b) o.2.Lo≤min u.2 o.2.Hi) (h2:nk w (dR (dR p.1 u.1) (gF o.1))=true):ni w b p u o=some (o.1,⟨max (p.2+cY w b) o.2.Lo,min u.2 o.2.Hi⟩):=by
 unfold ni lE zX; rw [if_pos ⟨h,h2⟩]
theorem Jd (h: ¬ max (p.2+cY w b) o.2.Lo≤min u.2 o.2.Hi):ni w b p u o=none:=by
 unfold ni lE; rw [if_neg (fun q=>h q.1)]
theorem GZ (h2:nk w (dR (dR p.1 u.1) (gF o.1))=false):ni w b p u o=none:=by
 unfold ni zX; rw [if_neg (fun q=>by rw [h2] at q; exact absurd q.2 dc)]
theorem oe {v:Int} (h:w.qJ[b]? =some v):cY w b=v:=by unfold cY; rw [h]; rfl
theorem B8 {t q:aQ} {v z y:Int} (hy:w.qJ[b]? =some y) (h:max (v+y) o.2.Lo≤min z o.2.Hi) (h2:nk w (dR (dR t q) (gF o.1))=true):ni w b (t,v) (q,z) o=some (o.1,⟨max (v+y) o.2.Lo,min z o.2.Hi⟩):=by
 have e:=oe hy
 subst e
 exact HV h h2
theorem HN {t q:aQ} {v z y:Int} (hy:w.qJ[b]? =some y) (h: ¬ max (v+y) o.2.Lo≤min z o.2.Hi):ni w b (t,v) (q,z) o=none:=by
 have e:=oe hy
 subst e
 exact Jd h
theorem oQ {m:List (aQ×Int)} {k:aQ} {y:Int} (h:(m.map (·.1)).Nodup):((eC m k y).map (·.1)).Nodup:=by
 unfold eC
 by_cases hx:(m.lookup k).isSome
 ·rw [if_pos hx,List.map_map]
  have e:m.map ((fun p=>p.1)∘fun p=>if p.1=k then (k,y) else p)=m.map (·.1):=by
   apply List.map_congr_left
   intro p _
   simp only [Function.comp]
   split
   ·rename_i e; exact e.symm
   ·rfl
  rw [e]; exact h
 ·rw [if_neg hx,List.map_append,List.nodup_append]
  refine ⟨h,sm,?_⟩
  intro a ha c hc
  simp only [List.map_cons,List.map_nil,cH] at hc
  rw [hc]
  obtain ⟨p,hp,rfl⟩:=db.1 ha
  have hn:m.lookup k=none:=by cases h0:m.lookup k with
   |none=>rfl
   |some v=>exact absurd (by rw [h0]; rfl) hx
  exact iM.1 hn p hp
theorem Bi {m:List (aQ×Int)} {q:aQ×Int} (h:(m.map (·.1)).Nodup):((pU m q).map (·.1)).Nodup:=by
 unfold pU; split
 ·exact oQ h
 ·split
  ·exact oQ h
  ·exact h
theorem CC {m:List (aQ×Int)} {q:aQ×Int} (h:(m.map (·.1)).Nodup):((pM m q).map (·.1)).Nodup:=by
 unfold pM; split
 ·exact oQ h
 ·split
  ·exact oQ h
  ·exact h
/-- a map of the first times, on its way -/
structure xU (w:cq) (b:Nat) (m:List (aQ×Int)):Prop where
 snd:wu m (pW w (b+1))
 keys:(m.map (·.1)).Nodup
structure wN (w:cq) (b:Nat) (m:List (aQ×Int)):Prop where
 snd:wu m (back w b)
 keys:(m.map (·.1)).Nodup
 zero: ∃ v,m.lookup ⟨0,0⟩=some v∧w.gL≤v
theorem K1 (h:max (p.2+cY w b) o.2.Lo≤min o.2.Hi w.gL):nt w b p o=some (dR p.1 (gF o.1),max (p.2+cY w b) o.2.Lo):=by unfold nt; rw [if_pos h]
theorem Ny (h: ¬ max (p.2+cY w b) o.2.Lo≤min o.2.Hi w.gL):nt w b p o=none:=by unfold nt; rw [if_neg h]
theorem JB (h:o.2.Lo≤min p.2 o.2.Hi):pJ w b p o=some (dR p.1 (gF o.1),min p.2 o.2.Hi-cY w b):=by unfold pJ; rw [if_pos h]
theorem Nu (h: ¬ o.2.Lo≤min p.2 o.2.Hi):pJ w b p o=none:=by unfold pJ; rw [if_neg h]
theorem xU.start:xU w b []:=⟨fun t v h=>by simp at h,List.nodup_nil⟩
theorem xU.add {m:List (aQ×Int)} {q:aQ×Int} (h:xU w b m) (hp:p∈pW w b) (ho:o∈jZ w b) (he:nt w b p o=some q):xU w b (pU m q):=⟨Hx h.snd (kG.2 ⟨p,hp,o,ho,he⟩),Bi h.keys⟩
theorem wN.start (hb:b<w.n):wN w b [(⟨0,0⟩,w.gL)]:=⟨fun t v h=>by
 obtain ⟨rfl,rfl⟩:=py.1 h
 exact (ph hb).2 (.inl U),sm,w.gL,py.2 ⟨U,U⟩,Int.le_refl _⟩
theorem wN.add {m:List (aQ×Int)} {q:aQ×Int} (hb:b<w.n) (h:wN w b m) (hp:p∈back w (b+1)) (ho:o∈jZ w b) (he:pJ w b p o=some q):wN w b (pM m q):=⟨Hw h.snd ((ph hb).2 (.inr ⟨p,hp,o,ho,he⟩)),CC h.keys,by
 obtain ⟨v,A,C⟩:=h.zero
 obtain ⟨v',B,D⟩:=rm (q:=q) _ _ A
 exact ⟨v',B,om⟩⟩
theorem jG.none_ {m:List (aQ×Int)} (h:jG w b m p os) (he:nt w b p o=none):jG w b m p (os++[o]):=h.add (yI.refl _) fun q hq=>by rw [he] at hq; cases hq
theorem jG.JJ {m:List (aQ×Int)} {q:aQ×Int} (h:jG w b m p os) (he:nt w b p o=some q):jG w b (pU m q) p (os++[o]):=h.add wE fun q' hq=>by rw [he] at hq; cases hq; exact HD
theorem jA.none_ {m:List (aQ×Int)} (h:jA w b m p os) (he:pJ w b p o=none):jA w b m p (os++[o]):=h.add (yB.refl _) fun q hq=>by rw [he] at hq; cases hq
theorem jA.JJ {m:List (aQ×Int)} {q:aQ×Int} (h:jA w b m p os) (he:pJ w b p o=some q):jA w b (pM m q) p (os++[o]):=h.add rm fun q' hq=>by rw [he] at hq; cases hq; exact Gt
/-- what of a map of the beam before is used already -/
def kj (w:cq) (b:Nat) (mb m left:List (aQ×Int)):Prop:= ∀ p∈mb,p∈left∨jG w b m p (jZ w b)
def jW (w:cq) (b:Nat) (mb m left:List (aQ×Int)):Prop:= ∀ p∈mb,p∈left∨jA w b m p (jZ w b)
theorem kj.start {m:List (aQ×Int)}:kj w b mb m mb:=fun p hp=> .inl hp
theorem jW.start {m:List (aQ×Int)}:jW w b mb m mb:=fun p hp=> .inl hp
theorem kj.lower {m m':List (aQ×Int)} (h:kj w b mb m left) (hl:yI m m'):kj w b mb m' left:=fun p hp=>(h p hp).imp id fun h=>h.lower hl
theorem jW.upper {m m':List (aQ×Int)} (h:jW w b mb m left) (hl:yB m m'):jW w b mb m' left:=fun p hp=>(h p hp).imp id fun h=>h.upper hl
theorem kj.next {m:List (aQ×Int)} {t:aQ} {v:Int} (hn:(left.map (·.1)).Nodup) (hm:(t,v)∈left) (h:kj w b mb m left) (hd:jG w b m (t,v) os) (ho: ∀ o∈jZ w b,o∈os):kj w b mb m (fz left t):=fun p hp=>by
 rcases h p hp with q|q
 ·rcases mq hn hm q with q|q
  ·exact .inl q
  ·right; rw [q]; exact hd.sub ho
 ·exact .inr q
theorem jW.next {m:List (aQ×Int)} {t:aQ} {v:Int} (hn:(left.map (·.1)).Nodup) (hm:(t,v)∈left) (h:jW w b mb m left) (hd:jA w b m (t,v) os) (ho: ∀ o∈jZ w b,o∈os):jW w b mb m (fz left t):=fun p hp=>by
 rcases h p hp with q|q
 ·rcases mq hn hm q with q|q
  ·exact .inl q
  ·right; rw [q]; exact hd.sub ho
 ·exact .inr q
theorem kj.fin {m:List (aQ×Int)} (h:kj w b mb m left) (h0:left=[]): ∀ p∈mb,jG w b m p (jZ w b):=fun p hp=>by
 rcases h p hp with q|q
 ·rw [h0] at q; cases q
 ·exact q
theorem jW.fin {m:List (aQ×Int)} (h:jW w b mb m left) (h0:left=[]): ∀ p∈mb,jA w b m p (jZ w b):=fun p hp=>by
 rcases h p hp with q|q
 ·rw [h0] at q; cases q
 ·exact q
end
section
def mW (a b:ai):ai:=⟨a.Lo+b.Lo,a.Hi+b.Hi⟩
def hZ:ai:=⟨0,0⟩
def k7 (a:ai) (l:List ai):ai:=l.foldl mW a
def l_ (z:ai):Prop:=(-1000000000≤z.Lo∧z.Lo≤1000000000)∧ -1000000000≤z.Hi∧z.Hi≤1000000000
theorem zH {a:ai} {l:List ai} {i:Nat} {z:ai} (h:l[i]? =some z):k7 a (l.take (i+1))=mW (k7 a (l.take i)) z:=by
 rw [List.take_add_one,h]; unfold k7; simp
theorem OV {a:ai} {l:List ai} (ha:l_ a) (hl: ∀ z∈l,l_ z): ∀ i:Nat,(-1000000000-1000000000*(i:Int)≤(k7 a (l.take i)).Lo∧(k7 a (l.take i)).Lo≤1000000000+1000000000*(i:Int))∧ -1000000000-1000000000*(i:Int)≤(k7 a (l.take i)).Hi∧(k7 a (l.take i)).Hi≤1000000000+1000000000*(i:Int):=by
 intro i
 induction i with
 |zero=>unfold l_ at ha; simp [k7]; omega
 |succ i ih=>
  cases h:l[i]? with
  |none=>rw [List.take_add_one,h]; simp only [Option.toList_none,List.append_nil]; omega
  |some z=>
   have hz:=hl z (aP h)
   unfold l_ at hz
   rw [zH h]
   simp only [mW]
   omega
theorem Ki {a:ai} {l:List ai} {i:Nat} (h:l.length≤i):k7 a (l.take i)=k7 a l:=by rw [List.take_of_length_le h]
theorem nY {a z:ai}:vA (ai.cells (k7 a [z]))=vA (ai.cells (mW a z)):=rfl
theorem BK {a y z:ai}:vA (ai.cells (k7 a [y,z]))=vA (ai.cells (mW (mW a y) z)):=rfl
/-- how long the run is from one mark, over so many stretches; by how much it falls -/
def eV (ts:List aD) (f:Nat):Nat→ai
 |0=>hZ
 |k+1=>match ts[f+k]? with
  |some x=>mW (eV ts f k) x.jR
  |none=>eV ts f k
def gS (ts:List aD) (f:Nat):Nat→ai
 |0=>hZ
 |k+1=>match ts[f+k]? with
  |some x=>mW (gS ts f k) x.kQ
  |none=>gS ts f k
theorem qw {ts:List aD} {f k:Nat} {x:aD} (h:ts[f+k]? =some x):eV ts f (k+1)=mW (eV ts f k) x.jR:=by simp [eV,h]
theorem qi {ts:List aD} {f k:Nat} {x:aD} (h:ts[f+k]? =some x):gS ts f (k+1)=mW (gS ts f k) x.kQ:=by simp [gS,h]
theorem mR {ts:List aD} (ht: ∀ x∈ts,bY x) (f:Nat): ∀ k:Nat,(0≤(eV ts f k).Lo∧(eV ts f k).Lo≤(eV ts f k).Hi)∧(eV ts f k).Hi≤30000*(k:Int):=by
 intro k
 induction k with
 |zero=>simp [eV,hZ]
 |succ k ih=>
  simp only [eV]
  cases h:ts[f+k]? with
  |none=>simp only; omega
  |some x=>
   have hx:=(ht x (aP h)).2.1
   simp only [eu] at hx
   simp only [mW]
   omega
theorem EY {ts:List aD} (ht: ∀ x∈ts,bY x) (f:Nat): ∀ k:Nat,(0≤(gS ts f k).Lo∧(gS ts f k).Lo≤(gS ts f k).Hi)∧(gS ts f k).Hi≤5000*(k:Int):=by
 intro k
 induction k with
 |zero=>simp [gS,hZ]
 |succ k ih=>
  simp only [gS]
  cases h:ts[f+k]? with
  |none=>simp only; omega
  |some x=>
   have hx:=(ht x (aP h)).2.2.1
   simp only [eu] at hx
   simp only [mW]
   omega
theorem rH {ts:List aD} (ht: ∀ x∈ts,bY x) {f k:Nat} (hk:k≤13):l_ (eV ts f k):=by
 have:=mR ht f k; unfold l_; omega
theorem xQ {ts:List aD} (ht: ∀ x∈ts,bY x) {f k:Nat} (hk:k≤13):l_ (gS ts f k):=by
 have:=EY ht f k; unfold l_; omega
theorem vR {x:aD} (h:bY x):l_ x.jR:=by have:=h.2.1; simp only [eu] at this; unfold l_; omega
theorem vL {x:aD} (h:bY x):l_ x.kQ:=by have:=h.2.2.1; simp only [eu] at this; unfold l_; omega
theorem zd {ts:List aD} (h: ¬ (if dB ts=true then (0:Int) else 10)=0):dB ts=false∧(if dB ts=true then (0:Int) else 10)=10:=by
 cases ht:dB ts with
 |true=>rw [ht] at h; exact absurd rfl h
 |false=>exact ⟨rfl,rfl⟩
theorem DN {ts:List aD} (h:(if dB ts=true then (0:Int) else 10)=0):dB ts=true:=by
 cases ht:dB ts with
 |true=>rfl
 |false=>rw [ht] at h; exact absurd h dc
/-- what the iterator of marks yields -/
def uQ (ts:List aD) (f:Nat):List (List Value):=(List.range (ts.length-f+1)).map fun (k:Nat)=>[.agg (eV ts f k).cells.toArray,.agg (gS ts f k).cells.toArray]
theorem uR {ts:List aD} {f:Nat}:(uQ ts f).length=ts.length-f+1:=by simp [uQ]
theorem zn {ts:List aD} {f k:Nat} (h:k≤ts.length-f):(uQ ts f)[k]? =some [.agg (eV ts f k).cells.toArray,.agg (gS ts f k).cells.toArray]:=by
 simp [uQ,List.getElem?_range (show k<ts.length-f+1 by omega)]
theorem G5 {ts:List aD} {f k:Nat} {x:List Value} (h:(uQ ts f)[k]? =some x):k≤ts.length-f∧x=[.agg (eV ts f k).cells.toArray,.agg (gS ts f k).cells.toArray]:=by
 have hi:k<ts.length-f+1:=by
  have:=(aZ.1 h).1
  simpa [uQ] using this
 rw [zn om] at h
 exact ⟨om,(Option.some.inj h).symm⟩
theorem Ef {ts:List aD} {f:Nat}: ∀ x∈uQ ts f,x.length=2:=fun x hx=>by
 obtain ⟨k,_,rfl⟩:=db.1 hx; rfl
end
section
def fT (ts:List aD) (s:dg):Prop:=(0≤s.bw∧s.bw<(ts.length:Int))∧ ∃ x,ts[s.bw.toNat]? =some x∧eu s.l9 0 (x.jR.Lo-1)
noncomputable instance (ts:List aD) (s:dg):Decidable (fT ts s):=Classical.propDecidable _
theorem B4 {ts:List aD} {s:dg} {x:aD} (h:0≤s.bw∧s.bw<(ts.length:Int)) (hx:ts[s.bw.toNat]? =some x):fT ts s↔eu s.l9 0 (x.jR.Lo-1):=
 ⟨fun A=>by obtain ⟨y,hy,B⟩:=A.2; rw [hx] at hy; cases hy; exact B,fun A=>⟨h,x,hx,A⟩⟩
theorem Dc {ts:List aD} {s:dg} (h: ¬ (0≤s.bw∧s.bw<(ts.length:Int))): ¬ fT ts s:=fun A=>h A.1
theorem AE {ts:List aD} {s:dg} (ht: ∀ x∈ts,bY x) (h:fT ts s):(0≤s.l9.Lo∧s.l9.Lo≤s.l9.Hi)∧s.l9.Hi≤30000:=by
 obtain ⟨x,hx,A⟩:=h.2
 have:=(ht x (aP hx)).2.1
 simp only [eu] at A this
 omega
theorem EF {ts:List aD} {a:dg}:vB (decide (∀ s∈[a],fT ts s))=vB (decide (fT ts a)):=congrArg _ (gT.2 sm)
theorem DK {ts:List aD} {a b:dg}:vB (decide (∀ s∈[a,b],fT ts s))=vB (decide (fT ts a∧fT ts b)):=congrArg _ (gT.2 sm)
def oE (z:ai):ai:=⟨-z.Hi,-z.Lo⟩
def LH (ts:List aD) (s:dg):ai:=mW (eV ts 0 s.bw.toNat) s.l9
noncomputable def E_ (ts:List aD) (s:dg):Int:=if dB ts=true then (if fT ts s then 0 else 12) else 10
noncomputable def P0 (ts:List aD) (s:dg):ai:=if E_ ts s=0 then LH ts s else hZ
theorem Ie {ts:List aD} {s:dg} (h:dB ts=false):E_ ts s=10∧P0 ts s=hZ:=by
 have e:E_ ts s=10:=by unfold E_; rw [h]; rfl
 exact ⟨e,by unfold P0; rw [e]; rfl⟩
theorem Ko {ts:List aD} {s:dg} (h:dB ts=true) (h2: ¬ fT ts s):E_ ts s=12∧P0 ts s=hZ:=by
 have e:E_ ts s=12:=by unfold E_; rw [if_pos h,if_neg h2]
 exact ⟨e,by unfold P0; rw [e]; rfl⟩
theorem ym {ts:List aD} {s:dg} (h:dB ts=true) (h2:fT ts s):E_ ts s=0∧P0 ts s=LH ts s:=by
 have e:E_ ts s=0:=by unfold E_; rw [if_pos h,if_pos h2]
 exact ⟨e,if_pos e⟩
theorem FZ {ts:List aD} {s:dg} (h:dB ts=true):E_ ts s=0↔fT ts s:=by
 unfold E_; rw [if_pos h]; split<;>simp [*]
def xn (ts:List aD) (a b:dg):ai:=eV ts (min a.bw b.bw).toNat (max a.bw b.bw-min a.bw b.bw).toNat
def kl (ts:List aD) (a b:dg):ai:=mW (mW (if b.bw<a.bw then oE (xn ts a b) else xn ts a b) b.l9) (oE a.l9)
noncomputable def mM (ts:List aD) (a b:dg):Int:=if dB ts=true then (if fT ts a∧fT ts b then 0 else 12) else 10
noncomputable def ly (ts:List aD) (a b:dg):ai:=if mM ts a b=0 then kl ts a b else hZ
theorem vn {ts:List aD} {a b:dg} (h:dB ts=false):mM ts a b=10∧ly ts a b=hZ:=by
 have e:mM ts a b=10:=by unfold mM; rw [h]; rfl
 exact ⟨e,by unfold ly; rw [e]; rfl⟩
theorem pj {ts:List aD} {a b:dg} (h:dB ts=true) (h2: ¬ (fT ts a∧fT ts b)):mM ts a b=12∧ly ts a b=hZ:=by
 have e:mM ts a b=12:=by unfold mM; rw [if_pos h,if_neg h2]
 exact ⟨e,by unfold ly; rw [e]; rfl⟩
theorem l0 {ts:List aD} {a b:dg} (h:dB ts=true) (h2:fT ts a∧fT ts b):mM ts a b=0∧ly ts a b=kl ts a b:=by
 have e:mM ts a b=0:=by unfold mM; rw [if_pos h,if_pos h2]
 exact ⟨e,if_pos e⟩
theorem Az {z:ai} (h:l_ z):l_ (oE z):=by unfold l_ oE at *; simp only; omega
theorem rQ {ts:List aD} {s:dg} (ht: ∀ x∈ts,bY x) (h:fT ts s):l_ s.l9:=by have:=AE ht h; unfold l_; omega
theorem PH {ts:List aD} {a b:dg} (ht: ∀ x∈ts,bY x) (hl:ts.length≤12) (ha:fT ts a) (hb:fT ts b):(0≤(xn ts a b).Lo∧(xn ts a b).Lo≤(xn ts a b).Hi)∧(xn ts a b).Hi≤360000:=by
 have h:=mR ht (min a.bw b.bw).toNat (max a.bw b.bw-min a.bw b.bw).toNat
 have A:=ha.1
 have B:=hb.1
 unfold xn
 omega
theorem yM {ts:List aD} {a b:dg} (ht: ∀ x∈ts,bY x) (hl:ts.length≤12) (ha:fT ts a) (hb:fT ts b):(-400000≤(kl ts a b).Lo∧(kl ts a b).Lo≤(kl ts a b).Hi)∧(kl ts a b).Hi≤400000:=by
 have h:=PH ht hl ha hb
 have A:=AE ht ha
 have B:=AE ht hb
 unfold kl mW oE
 split<;>simp only <;>omega
theorem QT {ts:List aD} {s:dg} (ht: ∀ x∈ts,bY x) (hl:ts.length≤12) (h:fT ts s):(0≤(LH ts s).Lo∧(LH ts s).Lo≤(LH ts s).Hi)∧(LH ts s).Hi≤400000:=by
 have A:=mR ht 0 s.bw.toNat
 have B:=AE ht h
 have C:=h.1
 unfold LH mW
 simp only; omega
theorem HG {α:Type} {p:Nat→α→Bool} {l:List α}:((l.zipIdx.filter fun q=>p q.2 q.1).map fun q=>(q.2:Int))=[]↔ ∀ (i:Nat) x,l[i]? =some x→p i x=false:=by
 rw [List.map_eq_nil_iff,List.filter_eq_nil_iff]
 constructor
 ·intro h i x hx
  have:=h (x,i) (by rw [List.mem_zipIdx_iff_getElem?]; simpa using hx)
  simpa using this
 ·rintro h ⟨x,i⟩ hm
  rw [List.mem_zipIdx_iff_getElem?] at hm
  simpa using h i x (by simpa using hm)
/-- the places of a list at which something is so -/
def tQ {α:Type} (p:Nat→α→Bool) (l:List α) (n:Nat):List Int:=(((l.take n).zipIdx.filter fun q=>p q.2 q.1).map fun q=>(q.2:Int))
theorem KQ {α:Type} {p:Nat→α→Bool} {l:List α} {i:Nat} {x:α} (hx:l[i]? =some x) (h:p i x=true):tQ p l (i+1)=tQ p l i++[(i:Int)]:=by
 have hi:=(aZ.1 hx).1
 unfold tQ
 rw [List.take_add_one,hx,List.zipIdx_append,List.filter_append,List.map_append]
 simp [Nat.min_eq_left (Nat.le_of_lt hi),h]
theorem LU {α:Type} {p:Nat→α→Bool} {l:List α} {i:Nat} {x:α} (hx:l[i]? =some x) (h:p i x=false):tQ p l (i+1)=tQ p l i:=by
 have hi:=(aZ.1 hx).1
 unfold tQ
 rw [List.take_add_one,hx,List.zipIdx_append,List.filter_append,List.map_append]
 simp [Nat.min_eq_left (Nat.le_of_lt hi),h]
theorem CV {α:Type} {p:Nat→α→Bool} {l:List α} {n:Nat}:(tQ p l n).length≤n:=by
 unfold tQ
 rw [List.length_map]
 refine Nat.le_trans (List.length_filter_le _ _) ?_
 rw [List.length_zipIdx,List.length_take]; omega
def K_ {α:Type} (p:Nat→α→Bool) (l:List α):List Int:=tQ p l l.length
theorem LR {α:Type} {p:Nat→α→Bool} {l:List α} {n:Nat} (h:n=l.length):tQ p l n=K_ p l:=by rw [h]; rfl
theorem Gx {α:Type} {p:Nat→α→Bool} {l:List α}:(K_ p l).length=0↔ ∀ (i:Nat) x,l[i]? =some x→p i x=false:=by
 unfold K_ tQ
 rw [List.length_eq_zero_iff,List.take_length]
 exact HG
end
section
theorem za (p:Int→Bool) (n:Nat): ∃ r:Int,r=((List.range n).findIdx fun (k:Nat)=>p (k:Int):Nat):=⟨_,rfl⟩
noncomputable def gE (p:Int→Bool) (n:Nat):Int:=Classical.choose (za p n)
theorem tv (p:Int→Bool) (n:Nat):gE p n=((List.range n).findIdx fun (k:Nat)=>p (k:Int):Nat):=Classical.choose_spec (za p n)
theorem jk {p:Int→Bool} {n:Nat}:0≤gE p n∧gE p n≤n:=by
 rw [tv]
 have:=List.findIdx_le_length (xs:=List.range n) (p:=fun (k:Nat)=>p (k:Int))
 rw [List.length_range] at this
 omega
theorem zA {p:Int→Bool} {n:Nat} {x:Int} (h0:0≤x) (h:x<gE p n):p x=false:=by
 have hb:=jk (p:=p) (n:=n)
 rw [tv] at h
 have B:x.toNat<(List.range n).findIdx fun (k:Nat)=>p (k:Int):=by omega
 have A:=List.not_of_lt_findIdx B
 simp only [List.getElem_range] at A
 rw [show (x.toNat:Int)=x by omega] at A
 simpa using A
theorem GU {p:Int→Bool} {n:Nat} (h:gE p n<n):p (gE p n)=true:=by
 rw [tv] at h ⊢
 have A:((List.range n).findIdx fun (k:Nat)=>p (k:Int))<(List.range n).length:=by rw [List.length_range]; omega
 have:=List.findIdx_getElem (w:=A)
 simpa using this
end
section
def o_ (n by_:Int):Int:=(n+by_-1)/by_
/-- by how much a sync may be off -/
def tw (c:aT) (at_:Int) (x:cE):Int:=o_ (c.dA*max (at_-x.At) (x.At-at_)) 1000000
def mm (c:aT) (at_:Int) (s:ai) (x:cE):ai:=⟨max s.Lo (x.d_.Lo-tw c at_ x),min s.Hi (x.d_.Hi+tw c at_ x)⟩
def g0 (c:aT) (at_:Int) (k:Nat):ai:=(c.bk.take k).foldl (mm c at_) ⟨-1099511627776,1099511627776⟩
def iS (c:aT) (at_:Int):ai:=c.bk.foldl (mm c at_) ⟨-1099511627776,1099511627776⟩
theorem kp {c:aT} {at_:Int} {k:Nat} {x:cE} (h:c.bk[k]? =some x):g0 c at_ (k+1)=mm c at_ (g0 c at_ k) x:=by
 unfold g0; rw [List.take_add_one,h,List.foldl_append]; rfl
theorem n8 {c:aT} {at_:Int} {k:Nat} (h:c.bk.length≤k):g0 c at_ k=iS c at_:=by unfold g0 iS; rw [List.take_of_length_le h]
def kN (c:aT) (i:Nat):Int:=if i=0 then-1 else ((c.bk[i-1]?).map (·.At)).getD 0
def fX (c:aT) (i:Nat) (x:cE):Prop:=(kN c i<x.At∧x.At≤86400000)∧ -10000≤x.d_.Lo∧x.d_.Lo≤x.d_.Hi∧x.d_.Hi≤10000
def o3 (c:aT) (x o:cE):Prop:=x.d_.Lo-o.d_.Hi≤o_ (c.dA*(x.At-o.At)) 1000000∧o.d_.Lo-x.d_.Hi≤o_ (c.dA*(x.At-o.At)) 1000000
structure fG (c:aT):Prop where
 sX:0≤c.dA∧c.dA≤1000
 len:1≤c.bk.length∧c.bk.length≤5
 sync: ∀ (i:Nat) x,c.bk[i]? =some x→fX c i x
 pair: ∀ (i k:Nat) x o,c.bk[i]? =some x→k<i→c.bk[k]? =some o→o3 c x o
noncomputable instance (c:aT):Decidable (fG c):=Classical.propDecidable _
theorem g_ {c:aT} {i:Nat} (h:i=0):kN c i= -1:=if_pos h
theorem xY {c:aT} {i:Nat} {y:cE} (h:0<i) (hy:c.bk[i-1]? =some y):kN c i=y.At:=by unfold kN; rw [if_neg om,hy]; rfl
theorem oz {c:aT} {i:Nat} {y:cE} (hy:c.bk[i]? =some y):kN c (i+1)=y.At:=by unfold kN; rw [if_neg om,Nat.add_sub_cancel,hy]; rfl
/-- the times of the syncs -/
theorem L7 {c:aT} (h: ∀ (i:Nat) x,c.bk[i]? =some x→fX c i x): ∀ (i:Nat) x,c.bk[i]? =some x→0≤x.At∧ ∀ (k:Nat) o,k<i→c.bk[k]? =some o→o.At<x.At:=by
 intro i
 induction i with
 |zero=>
  intro x hx
  have:=(h 0 x hx).1.1
  rw [g_ rfl] at this
  exact ⟨om,fun k o hk=>by omega⟩
 |succ i ih=>
  intro x hx
  have hi:=(aZ.1 hx).1
  have hy:c.bk[i]? =some (c.bk[i]'om):=fZ om
  have B:=ih _ hy
  have A:=(h (i+1) x hx).1.1
  rw [oz hy] at A
  refine ⟨om,fun k o hk ho=>?_⟩
  by_cases e:k=i
  ·subst e; rw [hy] at ho; cases ho; exact A
  ·have:=B.2 k o om ho; omega
theorem fG.vw {c:aT} (h:fG c) {i:Nat} {x:cE} (hx:c.bk[i]? =some x):(0≤x.At∧x.At≤86400000)∧ -10000≤x.d_.Lo∧x.d_.Lo≤x.d_.Hi∧x.d_.Hi≤10000:=by
 have A:=h.sync i x hx
 exact ⟨⟨(L7 h.sync i x hx).1,A.1.2⟩,A.2⟩
theorem Fq {d a b:Int} (hd:0≤d∧d≤1000) (ha:0≤a∧a≤90000000) (hb:0≤b∧b≤90000000):0≤d*max (a-b) (b-a)∧d*max (a-b) (b-a)≤90000000000:=by
 have:=PQ (a:=d) (b:=max (a-b) (b-a)) (A:=1000) (B:=90000000) hd.1 hd.2 om om
 omega
theorem vM {c:aT} {at_:Int} {x:cE} (hd:0≤c.dA∧c.dA≤1000) (ha:0≤at_∧at_≤90000000) (hx:0≤x.At∧x.At≤86400000):0≤tw c at_ x∧tw c at_ x≤90001:=by
 have h:=Fq hd ha (show 0≤x.At∧x.At≤90000000 by omega)
 unfold tw o_; omega
theorem Bn {c:aT} {at_:Int} (h:fG c) (ha:0≤at_∧at_≤90000000): ∀ k:Nat,(-1099511627776≤(g0 c at_ k).Lo∧(g0 c at_ k).Lo≤10000)∧ -10000≤(g0 c at_ k).Hi∧(g0 c at_ k).Hi≤1099511627776:=by
 intro k
 induction k with
 |zero=>simp [g0]
 |succ k ih=>
  cases hx:c.bk[k]? with
  |none=>unfold g0 at ih ⊢; rw [List.take_add_one,hx]; simpa using ih
  |some x=>
   have hb:=h.vw hx
   have ho:=vM h.sX ha hb.1
   rw [kp hx]
   unfold mm
   simp only
   omega
theorem rK {c:aT} {at_:Int} (h:fG c) (ha:0≤at_∧at_≤90000000):(-110000≤(iS c at_).Lo∧(iS c at_).Lo≤10000)∧ -10000≤(iS c at_).Hi∧(iS c at_).Hi≤110000:=by
 obtain ⟨n,hn⟩: ∃ n,c.bk.length=n+1:=⟨c.bk.length-1,by have:=h.len; omega⟩
 have hx:c.bk[n]? =some (c.bk[n]'om):=fZ om
 have hb:=h.vw hx
 have ho:=vM h.sX ha hb.1
 have A:=Bn h ha n
 rw [← n8 (k:=n+1) om,kp hx]
 unfold mm
 simp only
 omega
/-- as time goes on, time and what a clock may be ahead, together, never go back -/
theorem EB {c:aT} (h:fG c) {a b:Int} (ha:0≤a) (hab:a≤b) (hb:b≤90000000): ∀ k:Nat,(a+(g0 c a k).Lo≤b+(g0 c b k).Lo∨(g0 c a k).Lo= -1099511627776)∧a+(g0 c a k).Hi≤b+(g0 c b k).Hi:=by
 have step: ∀ (x:cE),0≤x.At∧x.At≤86400000→ ∀ a b:Int,0≤a→a≤b→b≤90000000→tw c a x≤tw c b x+(b-a)∧tw c b x≤tw c a x+(b-a):=by
  intro x hx a b ha hab hb
  have hd:=h.sX
  have e: ∀ u v:Int,u≤v+1000000*(b-a)→o_ u 1000000≤o_ v 1000000+(b-a):=by intro u v C; unfold o_; omega
  have m: ∀ p q:Int,p≤q+(b-a)→c.dA*p≤c.dA*q+1000000*(b-a):=by
   intro p q A
   have D:c.dA*p≤c.dA*(q+(b-a)):=Int.mul_le_mul_of_nonneg_left A hd.1
   have E:c.dA*(q+(b-a))=c.dA*q+c.dA*(b-a):=Int.mul_add _ _ _
   have F:c.dA*(b-a)≤1000*(b-a):=Int.mul_le_mul_of_nonneg_right hd.2 om
   omega
  exact ⟨e _ _ (m _ _ om),e _ _ (m _ _ om)⟩
 intro k
 induction k with
 |zero=>simp [g0]; omega
 |succ k ih=>
  cases hx:c.bk[k]? with
  |none=>
   have e: ∀ t,g0 c t (k+1)=g0 c t k:=fun t=>by unfold g0; rw [List.take_add_one,hx]; simp
   rw [e,e]; exact ih
  |some x=>
   have hs:=h.vw hx
   have:=step x hs.1 a b ha hab hb
   have B:=vM (at_:=a) h.sX ⟨ha,om⟩ hs.1
   rw [kp hx,kp hx]
   unfold mm
   simp only
   omega
theorem wo {c:aT} (h:fG c) {a b:Int} (ha:0≤a) (hab:a≤b) (hb:b≤90000000):a+(iS c a).Lo≤b+(iS c b).Lo∧a+(iS c a).Hi≤b+(iS c b).Hi:=by
 have A:=EB h ha hab hb c.bk.length
 have B:=rK h (at_:=a) ⟨ha,om⟩
 rw [n8 (Nat.le_refl _),n8 (Nat.le_refl _)] at A
 omega
noncomputable def mN (l:bq) (i:Nat):Int:=match l.aj[i]? with
 |some b=>if i=0 then (LH l.bL b.lg).Lo else (match l.aj[i-1]? with
  |some a=>(kl l.bL a.lg b.lg).Lo
  |none=>0)
 |none=>0
theorem zf {l:bq} {b:cO} (h:l.aj[0]? =some b):mN l 0=(LH l.bL b.lg).Lo:=by unfold mN; rw [h]; rfl
theorem Cd {l:bq} {i:Nat} {a b:cO} (hi:0<i) (h:l.aj[i]? =some b) (ha:l.aj[i-1]? =some a):mN l i=(kl l.bL a.lg b.lg).Lo:=by unfold mN; rw [h,ha]; simp only; rw [if_neg om]
def kh (l:bq) (b:cO):Prop:=fT l.bL b.lg∧0≤b.jS∧b.jS<(l.aG.length:Int)
def eL (l:bq):Prop:=(1≤l.gl∧l.gl≤5000)∧(1≤(l.aG.length:Int)∧(l.aG.length:Int)≤4)∧(1≤(l.aj.length:Int)∧(l.aj.length:Int)≤6)∧(0≤l.bU∧l.bU≤(l.aj.length:Int)-1)∧(0≤l.ew∧l.ew≤3)∧0≤l.cU∧l.cU≤3
structure mH (l:bq):Prop where
 head:eL l
 clock: ∀ c∈l.aG,fG c
 v_: ∀ b∈l.aj,kh l b
 P3: ∀ i,i<l.aj.length→1≤mN l i
noncomputable instance (l:bq):Decidable (mH l):=Classical.propDecidable _
noncomputable def e_ (l:bq):Int:=if dB l.bL=true then (if mH l then 0 else 50) else 10
theorem zo {l:bq} (h:dB l.bL=false):e_ l=10:=by unfold e_; rw [h]; rfl
theorem rl {l:bq} (h:dB l.bL=true) (h2: ¬ mH l):e_ l=50:=by unfold e_; rw [if_pos h,if_neg h2]
theorem CF {l:bq} (h:dB l.bL=true) (h2:mH l):e_ l=0:=by unfold e_; rw [if_pos h,if_pos h2]
theorem dw {l:bq} (h:e_ l=0):dB l.bL=true∧mH l:=by
 unfold e_ at h
 split at h
 ·split at h
  ·exact ⟨asm,asm⟩
  ·omega
 ·omega
theorem CE {l:bq} (ht:dB l.bL=true) (hb: ∀ b∈l.aj,kh l b) (i:Nat): -400000≤mN l i∧mN l i≤400000:=by
 have A:=kq ht
 have hl:=lv ht
 unfold mN
 cases h:l.aj[i]? with
 |none=>simp
 |some b=>
  have B:=(hb b (aP h)).1
  simp only
  split
  ·have:=QT A hl B; omega
  ·cases h2:l.aj[i-1]? with
   |none=>simp
   |some a=>
    have C:=(hb a (aP h2)).1
    have:=yM A hl C B
    simp only; omega
def qz (l:bq) (s:aH):aT:=((l.aj[s.fI.toNat]?).bind fun b=>l.aG[b.jS.toNat]?).getD ⟨0,[]⟩
def iB (c:aT) (r t:Int):Bool:=decide (r≤t+(iS c t).Hi)
def iE (c:aT) (r t:Int):Bool:=decide (r<t+(iS c t).Lo)
noncomputable def B5 (c:aT) (r:Int):ai:=⟨gE (iB c r) 86400001,gE (iE c r) 86400001-1⟩
noncomputable def dq (l:bq) (s:aH):ai:=B5 (qz l s) s.Read
noncomputable def eH (l:bq) (i:Nat):Int:=o_ (1000*mN l i) l.gl
abbrev o7 (l:bq) (kA:Option Addr) (az:List RA) (cA bA:Option Addr):List ay:=[(rd kA l.bL.length 9 (l.bL.map aD.cells)),(rd cA l.aG.length 2 (List.zipWith aT.cells l.aG az)),(iH (bK aT.jU l.aG az)),(rd bA l.aj.length 4 (l.aj.map cO.cells))]
end
section
open Go.RowKit
def Bg (n:Int):Int:=IntKind.i64.wrap n
theorem Ab {n:Int} (h:rR n):Bg n=n:=oI h
theorem QW (n:Int): -9223372036854775808≤Bg n∧Bg n≤9223372036854775807:=by
 unfold Bg
 rw [IntKind.wrap_i64]
 omega
section
variable {P:Program} {t:TypeId} {x y:Operand} {a b:Int}
theorem PS:gR P .add t x y (.int .i64 a) (.int .i64 b) (.int .i64 (Bg (a+b))):=fun w=>by simp [eqGuard_add,binOp_add,Op.intArith,Bg]
theorem J_:gR P .sub t x y (.int .i64 a) (.int .i64 b) (.int .i64 (Bg (a-b))):=fun w=>by simp [eqGuard_sub,binOp_sub,Op.intArith,Bg]
theorem Pu:gR P .mul t x y (.int .i64 a) (.int .i64 b) (.int .i64 (Bg (a*b))):=fun w=>by simp [eqGuard_mul,binOp_mul,Op.intArith,Bg]
end
/-- divided, and rounded up, as it comes out -/
def S5 (n by_:Int):Int:=(Bg (Bg (n+by_)-1)).tdiv by_
theorem PC {a b:Int} (ha: -9223372036854775808≤a∧a≤9223372036854775807) (hb:2≤b):rR (a.tdiv b):=by
 have A:a.tdiv b=a/b+if a % b≠0∧a<0 then 1 else 0:=by
  rcases Int.lt_or_le a 0 with h|h
  ·rw [Int.tdiv_eq_ediv]
   have:b.sign=1:=Int.sign_eq_one_of_pos om
   rw [this]
   by_cases hd:b∣a
   ·have:a % b=0:=Int.emod_eq_zero_of_dvd hd
    simp [hd,this]
   ·have:a % b≠0:=fun e=>hd (Int.dvd_of_emod_eq_zero e)
    have hn: ¬ 0≤a:=by omega
    simp [hd,this,h,hn]
  ·rw [Int.tdiv_eq_ediv_of_nonneg h]
   have: ¬ a<0:=by omega
   simp [this]
 have B:a/b*b+a % b=a:=by rw [Int.mul_comm]; exact Int.mul_ediv_add_emod a b
 have C:0≤a % b:=Int.emod_nonneg _ om
 have D:a % b<b:=Int.emod_lt_of_pos _ om
 have E: -9223372036854775808≤a/b∧a/b≤4611686018427387904:=by
  constructor
  ·refine Int.le_ediv_of_mul_le om ?_
   have:(-9223372036854775808:Int)*b≤ -9223372036854775808*1:=Int.mul_le_mul_of_nonpos_left om om
   omega
  ·refine Int.ediv_le_of_le_mul om ?_
   have:(4611686018427387904:Int)*2≤4611686018427387904*b:=Int.mul_le_mul_of_nonneg_left hb om
   omega
 rw [A]
 unfold rR
 split<;>omega
theorem PB {n by_:Int} (h0:0≤n) (h1:n≤1000000000000000000) (hb:1≤by_∧by_≤1000000000000):S5 n by_=(n+by_-1)/by_:=by
 unfold S5
 rw [Ab (show rR (n+by_) from ⟨om,om⟩),Ab (show rR (n+by_-1) from ⟨om,om⟩),Int.tdiv_eq_ediv_of_nonneg om]
end
section
def mP (c:aT) (i:Nat) (x:cE) (k:Nat):Prop:=fX c i x∧ ∀ (j:Nat) o,j<k→c.bk[j]? =some o→o3 c x o
def tD (c:aT) (n:Nat):Prop:= ∀ (i:Nat) x,i<n→c.bk[i]? =some x→mP c i x i
noncomputable instance (c:aT) (i:Nat) (x:cE) (k:Nat):Decidable (mP c i x k):=Classical.propDecidable _
instance (c:aT) (i:Nat) (x:cE):Decidable (fX c i x):=by unfold fX; infer_instance
theorem DS {c:aT} {i:Nat} {x:cE}:mP c i x 0↔fX c i x:=⟨fun h=>h.1,fun h=>⟨h,fun j o hj=>by omega⟩⟩
theorem ti {c:aT} {i k:Nat} {x o:cE} (h:c.bk[k]? =some o):mP c i x (k+1)↔mP c i x k∧o3 c x o:=by
 constructor
 ·intro hr
  exact ⟨⟨hr.1,fun j o' hj ho=>hr.2 j o' om ho⟩,hr.2 k o om h⟩
 ·rintro ⟨hr,hp⟩
  refine ⟨hr.1,fun j o' hj ho=>?_⟩
  by_cases e:j=k
  ·subst e; rw [h] at ho; cases ho; exact hp
  ·exact hr.2 j o' om ho
theorem Hd {c:aT}:tD c 0:=fun i x hi=>by omega
theorem GB {c:aT} {i:Nat} {x:cE} (h:tD c i) (hx:c.bk[i]? =some x) (hr:mP c i x i):tD c (i+1):=fun j y hj hy=>by
 by_cases e:j=i
 ·subst e; rw [hx] at hy; cases hy; exact hr
 ·exact h j y om hy
theorem KX {c:aT} {i:Nat} {x:cE} (hx:c.bk[i]? =some x) (h: ¬ mP c i x i): ¬ fG c:=fun hc=>h ⟨hc.sync i x hx,fun j o hj ho=>hc.pair i j x o hx hj ho⟩
theorem Hn {c:aT} (h1:0≤c.dA∧c.dA≤1000) (h2:1≤c.bk.length∧c.bk.length≤5) (h:tD c c.bk.length):fG c:=
 ⟨h1,h2,fun i x hx=>(h i x (aZ.1 hx).1 hx).1,fun i k x o hx hk ho=>(h i x (aZ.1 hx).1 hx).2 k o hk ho⟩
/-- syncs so far -/
theorem vD {c:aT} {n:Nat} (h: ∀ (i:Nat) x,i<n→c.bk[i]? =some x→fX c i x): ∀ (i:Nat) x,i<n→c.bk[i]? =some x→0≤x.At∧ ∀ (k:Nat) o,k<i→c.bk[k]? =some o→o.At<x.At:=by
 intro i
 induction i with
 |zero=>
  intro x hn hx
  have:=(h 0 x hn hx).1.1
  rw [g_ rfl] at this
  exact ⟨om,fun k o hk=>by omega⟩
 |succ i ih=>
  intro x hn hx
  have hi:=(aZ.1 hx).1
  have hy:c.bk[i]? =some (c.bk[i]'om):=fZ om
  have B:=ih _ om hy
  have A:=(h (i+1) x hn hx).1.1
  rw [oz hy] at A
  refine ⟨om,fun k o hk ho=>?_⟩
  by_cases e:k=i
  ·subst e; rw [hy] at ho; cases ho; exact A
  ·have:=B.2 k o om ho; omega
theorem JA {c:aT} {i:Nat} (hi:i≤c.bk.length) (h: ∀ (j:Nat) y,j<i→c.bk[j]? =some y→fX c j y): -1≤kN c i∧kN c i≤86400000:=by
 cases i with
 |zero=>rw [g_ rfl]; omega
 |succ i=>
  have hy:c.bk[i]? =some (c.bk[i]'om):=fZ om
  have A:=(vD (n:=i+1) h i _ om hy).1
  have B:=(h i _ om hy).1.2
  rw [oz hy]; omega
theorem OZ {c:aT} {i:Nat} (hi:i≤c.bk.length) (h:tD c i): -1≤kN c i∧kN c i≤86400000:=JA hi fun j y hj hy=>(h j y hj hy).1
theorem vE {c:aT} {i k:Nat} {x o:cE} (hs: ∀ (j:Nat) y,j<i→c.bk[j]? =some y→fX c j y) (hx:c.bk[i]? =some x) (hok:fX c i x) (hk:k<i) (ho:c.bk[k]? =some o):
 (0≤o.At∧o.At<x.At∧x.At≤86400000)∧(-10000≤x.d_.Lo∧x.d_.Lo≤x.d_.Hi∧x.d_.Hi≤10000)∧ -10000≤o.d_.Lo∧o.d_.Lo≤o.d_.Hi∧o.d_.Hi≤10000:=by
 have h: ∀ (j:Nat) y,j<i+1→c.bk[j]? =some y→fX c j y:=fun j y hj hy=>by
  by_cases e:j=i
  ·subst e; rw [hx] at hy; cases hy; exact hok
  ·exact hs j y om hy
 have A:=(vD h i x om hx).2 k o hk ho
 have B:=(vD h k o om ho).1
 exact ⟨⟨B,A,hok.1.2⟩,hok.2,(h k o om ho).2⟩
theorem NP {d a b:Int} (hd:0≤d∧d≤1000) (h:0≤b∧b<a∧a≤86400000):S5 (Bg (d*Bg (a-b))) 1000000=o_ (d*(a-b)) 1000000:=by
 have C:0≤d*(a-b)∧d*(a-b)≤90000000000:=by
  have:=PQ (a:=d) (b:=a-b) (A:=1000) (B:=90000000) hd.1 hd.2 om om
  omega
 rw [Ab (show rR (a-b) from ⟨om,om⟩),Ab (show rR (d*(a-b)) from ⟨om,om⟩),PB C.1 om om]
 rfl
/-- what is asked of a line, however wrong it is -/
structure ed (l:bq) (asl:List RA):Prop where
 qI:l.bL.length≤1000000
 side: ∀ x∈l.bL,0≤x.ja∧x.ja≤255
 qG:l.aG.length≤1000000
 lS:asl.length=l.aG.length
 qD:l.aj.length≤1000000
 QI: ∀ (k:Nat) m (a:RA),l.aG[k]? =some m→asl[k]? =some a→m.bk.length≤a.2∧m.bk.length≤1000000
noncomputable instance (l:bq):Decidable (eL l):=by unfold eL; infer_instance
noncomputable instance (l:bq) (b:cO):Decidable (kh l b):=Classical.propDecidable _
theorem zP {l:bq} (h:eL l) (h2: ∀ c∈l.aG,fG c) (h3: ∀ b∈l.aj,kh l b) (h4: ∀ i,i<l.aj.length→1≤mN l i):mH l:=⟨h,h2,h3,h4⟩
theorem Eo {l:bq}:((!(l.aG.any fun m=> !decide (fG m)))=true)↔ ∀ c∈l.aG,fG c:=by simp
theorem Hu {l:bq}:((!(l.aj.any fun b=> !decide (kh l b)))=true)↔ ∀ b∈l.aj,kh l b:=by simp
theorem lI {c:aT} (h:fG c) {r x:Int} (h0:0≤x) (h1:x<86400001):
 (x<gE (iB c r) 86400001→iB c r x=false)∧(gE (iB c r) 86400001≤x→iB c r x=true)∧(x<gE (iE c r) 86400001→iE c r x=false)∧(gE (iE c r) 86400001≤x→iE c r x=true):=by
 have up: ∀ (q:Int→Bool),(∀ a b,0≤a→a≤b→b<86400001→q a=true→q b=true)→gE q 86400001≤x→q x=true:=fun q hq hx=>by
  have hb:=jk (p:=q) (n:=86400001)
  exact hq _ _ hb.1 hx h1 (GU om)
 refine ⟨zA h0,up _ fun a b ha A hb hq=>?_,zA h0,up _ fun a b ha A hb hq=>?_⟩
 ·have:=wo h ha A om
  simp only [iB,decide_eq_true_eq] at hq ⊢; omega
 ·have:=wo h ha A om
  simp only [iE,decide_eq_true_eq] at hq ⊢; omega
theorem xh {l:bq} {s:aH} {b:cO} {c:aT} (hb:l.aj[s.fI.toNat]? =some b) (hc:l.aG[b.jS.toNat]? =some c):qz l s=c:=by
 unfold qz; rw [hb]; simp only [Option.bind_some]; rw [hc]; rfl
end
section
def mj (sg:List aH) (i:Nat):aH:=if i=0 then ⟨-1,0⟩ else (sg[i-1]?).getD ⟨-1,0⟩
theorem kg {sg:List aH} {i:Nat} {s:aH} (h:sg[i]? =some s):mj sg (i+1)=s:=by unfold mj; rw [if_neg om,Nat.add_sub_cancel,h]; rfl
def j2 (l:bq) (s:aH):Prop:=(0≤s.fI∧s.fI≤(l.aj.length:Int)-1)∧0≤s.Read∧s.Read≤86400000
def jB (l:bq) (sg:List aH) (i:Nat) (s:aH):Prop:=j2 l s∧ ¬ s.fI<(mj sg i).fI∧ ¬ (s.fI=(mj sg i).fI∧s.Read≤(mj sg i).Read)
def o1 (l:bq) (sg:List aH) (i:Nat):Prop:= ∀ (j:Nat) s,j<i→sg[j]? =some s→jB l sg j s
structure fW (l:bq) (r:cQ):Prop where
 time:0≤r.Start∧r.Start≤r.gL∧r.gL≤86400000
 len:r.aa.length≤10
 sig: ∀ (i:Nat) s,r.aa[i]? =some s→jB l r.aa i s
noncomputable instance (l:bq) (r:cQ):Decidable (fW l r):=Classical.propDecidable _
theorem v9 {l:bq} {sg:List aH}:o1 l sg 0:=fun j s hj=>absurd hj (Nat.not_lt_zero _)
theorem jC {l:bq} {sg:List aH} {i:Nat} {s:aH} (h:o1 l sg i) (hs:sg[i]? =some s) (ho:jB l sg i s):o1 l sg (i+1):=fun j z hj hz=>by
 rcases Nat.lt_or_ge j i with q|q
 ·exact h j z q hz
 ·obtain rfl:j=i:=by omega
  rw [hs] at hz; cases hz; exact ho
theorem xz {l:bq} {r:cQ} {i:Nat} (h1:0≤r.Start∧r.Start≤r.gL∧r.gL≤86400000) (h2:r.aa.length≤10) (h:o1 l r.aa i) (hi:r.aa.length≤i):fW l r:=
 ⟨h1,h2,fun j s hs=>h j s (by have:=(aZ.1 hs).1; omega) hs⟩
noncomputable def ub (l:bq) (sg:List aH) (b k:Nat):Option (Int×ai):=(sg[k]?).bind fun s=>if s.fI=(b:Int)∧(dq l s).Lo≤(dq l s).Hi then some ((k:Int),dq l s) else none
noncomputable def o8 (l:bq) (sg:List aH) (i b:Nat):TM:=(List.range i).filterMap (ub l sg b)
noncomputable def cM (l:bq) (sg:List aH) (i:Nat):List TM:=(List.range l.aj.length).map (o8 l sg i)
noncomputable def cp (l:bq) (n:Nat):List Int:=(List.range n).map (eH l)
theorem q9 {l:bq} {n:Nat}:cp l (n+1)=cp l n++[eH l n]:=by simp [cp,List.range_succ]
theorem dy {l:bq} {n:Nat}:(cp l n).length=n:=by simp [cp]
theorem gW {l:bq} {sg:List aH} {i:Nat}:(cM l sg i).length=l.aj.length:=by simp [cM]
theorem pt {l:bq} {sg:List aH} {i b:Nat} (h:b<l.aj.length):(cM l sg i)[b]? =some (o8 l sg i b):=by simp [cM,h]
theorem qs {l:bq} {sg:List aH} {b k:Nat} {q:Int×ai}:ub l sg b k=some q↔ ∃ s,sg[k]? =some s∧(s.fI=(b:Int)∧(dq l s).Lo≤(dq l s).Hi)∧q=((k:Int),dq l s):=by
 unfold ub
 cases h:sg[k]? with
 |none=>simp
 |some s=>
  simp only [Option.bind_some,Option.some.injEq]
  by_cases e:s.fI=(b:Int)∧(dq l s).Lo≤(dq l s).Hi
  ·rw [if_pos e]
   constructor
   ·intro h; cases h; exact ⟨s,rfl,e,rfl⟩
   ·rintro ⟨s',rfl,_,rfl⟩; rfl
  ·rw [if_neg e]
   constructor
   ·intro h; cases h
   ·rintro ⟨s',rfl,e',_⟩; exact absurd e' e
theorem tF {l:bq} {sg:List aH} {i b:Nat} {q:Int×ai}:q∈o8 l sg i b↔ ∃ k,k<i∧ ∃ s,sg[k]? =some s∧(s.fI=(b:Int)∧(dq l s).Lo≤(dq l s).Hi)∧q=((k:Int),dq l s):=by
 unfold o8
 simp only [List.mem_filterMap,List.mem_range,qs]
theorem rI {l:bq} {sg:List aH} {i b:Nat}:o8 l sg (i+1) b=o8 l sg i b++(ub l sg b i).toList:=by
 unfold o8
 rw [List.range_succ,List.filterMap_append]
 congr 1
theorem xS {l:bq} {sg:List aH}:cM l sg 0=List.replicate l.aj.length []:=by
 unfold cM
 rw [List.eq_replicate_iff]
 refine ⟨sm,fun t ht=>?_⟩
 obtain ⟨b,_,rfl⟩:=db.1 ht
 rfl
theorem qn {l:bq} {sg:List aH} {i:Nat} {s:aH} (hs:sg[i]? =some s) (h: ¬ (dq l s).Lo≤(dq l s).Hi):cM l sg (i+1)=cM l sg i:=by
 unfold cM
 apply List.map_congr_left
 intro b _
 rw [rI]
 have:ub l sg b i=none:=by
  cases e:ub l sg b i with
  |none=>rfl
  |some q=>obtain ⟨s',A,⟨_,B⟩,_⟩:=qs.1 e; rw [hs] at A; cases A; exact absurd B h
 rw [this]; simp
theorem sG {l:bq} {sg:List aH} {i:Nat} {s:aH} (hs:sg[i]? =some s) (hb:0≤s.fI∧s.fI≤(l.aj.length:Int)-1) (h:(dq l s).Lo≤(dq l s).Hi) {x:TM} (hx:(cM l sg i)[s.fI.toNat]? =some x):
 (cM l sg i).set s.fI.toNat (eC x (i:Int) (dq l s))=cM l sg (i+1):=by
 have A:s.fI.toNat<l.aj.length:=by omega
 rw [pt A] at hx
 cases hx
 have B:eC (o8 l sg i s.fI.toNat) (i:Int) (dq l s)=o8 l sg (i+1) s.fI.toNat:=by
  have hn:(o8 l sg i s.fI.toNat).lookup (i:Int)=none:=iM.2 fun p hp e=>by
   obtain ⟨k,hk,_,_,_,rfl⟩:=tF.1 hp
   simp only at e; omega
  have ho:ub l sg s.fI.toNat i=some ((i:Int),dq l s):=qs.2 ⟨s,hs,⟨om,h⟩,rfl⟩
  rw [rI,ho]
  unfold eC; rw [hn]; rfl
 rw [B]
 apply List.ext_getElem?
 intro b
 rw [List.getElem?_set]
 by_cases e:s.fI.toNat=b
 ·rw [if_pos e,gW,← e,if_pos A,pt A]
 ·rw [if_neg e]
  by_cases hb':b<l.aj.length
  ·rw [pt hb',pt hb',rI]
   have:ub l sg b i=none:=by
    cases e2:ub l sg b i with
    |none=>rfl
    |some q=>obtain ⟨s',C,⟨D,_⟩,_⟩:=qs.1 e2; rw [hs] at C; cases C; exact absurd om e
   rw [this]; simp
  ·rw [List.getElem?_eq_none (by rw [gW]; omega),List.getElem?_eq_none (by rw [gW]; omega)]
noncomputable def di (l:bq) (r:cQ):cq:=⟨r.Start,r.gL,cp l l.aj.length,cM l r.aa r.aa.length,l.cU,l.ew,(r.aa.length:Int)⟩
theorem It {l:bq} (ht:dB l.bL=true) (h:mH l) {i:Nat} (hi:i<l.aj.length):1≤eH l i∧eH l i≤500000000:=by
 have A:=CE ht h.v_ i
 have B:=h.P3 i hi
 have C:=h.head.1
 unfold eH o_
 refine ⟨(Int.le_ediv_iff_mul_le om).2 om,?_⟩
 have:(1000*mN l i+l.gl-1)/l.gl≤1000*mN l i+l.gl-1:=Int.ediv_le_self _ om
 omega
theorem Mk (l:bq) (s:aH):0≤(dq l s).Lo∧(dq l s).Hi≤86400000:=by
 have A:=jk (p:=iB (qz l s) s.Read) (n:=86400001)
 have B:=jk (p:=iE (qz l s) s.Read) (n:=86400001)
 unfold dq B5
 simp only
 omega
theorem mT {l:bq} {r:cQ} (ht:dB l.bL=true) (h:mH l) (hr:fW l r):Gu (di l r):=by
 have hh:=h.head
 unfold eL at hh
 refine ⟨?_,by simp [di,gW,cq.n,dy],hr.time,fun x hx=>?_,fun t A p hp=>?_⟩
 ·show (cp l l.aj.length).length≤6
  rw [dy]; omega
 ·obtain ⟨i,hi,rfl⟩:=db.1 hx
  exact It ht h (List.mem_range.1 hi)
 ·obtain ⟨b,hb,rfl⟩:=db.1 A
  obtain ⟨k,hk,s,hs,⟨_,B⟩,rfl⟩:=tF.1 hp
  have C:=Mk l s
  have D:=hr.len
  simp only
  omega
noncomputable def fq (l:bq) (r:cQ) (me:Int):Int:=if e_ l=0 then (if fW l r then (if me=0 then (if lY (di l r)=[] then 8 else 0) else me) else 51) else e_ l
theorem iQ {l:bq} {r:cQ} {me:Int} (h: ¬ e_ l=0):fq l r me=e_ l:=if_neg h
theorem ep {l:bq} {r:cQ} {me:Int} (h:e_ l=0) (h2: ¬ fW l r):fq l r me=51:=by unfold fq; rw [if_pos h,if_neg h2]
theorem lO {l:bq} {r:cQ} {me:Int} (h:e_ l=0) (h2:fW l r) (h3: ¬ me=0):fq l r me=me:=by unfold fq; rw [if_pos h,if_pos h2,if_neg h3]
theorem tJ {l:bq} {r:cQ} {me:Int} (h:e_ l=0) (h2:fW l r) (h3:me=0) (h4:lY (di l r)=[]):fq l r me=8:=by unfold fq; rw [if_pos h,if_pos h2,if_pos h3,if_pos h4]
theorem vC {l:bq} {r:cQ} {me:Int} (h:e_ l=0) (h2:fW l r) (h3:me=0) (h4: ¬ lY (di l r)=[]):fq l r me=0:=by unfold fq; rw [if_pos h,if_pos h2,if_pos h3,if_neg h4]
theorem iD {l:bq} {r:cQ} {me:Int} (h:fq l r me=0):e_ l=0∧fW l r∧me=0∧ ¬ lY (di l r)=[]:=by
 unfold fq at h
 split at h
 ·split at h
  ·split at h
   ·split at h
    ·omega
    ·exact ⟨asm,asm,asm,asm⟩
   ·omega
  ·omega
 ·omega
end
section
def qb (l:List Int):Int:=(l.drop 1).foldl min (l.headD 0)
theorem IX {l:List Int} {i:Nat} {x:Int} (h:l[i]? =some x) (hi:1≤i):qb (l.take (i+1))=min (qb (l.take i)) x:=by
 have e:l.take (i+1)=l.take i++[x]:=by rw [List.take_add_one,h]; rfl
 have hl:1≤(l.take i).length:=by have:=(aZ.1 h).1; rw [List.length_take]; omega
 rw [e]
 cases ht:l.take i with
 |nil=>rw [ht] at hl; simp at hl
 |cons y ys=>simp [qb,List.foldl_append]
theorem Ht {l:List Int} {x:Int} (h:l[0]? =some x):qb (l.take 1)=x:=by
 cases l with
 |nil=>simp at h
 |cons y ys=>simp at h; subst h; simp [qb]
theorem BC: ∀ (l:List Int) (a:Int),(l.foldl min a=a∨l.foldl min a∈l)∧l.foldl min a≤a∧ ∀ x∈l,l.foldl min a≤x
 |[],a=>⟨.inl rfl,sm,sm⟩
 |y::l,a=>by
  obtain ⟨A,C,B⟩:=BC l (min a y)
  simp only [List.foldl_cons]
  refine ⟨?_,om,?_⟩
  ·rcases A with A|A
   ·rw [A]
    rcases Int.le_total a y with q|q
    ·left; omega
    ·right; rw [show min a y=y by omega]; simp
   ·right; exact dH _ A
  ·intro x hx
   rcases cm.1 hx with rfl|hx
   ·omega
   ·exact B x hx
theorem NV {l:List Int} (h:l≠[]):qb l∈l∧ ∀ x∈l,qb l≤x:=by
 cases l with
 |nil=>exact absurd rfl h
 |cons y ys=>
  obtain ⟨A,B,C⟩:=BC ys y
  refine ⟨?_,fun x hx=>?_⟩
  ·rcases A with A|A
   ·simp [qb,A]
   ·exact dH _ (by simpa [qb] using A)
  ·rcases cm.1 hx with rfl|hx
   ·simpa [qb] using B
   ·simpa [qb] using C x hx
noncomputable def hH (l:bq) (r:cQ):List Int:=if fq l r 0=0 then lY (di l r) else []
theorem si {l:bq} {r:cQ} (h:fq l r 0=0):hH l r=lY (di l r):=if_pos h
theorem pk {l:bq} {r:cQ} (h: ¬ fq l r 0=0):hH l r=[]:=if_neg h
theorem zp {l:bq} {r:cQ} (h:fq l r 0=0):hH l r≠[]:=by rw [si h]; exact (iD h).2.2.2
theorem xj {l:bq} {r:cQ} (h:fq l r 0=0):1≤(hH l r).length:=List.length_pos_iff.2 (zp h)
theorem Ey {l:bq} {r:cQ}:(hH l r).length≤100:=by
 unfold hH
 split
 ·rename_i h
  obtain ⟨A,B,_⟩:=iD h
  obtain ⟨ht,ho⟩:=dw A
  have:=(mT ht ho B).n
  have C:=oa (w:=di l r) (k:=(di l r).n+1)
  unfold lY; omega
 ·simp
noncomputable def fQ (l:bq) (b:Int):Int:=if 0≤b∧b≤(l.aj.length:Int)-1 then 0 else 2
theorem mV {l:bq} {b:Int} (h:0≤b∧b≤(l.aj.length:Int)-1):fQ l b=0:=if_pos h
theorem DU {l:bq} {b:Int} (h:fQ l b=0):0≤b∧b≤(l.aj.length:Int)-1:=by
 unfold fQ at h
 split at h
 ·assumption
 ·omega
noncomputable def n7 (l:bq) (r:cQ) (b:Nat):ai:=yH (te (di l r) b)
noncomputable def eA (l:bq) (r:cQ) (b:Int):Int:=if fq l r (fQ l b)=0 then (if n7 l r b.toNat=nv then 6 else 0) else fq l r (fQ l b)
noncomputable def dD (l:bq) (r:cQ) (b:Int):ai:=if eA l r b=0 then n7 l r b.toNat else hZ
theorem dK {l:bq} {r:cQ} {b:Int} (h: ¬ fq l r (fQ l b)=0):eA l r b=fq l r (fQ l b)∧dD l r b=hZ:=by
 have e:eA l r b=fq l r (fQ l b):=if_neg h
 exact ⟨e,by unfold dD; rw [if_neg (by rw [e]; exact h)]⟩
theorem rz {l:bq} {r:cQ} {b:Nat} (h:fq l r (fQ l b)=0) (h2:n7 l r b=nv):eA l r b=6∧dD l r b=hZ:=by
 have e:eA l r b=6:=by unfold eA; rw [if_pos h,Int.toNat_natCast,if_pos h2]
 exact ⟨e,by unfold dD; rw [if_neg (by rw [e]; omega)]⟩
theorem rJ {l:bq} {r:cQ} {b:Nat} (h:fq l r (fQ l b)=0) (h2: ¬ n7 l r b=nv):eA l r b=0∧dD l r b=n7 l r b:=by
 have e:eA l r b=0:=by unfold eA; rw [if_pos h,Int.toNat_natCast,if_neg h2]
 exact ⟨e,by unfold dD; rw [if_pos e,Int.toNat_natCast]⟩
theorem Is {w:cq} (h:Gu w) {b:Nat} {q:Int×ai} (hq:q∈te w b):0≤q.2.Lo∧q.2.Lo≤q.2.Hi∧q.2.Hi≤86400000:=by
 have A:=oK hq
 obtain ⟨o,ho,p,hp,u,hu,e⟩:=jF.1 hq
 obtain ⟨_,_,rfl⟩:=lj.1 e
 have B:=h.opt ho
 simp only [lE] at A ⊢
 omega
theorem vb {l:bq} {r:cQ} {b:Int} (h:eA l r b=0):0≤(dD l r b).Lo∧(dD l r b).Lo≤(dD l r b).Hi∧(dD l r b).Hi≤86400000:=by
 have ho:fq l r (fQ l b)=0:=by
  by_cases e:fq l r (fQ l b)=0
  ·exact e
  ·rw [(dK e).1] at h; exact absurd h e
 obtain ⟨B,C,_⟩:=iD ho
 obtain ⟨ht,A⟩:=dw B
 have hw:=mT ht A C
 have hv:dD l r b=n7 l r b.toNat:=by unfold dD; rw [if_pos h]
 have hn:n7 l r b.toNat≠nv:=fun e=>by unfold eA at h; rw [if_pos ho,if_pos e] at h; omega
 have hh:=vy (l:=te (di l r) b.toNat) fun q hq=>oK hq
 rw [hv]
 unfold n7 at hn ⊢
 rcases hh with ⟨_,e⟩|hh
 ·exact absurd e hn
 ·obtain ⟨x,hx,ex⟩:=hh.lo
  obtain ⟨y,hy,ey⟩:=hh.hi
  have:=Is hw hx
  have:=Is hw hy
  have:=hh.le
  omega
noncomputable def Bt (l:bq) (r:cQ):ai:=if eA l r l.bU=0 then ⟨(dD l r l.bU).Lo-r.Start,(dD l r l.bU).Hi-r.Start⟩ else hZ
theorem D4 {l:bq} {r:cQ} (h:eA l r l.bU=0):Bt l r=⟨(dD l r l.bU).Lo-r.Start,(dD l r l.bU).Hi-r.Start⟩:=if_pos h
theorem Dw {l:bq} {r:cQ} (h: ¬ eA l r l.bU=0):Bt l r=hZ:=if_neg h
theorem rF {l:bq} {r:cQ} {b:Int} (h:eA l r b=0):fW l r:=by
 by_cases e:fq l r (fQ l b)=0
 ·exact (iD e).2.1
 ·rw [(dK e).1] at h; exact absurd h e
theorem zN {k:List (Int×ai)} {h:ai} {q:Int×ai} {z:ai} (hh:kM k h) (hq:q.2.Lo≤q.2.Hi) (hz:ng h q.2=z):kM (k++[q]) z:=by subst hz; exact vp hh hq
end
section
def lh (l:bq):Prop:=(20<(l.bL.length:Int)∨8<(l.aG.length:Int)∨10<(l.aj.length:Int))∨ ∃ c∈l.aG,10<(c.bk.length:Int)
noncomputable instance (l:bq):Decidable (lh l):=Classical.propDecidable _
/-- what is asked of a line that comes in -/
structure vc (l:bq) (az:List RA):Prop where
 qI:l.bL.length≤9223372036854775807
 side: ∀ x∈l.bL,0≤x.ja∧x.ja≤255
 qG:l.aG.length≤9223372036854775807
 lS:az.length=l.aG.length
 qD:l.aj.length≤9223372036854775807
 QI: ∀ (k:Nat) m (a:RA),l.aG[k]? =some m→az[k]? =some a→m.bk.length≤a.2∧m.bk.length≤9223372036854775807
def AZ (l:bq) (i:Nat):Prop:= ∀ (j:Nat) c,j<i→l.aG[j]? =some c→(c.bk.length:Int)≤10
theorem H7 {l:bq} {i:Nat} (h: ¬ (20<(l.bL.length:Int))∧ ¬ (8<(l.aG.length:Int))∧ ¬ (10<(l.aj.length:Int))) (hi:l.aG.length≤i) (hs:AZ l i): ¬ lh l:=by
 rintro (A|⟨c,hc,B⟩)
 ·omega
 ·obtain ⟨k,hk⟩:=List.getElem?_of_mem hc
  have:=hs k c (by have:=(aZ.1 hk).1; omega) hk
  omega
theorem Ip {l:bq} {i:Nat} {c:aT} (hc:l.aG[i]? =some c) (h:10<(c.bk.length:Int)):lh l:= .inr ⟨c,aP hc,h⟩
theorem mK {α:Type} {l:List α} {P:Nat→α→Prop} {i:Nat} {x:α} (h: ∀ (j:Nat) y,j<i→l[j]? =some y→P j y) (hx:l[i]? =some x) (hp:P i x): ∀ (j:Nat) y,j<i+1→l[j]? =some y→P j y:=fun j y hj hy=>by
 by_cases e:j=i
 ·subst e; rw [hx] at hy; cases hy; exact hp
 ·exact h j y om hy
theorem yf {α:Type} {l:List α} {P:Nat→α→Prop} {i:Nat} (hi:l.length≤i) (h: ∀ (j:Nat) y,j<i→l[j]? =some y→P j y): ∀ (j:Nat) y,l[j]? =some y→P j y:=fun j y hy=>h j y (by have:=(aZ.1 hy).1; omega) hy
theorem w7 {α:Type} {l:List α} {P:α→Prop} {i:Nat} (hi:l.length≤i) (h: ∀ (j:Nat) y,j<i→l[j]? =some y→P y): ∀ y∈l,P y:=fun y hy=>by
 obtain ⟨k,hk⟩:=List.getElem?_of_mem hy
 exact yf (P:=fun _ y=>P y) hi h k y hk
theorem u6 {l:bq} (h: ¬ lh l):(l.bL.length:Int)≤20∧(l.aG.length:Int)≤8∧(l.aj.length:Int)≤10∧ ∀ c∈l.aG,(c.bk.length:Int)≤10:=by
 unfold lh at h
 rw [not_or] at h
 refine ⟨om,om,om,fun c hc=>?_⟩
 have:=h.2
 rcases Int.lt_or_le 10 (c.bk.length:Int) with q|q
 ·exact absurd ⟨c,hc,q⟩ this
 ·exact q
theorem vc.small {l:bq} {az:List RA} (h:vc l az) (hg: ¬ lh l):ed l az:=by
 have A:=u6 hg
 exact ⟨om,h.side,om,h.lS,om,fun k m a hm ha=>⟨(h.QI k m a hm ha).1,by have:=A.2.2.2 m (aP hm); omega⟩⟩
def FJ (c:aT) (x:cE) (k:Nat):Prop:= ∀ (j:Nat) o,j<k→c.bk[j]? =some o→o3 c x o
def ve (c:aT) (m:Nat):Prop:= ∀ (i:Nat) x,i<m→c.bk[i]? =some x→FJ c x i
theorem IP {c:aT} {m:Nat} (h1:0≤c.dA∧c.dA≤1000) (h2:1≤c.bk.length∧c.bk.length≤5) (hs: ∀ (i:Nat) x,c.bk[i]? =some x→fX c i x) (hm:c.bk.length≤m) (hp:ve c m):fG c:=
 ⟨h1,h2,hs,fun i k x o hx hk ho=>hp i x (by have:=(aZ.1 hx).1; omega) hx k o hk ho⟩
theorem DR {c:aT} {m k:Nat} (h:ve c m) (hk: ∀ y,c.bk[m]? =some y→FJ c y k) (e:k=m):ve c (m+1):=by
 subst e
 intro i x hi hx
 by_cases e:i=k
 ·subst e; exact hk x hx
 ·exact h i x om hx
noncomputable def lu (c:aT) (at_:Int) (i:Nat):ai:=if i=0 then hZ else g0 c at_ i
theorem D7 {c:aT} {at_:Int} {i:Nat} (h:fG c) (hi:c.bk.length≤i):lu c at_ i=iS c at_:=by
 have:=h.len
 unfold lu; rw [if_neg om,n8 hi]
theorem Ak {c:aT} {at_:Int} {i:Nat} {x:cE} (h:fG c) (ha:0≤at_∧at_≤90000000) (hx:c.bk[i]? =some x) (hi:i=0):
 lu c at_ (i+1)=⟨max (x.d_.Lo-tw c at_ x) (x.d_.Lo-tw c at_ x),min (x.d_.Hi+tw c at_ x) (x.d_.Hi+tw c at_ x)⟩:=by
 subst hi
 have hb:=h.vw hx
 have ho:=vM h.sX ha hb.1
 unfold lu
 rw [if_neg om,kp hx]
 unfold mm g0
 simp only [List.take_zero,List.foldl_nil,ai.mk.injEq]
 omega
theorem Cq {c:aT} {at_:Int} {i:Nat} {x:cE} (hx:c.bk[i]? =some x) (hi: ¬ i=0):lu c at_ (i+1)=⟨max (lu c at_ i).Lo (x.d_.Lo-tw c at_ x),min (lu c at_ i).Hi (x.d_.Hi+tw c at_ x)⟩:=by
 unfold lu
 rw [if_neg om,if_neg hi,kp hx]; rfl
def iO (ts:List aD) (n:Nat):List ai:=(List.range n).map fun k=>eV ts 0 k
theorem Cr {ts:List aD} {n:Nat}:iO ts (n+1)=iO ts n++[eV ts 0 n]:=by simp [iO,List.range_succ]
theorem o4 {ts:List aD} {n:Nat}:(iO ts n).length=n:=by simp [iO]
theorem qf {ts:List aD} {n k:Nat} {x:ai} (h:(iO ts n)[k]? =some x):x=eV ts 0 k:=by
 unfold iO at h
 rw [f_] at h
 cases hk:(List.range n)[k]? with
 |none=>simp [hk] at h
 |some v=>
  have:=aZ.1 hk
  simp at this
  simp [hk] at h
  rw [← h,← this.2]
theorem EI {ts:List aD} {a b:dg} (h:b.bw<a.bw):kl ts a b=oE (kl ts b a):=by
 unfold kl
 rw [if_pos h,if_neg om]
 unfold xn
 rw [Int.min_comm b.bw a.bw,Int.max_comm b.bw a.bw]
 unfold oE mW
 simp only [ai.mk.injEq]
 omega
theorem ru {ts:List aD} {a b:dg} (h: ¬ b.bw<a.bw):kl ts a b=mW (mW (eV ts a.bw.toNat (b.bw-a.bw).toNat) b.l9) (oE a.l9):=by
 unfold kl xn
 rw [if_neg h,Int.min_eq_left om,Int.max_eq_right om]
end
section
def lM (m:List aq) (a:bZ):List ay:=rd a.1.1 m.length 7 (List.zipWith aq.cells m a.2)::bK aq.jU m a.2
structure PI (h:List aq) (a:bZ):Prop where
 len:h.length≤1000000
 lS:a.2.length=h.length
 sig: ∀ d∈h,d.aV.aa.length≤1000000
structure iL (r:eU) (az:List RA) (ha:List bZ):Prop where
 line:ed r.au az
 fM:r.bu.length≤1000000
 draw:r.cN.length≤12
 fE:r.aI.length≤1000000
 has:ha.length=r.aI.length
 fJ: ∀ (k:Nat) h (a:bZ),r.aI[k]? =some h→ha[k]? =some a→PI h a
structure uB (r:eU) (az:List RA) (ha:List bZ):Prop where
 line:vc r.au az
 fM:r.bu.length≤9223372036854775807
 draw:r.cN.length≤9223372036854775807
 fE:r.aI.length≤9223372036854775807
 has:ha.length=r.aI.length
 fJ: ∀ (k:Nat) h (a:bZ),r.aI[k]? =some h→ha[k]? =some a→h.length≤9223372036854775807∧a.2.length=h.length∧ ∀ d∈h,d.aV.aa.length≤9223372036854775807
def pI (h:List aq):Prop:=8<(h.length:Int)∨ ∃ d∈h,15<(d.aV.aa.length:Int)
def jX (r:eU):Prop:=(lh r.au∨8<(r.bu.length:Int)∨8<(r.cN.length:Int)∨5<(r.aI.length:Int))∨ ∃ h∈r.aI,pI h
noncomputable instance (r:eU):Decidable (jX r):=Classical.propDecidable _
theorem uz {r:eU} (h: ¬ jX r): ¬ lh r.au∧(r.bu.length:Int)≤8∧(r.cN.length:Int)≤8∧(r.aI.length:Int)≤5∧ ∀ h∈r.aI,(h.length:Int)≤8∧ ∀ d∈h,(d.aV.aa.length:Int)≤15:=by
 unfold jX at h
 obtain ⟨A,B⟩:=not_or.1 h
 obtain ⟨C,E⟩:=not_or.1 A
 refine ⟨C,om,om,om,fun x hx=>?_⟩
 have hn: ¬ pI x:=fun q=>B ⟨x,hx,q⟩
 obtain ⟨F,D⟩:=not_or.1 hn
 refine ⟨om,fun d hd=>?_⟩
 rcases Int.lt_or_le 15 (d.aV.aa.length:Int) with q|q
 ·exact absurd ⟨d,hd,q⟩ D
 ·exact q
theorem uB.small {r:eU} {az:List RA} {ha:List bZ} (h:uB r az ha) (hg: ¬ jX r):iL r az ha:=by
 have B:=uz hg
 refine ⟨h.line.small B.1,om,om,om,h.has,fun k x a hx A=>?_⟩
 have C:=B.2.2.2.2 x (aP hx)
 have D:=h.fJ k x a hx A
 exact ⟨om,D.2.1,fun d hd=>by have:=C.2 d hd; omega⟩
def nx (r:cQ):Prop:=r.Start=0∧r.gL=0∧(r.aa.length:Int)=0
instance (r:cQ):Decidable (nx r):=by unfold nx; infer_instance
def nm (s:ai):Prop:=1≤s.Lo∧s.Lo≤s.Hi∧s.Hi≤600000
instance (s:ai):Decidable (nm s):=by unfold nm; infer_instance
def jn (l:bq) (d:aq):Prop:=if d.Out=true then d.cD=false∧d.Time=hZ∧nx d.aV else if d.cD=true then nm d.Time∧nx d.aV else eA l d.aV l.bU=0∧d.Time=hZ
noncomputable instance (l:bq) (d:aq):Decidable (jn l d):=Classical.propDecidable _
noncomputable def gD (l:bq) (d:aq):ai:=if d.Out=true∨d.cD=true then d.Time else Bt l d.aV
/-- which kind a descent is of -/
def o6 (d:aq):Int:=if d.Out=true then 0 else if d.cD=true then 1 else 2
theorem Mu {w:cq} (h:Gu w): ∀ (b:Nat) (p:aQ×Int),p∈pW w b→w.Start≤p.2:=by
 have hl: ∀ b,0≤cY w b:=fun b=>by
  unfold cY
  cases e:w.qJ[b]? with
  |none=>simp
  |some x=>have:=h.least x (aP e); simp; omega
 intro b
 induction b with
 |zero=>intro p hp; simp only [pW,cH] at hp; subst hp; exact Int.le_refl _
 |succ b ih=>
  intro q hq
  obtain ⟨p,hp,o,ho,e⟩:=kG.1 hq
  unfold nt at e
  split at e
  ·simp only [Option.some.injEq] at e
   subst e
   have:=ih p hp
   have:=hl b
   simp only; omega
  ·cases e
theorem Nk {l:bq} {r:cQ} {b:Int} (h:eA l r b=0):r.Start≤(dD l r b).Lo:=by
 have ho:fq l r (fQ l b)=0:=by
  by_cases e:fq l r (fQ l b)=0
  ·exact e
  ·rw [(dK e).1] at h; exact absurd h e
 obtain ⟨B,C,_⟩:=iD ho
 obtain ⟨ht,A⟩:=dw B
 have hw:=mT ht A C
 have hv:dD l r b=n7 l r b.toNat:=by unfold dD; rw [if_pos h]
 have hn:n7 l r b.toNat≠nv:=fun e=>by unfold eA at h; rw [if_pos ho,if_pos e] at h; omega
 have hh:=vy (l:=te (di l r) b.toNat) fun q hq=>oK hq
 rw [hv]
 unfold n7 at hn ⊢
 rcases hh with ⟨_,e⟩|hh
 ·exact absurd e hn
 ·obtain ⟨x,hx,ex⟩:=hh.lo
  obtain ⟨o,ho,p,hp,u,hu,e⟩:=jF.1 hx
  obtain ⟨_,_,rfl⟩:=lj.1 e
  have D:r.Start≤p.2:=Mu hw _ p hp
  have E:0≤cY (di l r) b.toNat:=by
   unfold cY
   cases e:(di l r).qJ[b.toNat]? with
   |none=>simp
   |some x=>have:=hw.least x (aP e); simp; omega
  simp only [lE] at ex
  omega
theorem F6 {l:bq} {d:aq} (h:jn l d):0≤(gD l d).Lo∧(gD l d).Lo≤(gD l d).Hi∧(gD l d).Hi≤86400000:=by
 unfold jn at h
 unfold gD
 split at h
 ·rename_i q; rw [if_pos (Or.inl q),h.2.1]; simp [hZ]
 ·rename_i q
  split at h
  ·rename_i A
   rw [if_pos (Or.inr A)]
   obtain ⟨⟨B,C,D⟩,_⟩:=h
   omega
  ·rename_i A
   rw [if_neg (fun z=>z.elim q A),D4 h.1]
   have B:=vb h.1
   have C:=(rF h.1).time
   have D:=Nk h.1
   simp only
   omega
theorem ET {l:bq} {d:aq} (h:d.Out=true):gD l d=d.Time:=if_pos (Or.inl h)
theorem EL {l:bq} {d:aq} (h:d.Out=false∧d.cD=true):gD l d=d.Time:=if_pos (Or.inr h.2)
theorem EU {l:bq} {d:aq} (h:d.Out=false∧d.cD=false):gD l d=Bt l d.aV:=if_neg (by simp [h])
theorem qV {l:bq} {d:aq} (h:d.Out=true):jn l d=(d.cD=false∧d.Time=hZ∧nx d.aV):=if_pos h
theorem yi {l:bq} {d:aq} (h:d.Out=false∧d.cD=true):jn l d=(nm d.Time∧nx d.aV):=by unfold jn; rw [if_neg (by simp [h]),if_pos h.2]
theorem uS {l:bq} {d:aq} (h:d.Out=false∧d.cD=false):jn l d=(eA l d.aV l.bU=0∧d.Time=hZ):=by unfold jn; rw [if_neg (by simp [h]),if_neg (by simp [h])]
structure fP (r:eU):Prop where
 num:1≤(r.bu.length:Int)∧(r.bu.length:Int)≤5
 Ax:0≤r.jd∧r.jd≤5
 nh:1≤(r.aI.length:Int)∧(r.aI.length:Int)≤3
 ids: ∀ (i:Nat) x,r.bu[i]? =some x→(0≤x∧x≤9999)∧ ∀ y,0<i→r.bu[i-1]? =some y→y<x
 draw:r.cN.Perm ((List.range r.bu.length).map fun (k:Nat)=>(k:Int))
 fJ: ∀ h∈r.aI,h.length=r.bu.length∧ ∀ d∈h,jn r.au d
noncomputable instance (r:eU):Decidable (fP r):=Classical.propDecidable _
noncomputable def jE (r:eU):Int:=if e_ r.au=0 then (if fP r then 0 else 60) else e_ r.au
abbrev I8 (r:eU) (kA:Option Addr) (az:List RA) (cA bA:Option Addr) (slA drA:Option Addr) (ha:List bZ) (heA:Option Addr):List ay:=[(rd kA r.au.bL.length 9 (r.au.bL.map aD.cells)),(rd cA r.au.aG.length 2 (List.zipWith aT.cells r.au.aG az)),(iH (bK aT.jU r.au.aG az)),(rd bA r.au.aj.length 4 (r.au.aj.map cO.cells)),(rd slA r.bu.length 1 (r.bu.map iC)),(rd drA r.cN.length 1 (r.cN.map iC)),(rd heA r.aI.length 1 (List.zipWith cL r.aI ha)),(iH (bK lM r.aI ha))]
end
section
theorem oc {α β:Type} {f g:α→Option β}: ∀ {l:List α},(∀ x∈l,f x=g x)→l.filterMap f=l.filterMap g
 |[],_=>rfl
 |x::l,h=>by simp only [List.filterMap_cons,h x cr,oc (l:=l) (fun y hy=>h y (dH _ hy))]
abbrev B7:=List (Int×ai)
/-- the sum of a sled in some heats, the first ones -/
noncomputable def kb (l:bq) (hs:List (List aq)) (i:Nat):Nat→Option ai
 |0=>some ⟨0,0⟩
 |k+1=>match kb l hs i k,(hs[k]?).bind (·[i]?) with
  |some s,some d=>if d.Out=true then none else some ⟨s.Lo+(gD l d).Lo/10,s.Hi+(gD l d).Hi/10⟩
  |_,_=>none
noncomputable def eK (l:bq) (hs:List (List aq)) (n h i:Nat):B7:=(List.range n).filterMap fun q=>(kb l hs q (if q<i then h+1 else h)).map fun s=>((q:Int),s)
noncomputable def Cc (r:eU) (k:Nat):B7:=(List.range r.bu.length).filterMap fun q=>(kb r.au r.aI q k).map fun s=>((q:Int),s)
noncomputable def OR (r:eU):B7:=Cc r r.aI.length
section
variable {l:bq} {hs:List (List aq)} {n h i q:Nat} {s:ai} {d:aq}
theorem Bj:eK l hs n h 0=(List.range n).filterMap fun q=>(kb l hs q h).map fun s=>((q:Int),s):=by
 unfold eK
 apply oc
 intro q _
 rw [if_neg (Nat.not_lt_zero _)]
theorem NA:eK l hs n h n=eK l hs n (h+1) 0:=by
 rw [Bj]
 unfold eK
 apply oc
 intro q hq
 rw [if_pos (List.mem_range.1 hq)]
theorem Hl {x:List aq} (hx:hs[h]? =some x) (hd:x[i]? =some d) (ho:d.Out=true):kb l hs i (h+1)=none:=by
 unfold kb
 rw [hx]
 simp only [Option.bind_some,hd]
 cases kb l hs i h with
 |none=>rfl
 |some s=>simp [ho]
theorem EC (h0:kb l hs i h=none):kb l hs i (h+1)=none:=by unfold kb; rw [h0]
theorem D2 {x:List aq} (hx:hs[h]? =some x) (hd:x[i]? =some d) (ho: ¬ d.Out=true) (hs0:kb l hs i h=some s):kb l hs i (h+1)=some ⟨s.Lo+(gD l d).Lo/10,s.Hi+(gD l d).Hi/10⟩:=by
 unfold kb
 rw [hx,hs0]
 simp only [Option.bind_some,hd,if_neg ho]
end
section
variable {l:bq} {hs:List (List aq)} {n h i q:Nat} {s t:ai}
theorem QH {K β:Type} [DecidableEq K] {L Y:List (K×β)} {t:K}:(L++Y).lookup t=match L.lookup t with |some v=>some v|none=>Y.lookup t:=by
 induction L with
 |nil=>rfl
 |cons p L ih=>
  obtain ⟨k,u⟩:=p
  by_cases e:t==k
  ·simp [List.lookup,e]
  ·have:(t==k)=false:=by simpa using e
   simp only [List.cons_append,List.lookup,this,ih]
theorem vY {f:Nat→Option ai}: ∀ (n i:Nat),((List.range n).filterMap fun q=>(f q).map fun s=>((q:Int),s)).lookup (i:Int)=if i<n then f i else none
 |0,i=>by simp
 |n+1,i=>by
  rw [List.range_succ,List.filterMap_append,QH,vY n i]
  by_cases c:i<n
  ·rw [if_pos c,if_pos om]
   cases e:f i with
   |some s=>rfl
   |none=>
    simp only
    cases e2:f n with
    |none=>simp [e2]
    |some u=>
     have:((i:Int)==(n:Int))=false:=by simp only [beq_eq_false_iff_ne,ne_eq]; omega
     simp [e2,List.lookup,this]
  ·rw [if_neg c]
   simp only
   by_cases A:i=n
   ·subst A
    rw [if_pos om]
    cases e2:f i with
    |none=>simp [e2]
    |some u=>simp [e2]
   ·rw [if_neg om]
    have:((i:Int)==(n:Int))=false:=by simp only [beq_eq_false_iff_ne,ne_eq]; omega
    cases e2:f n with
    |none=>simp [e2]
    |some u=>simp [e2,List.lookup,this]
theorem xB:(eK l hs n h i).lookup (q:Int)=if q<n then kb l hs q (if q<i then h+1 else h) else none:=vY n q
theorem Pg {f g:Nat→Option ai} {n i:Nat} (hi:i<n) {s:ai} (hf:(f i).isSome=true) (hg:g i=some s) (hfg: ∀ q,q≠i→f q=g q):eC ((List.range n).filterMap fun q=>(f q).map fun s=>((q:Int),s)) (i:Int) s=(List.range n).filterMap fun q=>(g q).map fun s=>((q:Int),s):=by
 unfold eC
 rw [if_pos (by rw [vY,if_pos hi]; exact hf),List.map_filterMap]
 apply oc
 intro q _
 by_cases e:q=i
 ·subst e
  obtain ⟨u,hu⟩:=Option.isSome_iff_exists.1 hf
  rw [hu,hg]; simp
 ·rw [hfg q e]
  cases g q with
  |none=>rfl
  |some u=>
   have: ¬ ((q:Int)=(i:Int)):=by omega
   simp [this]
theorem Qn {f g:Nat→Option ai} {n i:Nat} (hg:g i=none) (hfg: ∀ q,q≠i→f q=g q):fz ((List.range n).filterMap fun q=>(f q).map fun s=>((q:Int),s)) (i:Int)=(List.range n).filterMap fun q=>(g q).map fun s=>((q:Int),s):=by
 unfold fz
 rw [List.filter_filterMap]
 apply oc
 intro q _
 by_cases e:q=i
 ·subst e
  rw [hg]
  cases f q with
  |none=>rfl
  |some u=>simp
 ·rw [hfg q e]
  cases g q with
  |none=>rfl
  |some u=>
   have: ¬ ((q:Int)=(i:Int)):=by omega
   simp [this]
theorem Nd (hi:i<n) (h0:(kb l hs i h).isSome=true) (h1:kb l hs i (h+1)=some s):eC (eK l hs n h i) (i:Int) s=eK l hs n h (i+1):=by
 unfold eK
 refine Pg hi (by rw [if_neg (Nat.lt_irrefl i)]; exact h0) (by rw [if_pos (Nat.lt_succ_self i)]; exact h1) fun q hq=>?_
 by_cases c:q<i
 ·rw [if_pos c,if_pos om]
 ·rw [if_neg c,if_neg om]
theorem F9 (h1:kb l hs i (h+1)=none):fz (eK l hs n h i) (i:Int)=eK l hs n h (i+1):=by
 unfold eK
 refine Qn (by rw [if_pos (Nat.lt_succ_self i)]; exact h1) fun q hq=>?_
 by_cases c:q<i
 ·rw [if_pos c,if_pos om]
 ·rw [if_neg c,if_neg om]
end
section
variable {m:B7} {i:Int} {own:ai}
end
end
section
def rG (l:List Int):List (List Value):=l.map fun x=>[vI x]
theorem ui {l:List Int}:(rG l).length=l.length:=by simp [rG]
theorem Ha {l:List Int} {k:Nat} {x:Int} (h:l[k]? =some x):(rG l)[k]? =some [vI x]:=by simp [rG,h]
theorem Gk {l:List Int} {k:Nat} {x:List Value} (h:(rG l)[k]? =some x): ∃ y,l[k]? =some y∧x=[vI y]:=by
 simp only [rG,f_,Option.map_eq_some_iff] at h
 obtain ⟨y,hy,rfl⟩:=h
 exact ⟨y,hy,U⟩
theorem EJ {l:List Int}: ∀ x∈rG l,x.length=1:=fun x hx=>by
 simp only [rG,db] at hx
 obtain ⟨y,_,rfl⟩:=hx
 rfl
theorem yX {l:List Int}:l.take (rG l).length=l:=by rw [ui,List.take_of_length_le (Nat.le_refl _)]
theorem yl {l:List Int} {k:Nat} {x:Int} (h:l[k]? =some x):l.take (k+1)=l.take k++[x]:=by
 rw [List.take_add_one,h]; rfl
def ob (l:List Int):List Int:=l.mergeSort fun a b=>decide (a≤b)
theorem mw {l:List Int}:(ob l).Perm l:=List.mergeSort_perm _ _
theorem uT {l:List Int}:(ob l).Pairwise (· ≤ ·):=by
 have:=List.pairwise_mergeSort (le:=fun (a b:Int)=>decide (a≤b)) (fun a b c A B=>by simp at A B ⊢; omega) (fun a b=>by simp; omega) l
 exact this.imp fun h=>by simpa using h
@[simp] theorem u_ {l:List Int}:(ob l).length=l.length:=mw.length_eq
theorem CR {l m:List Int} (h1:m.Perm l) (h2:m.Pairwise (· ≤ ·)):m=ob l:=sT (h1.trans mw.symm) h2 uT
end
section
open Go.RowKit
def sC (s:bj):List Value:=[vS s.a s.n s.c]
theorem z_: ∀ s,(sC s).length=1:=fun s=>rfl
theorem Kz (l:List bj): ∀ v∈(l.map sC).flatten,v.oneCell'=true:=kX (fun s=>rfl) l
def Bm (l:List ai) (a:RA):bj:=⟨a.1,l.length,a.2⟩
def L4 (l:List ai) (a:RA):List Value:=[vS a.1 l.length a.2]
def QK (l:List ai) (a:RA):List ay:=[rd a.1 l.length 2 (l.map ai.cells)]
def E3 (l:List ai) (a:RA):List ay:=[own a.1 a.2 Ld 2 (l.map ai.cells)]
theorem zm {ls:List (List ai)} {az:List RA}:(List.zipWith Bm ls az).map sC=List.zipWith L4 ls az:=by
 rw [List.map_zipWith]; rfl
theorem Ti: ∀ (m:List ai) (a:RA) (w:World),(∀ X∈E3 m a,X.holds w)→ ∀ X∈QK m a,X.holds w:=fun m a w h X hX=>by
 simp only [QK,cH] at hX
 subst hX
 have:=n9 (h _ (cH.2 rfl))
 simpa using this
theorem DG {l:List (List ai)} {bz:List RA}:(bQ (bK E3 l bz)).wr=true:=by
 show (bK E3 l bz).all (·.wr)=true
 rw [c_]
 intro X hX
 obtain ⟨k,m,a,_,_,h⟩:=ku hX
 simp only [E3,cH] at h
 subst h; rfl
theorem Mj {ls:List (List ai)} {az:List RA} (h:az.length=ls.length):(List.zipWith L4 ls az).length=ls.length:=by simp [h]
noncomputable def hG (r:eU) (i:Nat):List (List ai):=(r.aI.take i).map fun h=>h.map (gD r.au)
noncomputable def fU (r:eU):List (List ai):=hG r r.aI.length
section
variable {r:eU} {i:Nat} {h:List aq} {tz:List RA} {a:RA}
theorem wD (hh:r.aI[i]? =some h):hG r (i+1)=hG r i++[h.map (gD r.au)]:=by unfold hG; rw [List.take_add_one,hh,List.map_append]; rfl
theorem lz (hi:i≤r.aI.length):(hG r i).length=i:=by unfold hG; rw [List.length_map,List.length_take]; omega
theorem jo:(fU r).length=r.aI.length:=lz (Nat.le_refl _)
theorem Ei (hh:r.aI[i]? =some h):(fU r)[i]? =some (h.map (gD r.au)):=by
 unfold fU hG
 rw [List.take_length,f_,hh]; rfl
theorem Hj {m:List ai} (hh:r.aI[i]? =some h) (hm:(fU r)[i]? =some m):m=h.map (gD r.au):=by
 rw [Ei hh] at hm
 exact (Option.some.inj hm).symm
theorem uX (hh:r.aI[i]? =some h) (hl:tz.length=i):List.zipWith Bm (hG r (i+1)) (tz++[a])=List.zipWith Bm (hG r i) tz++[Bm (h.map (gD r.au)) a]:=by
 have hi:=(aZ.1 hh).1
 rw [wD hh,List.zipWith_append (by rw [lz om,hl])]
 rfl
theorem Cw (hh:r.aI[i]? =some h) (hl:tz.length=i):bK E3 (hG r i) tz++[own a.1 a.2 Ld 2 ((h.map (gD r.au)).map ai.cells)]=bK E3 (hG r (i+1)) (tz++[a]):=by
 have hi:=(aZ.1 hh).1
 rw [wD hh,jJ (by rw [lz om,hl])]
 simp [bK,E3]
end
theorem zy {lo hi:Int} {l:List Int}:qH lo hi l=true↔ ∀ x∈l,lo≤x∧x≤hi:=by
 unfold qH
 rw [Bool.not_eq_true',List.any_eq_false]
 constructor
 ·intro h x hx; have:=h x hx; simp only [decide_eq_true_eq] at this; omega
 ·intro h x hx; have:=h x hx; simp only [decide_eq_true_eq]; omega
abbrev Gi (n:Nat):List Int:=(List.range n).map fun (k:Nat)=>(k:Int)
theorem yK (n:Nat):(Gi n).Pairwise (· ≤ ·):=by
 unfold Gi
 rw [List.pairwise_map]
 exact List.pairwise_lt_range.imp fun h=>by omega
theorem CG {l:List Int} {n:Nat} (h:l.Perm (Gi n)):ob l=Gi n:=(CR h.symm (yK n)).symm
theorem Hh {l:List Int} {n:Nat} (hl:l.length=n) (h: ∀ j,j<n→ ∀ x,(ob l)[j]? =some x→x=(j:Int)):l.Perm (Gi n):=by
 have e:ob l=Gi n:=by
  apply List.ext_getElem
  ·simp [hl]
  ·intro j A B
   have C:j<n:=by simpa using B
   have:=h j C _ (fZ A)
   simpa using this
 rw [← e]; exact mw.symm
def sH (r:eU) (i:Nat):Prop:= ∀ j,j<i→(∀ x,(ob r.cN)[j]? =some x→x=(j:Int))∧ ∀ x y,r.bu[j]? =some x→0<j→r.bu[j-1]? =some y→y<x
def D6 (r:eU) (h:List aq):Prop:=h.length=r.bu.length∧ ∀ d∈h,jn r.au d
def kH (r:eU) (i:Nat):Prop:= ∀ (j:Nat) h,j<i→r.aI[j]? =some h→D6 r h
def oF (l:bq) (h:List aq) (k:Nat):Prop:= ∀ (j:Nat) d,j<k→h[j]? =some d→jn l d
section
variable {r:eU} {i:Nat}
theorem D3:sH r 0:=fun j hj=>absurd hj (Nat.not_lt_zero _)
theorem xx {x:Int} (h:sH r i) (hd:(ob r.cN)[i]? =some x) (e:x=(i:Int)) (hs: ∀ x y,r.bu[i]? =some x→0<i→r.bu[i-1]? =some y→y<x):sH r (i+1):=fun j hj=>by
 rcases Nat.lt_or_ge j i with q|q
 ·exact h j q
 ·obtain rfl:j=i:=by omega
  exact ⟨fun y hy=>by rw [hd] at hy; cases hy; exact e,hs⟩
theorem xq:kH r 0:=fun j h hj=>absurd hj (Nat.not_lt_zero _)
theorem xA {h:List aq} (hh:kH r i) (hx:r.aI[i]? =some h) (ho:D6 r h):kH r (i+1):=fun j y hj hy=>by
 rcases Nat.lt_or_ge j i with q|q
 ·exact hh j y q hy
 ·obtain rfl:j=i:=by omega
  rw [hx] at hy; cases hy; exact ho
theorem wi {l:bq} {h:List aq}:oF l h 0:=fun j d hj=>absurd hj (Nat.not_lt_zero _)
theorem wg {l:bq} {h:List aq} {d:aq} (ht:oF l h i) (hx:h[i]? =some d) (ho:jn l d):oF l h (i+1):=fun j y hj hy=>by
 rcases Nat.lt_or_ge j i with q|q
 ·exact ht j y q hy
 ·obtain rfl:j=i:=by omega
  rw [hx] at hy; cases hy; exact ho
theorem EP {h:List aq} (hl:h.length=r.bu.length) (ht:oF r.au h i) (hi:h.length≤i):D6 r h:=⟨hl,fun d hd=>by
 obtain ⟨j,hj⟩:=List.getElem?_of_mem hd
 exact ht j d (by have:=(aZ.1 hj).1; omega) hj⟩
theorem KW {n:Nat} (hn:n=r.bu.length) (h1:1≤(r.bu.length:Int)∧(r.bu.length:Int)≤5) (h2:r.cN.length=r.bu.length) (h3:0≤r.jd∧r.jd≤5) (h4:1≤(r.aI.length:Int)∧(r.aI.length:Int)≤3) (h5:qH 0 9999 r.bu=true)
 (h6:sH r n) (h7:kH r i) (hi:r.aI.length≤i):fP r:=by
 subst hn
 refine ⟨h1,h3,h4,fun k x hx=>⟨zy.1 h5 x (aP hx),fun y hk hy=>?_⟩,Hh h2 fun j hj=>(h6 j hj).1,fun h hh=>?_⟩
 ·exact (h6 k (aZ.1 hx).1).2 x y hx hk hy
 ·obtain ⟨j,hj⟩:=List.getElem?_of_mem hh
  exact h7 j h (by have:=(aZ.1 hj).1; omega) hj
theorem fP.AU (h:fP r):r.cN.length=r.bu.length:=by have:=h.draw.length_eq; simpa using this
theorem fP.ins (h:fP r):qH 0 9999 r.bu=true:=zy.2 fun x hx=>by
 obtain ⟨j,hj⟩:=List.getElem?_of_mem hx
 exact (h.ids j x hj).1
theorem fP.drawn (h:fP r) {x:Int} (hx:(ob r.cN)[i]? =some x):x=(i:Int):=by
 rw [CG h.draw] at hx
 have hi:=(aZ.1 hx).1
 simp at hi
 rw [f_,List.getElem?_range hi] at hx
 exact (Option.some.inj hx).symm
theorem fP.Mg (h:fP r):kH r i:=fun j x _ hx=>h.fJ x (aP hx)
theorem zl (h: ¬ e_ r.au=0):jE r=e_ r.au:=if_neg h
theorem kY (h:e_ r.au=0) (hn: ¬ fP r):jE r=60:=by unfold jE; rw [if_pos h,if_neg hn]
theorem CN (h:e_ r.au=0) (hn:fP r):jE r=0:=by unfold jE; rw [if_pos h,if_pos hn]
theorem dx (h:jE r=0):e_ r.au=0∧fP r:=by
 unfold jE at h
 split at h
 ·split at h
  ·exact ⟨asm,asm⟩
  ·cases h
 ·exact absurd h asm
end
section
variable {r:eU} {k i n h:Nat} {s:ai} {l:bq} {hs:List (List aq)}
theorem Fc: ∀ {k:Nat} {s:ai},kH r k→k≤r.aI.length→kb r.au r.aI i k=some s→0≤s.Lo∧s.Lo≤s.Hi∧s.Hi≤8640000*(k:Int)
 |0,s,_,_,h=>by
  simp only [kb,Option.some.injEq] at h
  subst h; simp
 |k+1,s,hh,hk,h=>by
  unfold kb at h
  split at h
  ·rename_i u d hu hd
   split at h
   ·cases h
   ·cases h
    have A:=Fc (fun j x hj hx=>hh j x om hx) om hu
    obtain ⟨x,hx,hd⟩:=Option.bind_eq_some_iff.1 hd
    have B:=F6 ((hh k x om hx).2 d (aP hd))
    simp only
    push_cast
    omega
  ·cases h
theorem NF:eC (eK l hs i 0 0) (i:Int) ⟨0,0⟩=eK l hs (i+1) 0 0:=by
 have A:(eK l hs i 0 0).lookup (i:Int)=none:=by rw [xB,if_neg (Nat.lt_irrefl i)]
 unfold eC
 rw [A]
 simp only [Option.isSome_none,Bool.false_eq_true,if_false]
 unfold eK
 rw [List.range_succ,List.filterMap_append]
 simp [kb]
theorem I7 (hi:i<n):(eK l hs n h i).lookup (i:Int)=kb l hs i h:=by rw [xB,if_pos hi,if_neg (Nat.lt_irrefl i)]
theorem PM {α β:Type} {f:α→β} {tr:List β} {ht:List α} {x:β} {d:α} (e:tr=ht.map f) (hx:tr[i]? =some x) (hd:ht[i]? =some d):x=f d:=by
 rw [e,f_,hd] at hx
 exact (Option.some.inj hx).symm
theorem MA:eK r.au r.aI r.bu.length h 0=Cc r h:=Bj
end
end
section
def qQ (r:eU) (i:Int):Prop:=0≤i∧i≤(r.bu.length:Int)-1
instance (r:eU) (i:Int):Decidable (qQ r i):=by unfold qQ; infer_instance
section
variable {r:eU} {i a b:Int}
end
end
section
def o0 (d:aq):Prop:=d.Out=false∧d.cD=false
instance (d:aq):Decidable (o0 d):=by unfold o0; infer_instance
def fj (l:bq) (f:bg):Prop:=(1≤f.Kind∧f.Kind≤3)∧(0≤f.mz∧f.mz≤f.To∧f.To≤86400000)∧0≤f.hE∧f.hE≤(if f.Kind=1 then 0 else l.bU)
instance (l:bq) (f:bg):Decidable (fj l f):=by unfold fj; infer_instance
/-- the descent that a protest is of -/
def qP (j:cw) (p:bR):Option aq:=(j.Race.aI[p.ib.toNat]?).bind (·[p.gH.toNat]?)
structure vz (j:cw) (i:Nat) (p:bR):Prop where
 id:0≤p.Id∧p.Id≤9999
 up: ∀ q,0<i→j.aB[i-1]? =some q→q.Id<p.Id
 k6:qQ j.Race p.gH
 fJ:0≤p.ib∧p.ib≤(j.Race.aI.length:Int)-1
 fault:0≤p.gh∧p.gh≤(j.aM.length:Int)-1
 lQ: ∃ d,qP j p=some d∧o0 d∧d.aV.Start≤p.At∧p.At≤86400000
structure qY (j:cw):Prop where
 nf:(j.aM.length:Int)≤5
 fault: ∀ f∈j.aM,fj j.Race.au f
 min_:0≤j.gu∧j.gu≤60
 td:0≤j.kU∧j.kU≤100000
 np:(j.aB.length:Int)≤8
 ia: ∀ (i:Nat) p,j.aB[i]? =some p→vz j i p
noncomputable instance (j:cw):Decidable (qY j):=Classical.propDecidable _
noncomputable def dU (j:cw):Int:=if jE j.Race=0 then (if qY j then 0 else 70) else jE j.Race
theorem z8 {j:cw} (h: ¬ jE j.Race=0):dU j=jE j.Race:=if_neg h
theorem jQ {j:cw} (h:jE j.Race=0) (hn: ¬ qY j):dU j=70:=by unfold dU; rw [if_pos h,if_neg hn]
theorem Bo {j:cw} (h:jE j.Race=0) (hn:qY j):dU j=0:=by unfold dU; rw [if_pos h,if_pos hn]
theorem dj {j:cw} (h:dU j=0):jE j.Race=0∧qY j:=by
 unfold dU at h
 split at h
 ·split at h
  ·exact ⟨asm,asm⟩
  ·cases h
 ·rename_i q; exact absurd h q
structure xr where
 Lo:Int
 Hi:Int
 each:Bool
 never:Bool
/-- whether it passed the beam in each truth -/
noncomputable def uI (l:bq) (r:cQ) (b:Int):Bool:=(hH l r).all fun n=>decide (b<n)
noncomputable def dh (l:bq) (r:cQ) (b:Int):xr:=
 if b<0 then ⟨r.Start,r.Start,true,false⟩
 else if eA l r b=0 then ⟨(dD l r b).Lo,if uI l r b=true then (dD l r b).Hi else 86400000,uI l r b,false⟩
 else ⟨86400000,86400000,false,true⟩
def Ff (f:bg):Int:=if f.Kind=1 then-1 else if f.Kind=2 then f.hE-1 else f.hE
def TQ (l:bq) (f:bg):Int:=if f.Kind=1 then l.bU else f.hE
def q8 (f:bg) (a b:xr):Prop:=if f.Kind=3 then f.mz≤a.Lo∧a.Hi≤f.To else a.Hi≤f.To∧f.mz≤b.Lo
instance (f:bg) (a b:xr):Decidable (q8 f a b):=by unfold q8; infer_instance
def nu (f:bg) (a b:xr):Int:=if a.never=true∨f.To<a.Lo∨b.Hi<f.mz then 0 else if a.each=true∧q8 f a b then 2 else 1
noncomputable def gd (l:bq) (f:bg) (d:aq):Int:=if o0 d then nu f (dh l d.aV (Ff f)) (dh l d.aV (TQ l f)) else 0
theorem H4 {f:bg} {a b:xr}:0≤nu f a b∧nu f a b≤2:=by unfold nu; split; omega; split<;>omega
theorem B2 {l:bq} {f:bg} {d:aq}:0≤gd l f d∧gd l f d≤2:=by
 unfold gd; split
 ·exact H4
 ·omega
theorem nP {l:bq} {f:bg} {d:aq} (h: ¬ o0 d):gd l f d=0:=if_neg h
def kT (P:Nat→Bool) (n:Nat):List Int:=((List.range n).filter P).map fun (i:Nat)=>(i:Int)
section
variable {P:Nat→Bool} {n q:Nat} {x:Int}
theorem vO (h:P n=true):kT P (n+1)=kT P n++[(n:Int)]:=by unfold kT; rw [List.range_succ,List.filter_append,List.map_append]; simp [h]
theorem zK (h:P n=false):kT P (n+1)=kT P n:=by unfold kT; rw [List.range_succ,List.filter_append,List.map_append]; simp [h]
theorem nj:(kT P n).length≤n:=by unfold kT; rw [List.length_map]; exact Nat.le_trans (List.length_filter_le _ _) (by rw [List.length_range]; exact Nat.le_refl _)
theorem El:x∈kT P n↔ ∃ i:Nat,i<n∧x=(i:Int)∧P i=true:=by
 unfold kT
 simp only [db,List.mem_filter,List.mem_range]
 constructor
 ·rintro ⟨i,⟨A,B⟩,rfl⟩; exact ⟨i,A,rfl,B⟩
 ·rintro ⟨i,A,rfl,B⟩; exact ⟨i,⟨A,B⟩,rfl⟩
end
noncomputable def pS (j:cw) (p:bR):Int:=match qP j p with
 |some d=>if p.At≤(dh j.Race.au d.aV j.Race.au.bU).Lo+60000*j.gu then 0 else if p.At≤(dh j.Race.au d.aV j.Race.au.bU).Hi+60000*j.gu then 1 else 2
 |none=>2
noncomputable def gJ (j:cw) (p:bR):Bool:=match qP j p,j.aM[p.gh.toNat]? with
 |some d,some f=>decide (pS j p≠2)&&decide (gd j.Race.au f d≠0)
 |_,_=>false
/-- which protests are granted, so far -/
noncomputable def iq (j:cw) (n:Nat):List Int:=kT (fun i=>(j.aB[i]?).any (gJ j)) n
noncomputable def jw (j:cw):List Int:=iq j j.aB.length
theorem tp {j:cw} {n:Nat} {x:Int}:x∈iq j n↔ ∃ i:Nat,i<n∧x=(i:Int)∧ ∃ p,j.aB[i]? =some p∧gJ j p=true:=by
 unfold iq
 rw [El]
 refine exists_congr fun i=>and_congr Iff.rfl (and_congr Iff.rfl ?_)
 cases h:j.aB[i]? with
 |none=>simp
 |some p=>simp
/-- by faults of which something is so -/
def Hs (l:bq) (F:bg→Prop) (fs:List bg) (d:aq):Prop:= ∃ f∈fs,F f∧ ¬ gd l f d=0
noncomputable def IN (l:bq) (F:bg→Prop) (fs:List bg) (h:List aq) (n:Nat):List Int:=kT (fun s=>(h[s]?).any fun d=> @decide (Hs l F fs d) (Classical.propDecidable _)) n
noncomputable def eT (j:cw) (F:bg→Prop):List (List Int):=j.Race.aI.map fun h=>IN j.Race.au F j.aM h h.length
/-- about which a protest is granted -/
def F1 (j:cw) (f:bg):Prop:= ∃ (i:Nat) (p:bR),j.aB[i]? =some p∧gJ j p=true∧j.aM[p.gh.toNat]? =some f
noncomputable def dT (j:cw):List (List Int):=eT j (F1 j)
noncomputable def h_ (j:cw) (s:Int) (n:Nat):Nat:=(List.range n).countP fun i=>(j.aB[i]?).any fun p=>decide (p.gH=s)&& !gJ j p
noncomputable def Qc (j:cw) (s:Int):Int:= -(h_ j s j.aB.length:Int)*j.kU
noncomputable def Kd (j:cw):Int:=((jw j).length:Int)*j.kU
noncomputable def N4 (j:cw):Int:=(j.aB.length:Int)*j.kU-Kd j
end
section
/-- the places of which something is so; from the k-th on, all of them -/
def iJ (P:Nat→Bool) (n k:Nat):List (Int×Bool):=((List.range n).filter fun q=>decide (k≤q)||P q).map fun (q:Nat)=>((q:Int),true)
section
variable {P:Nat→Bool} {n k q:Nat}
theorem yc {p:Int×Bool}:p∈iJ P n k↔ ∃ q:Nat,q<n∧(k≤q∨P q=true)∧p=((q:Int),true):=by
 unfold iJ
 simp only [db,List.mem_filter,List.mem_range,Bool.or_eq_true,decide_eq_true_eq]
 constructor
 ·rintro ⟨q,⟨A,B⟩,rfl⟩; exact ⟨q,A,B,rfl⟩
 ·rintro ⟨q,A,B,rfl⟩; exact ⟨q,⟨A,B⟩,rfl⟩
theorem Hr:((iJ P n k).map (·.1)).Nodup:=by
 unfold iJ
 rw [List.map_map,List.nodup_iff_pairwise_ne,List.pairwise_map]
 have h:(List.range n).Pairwise (· ≠ ·):=by rw [← List.nodup_iff_pairwise_ne]; exact List.nodup_range
 exact (h.sublist List.filter_sublist).imp fun {a b} A e=>A (by have B:(a:Int)=(b:Int):=e; omega)
theorem JH:eC (iJ P n 0) (n:Int) true=iJ P (n+1) 0:=by
 have A:(iJ P n 0).lookup (n:Int)=none:=iM.2 fun p hp e=>by
  obtain ⟨q,B,_,rfl⟩:=yc.1 hp
  simp only at e; omega
 unfold eC
 rw [A]
 show iJ P n 0++[((n:Int),true)]=_
 unfold iJ
 rw [List.range_succ,List.filter_append,List.map_append]
 simp
theorem IW (h:P k=false):fz (iJ P n k) (k:Int)=iJ P n (k+1):=by
 unfold fz iJ
 rw [List.filter_map,List.filter_filter]
 congr 1
 apply List.filter_congr
 intro q _
 by_cases e:q=k
 ·subst e; simp [h]
 ·have A:decide ((q:Int)=(k:Int))=false:=br om
  have B:decide (k≤q)=decide (k+1≤q):=gT.2 om
  simp only [Function.comp_def,A,B,Bool.not_false,Bool.true_and]
theorem GH (h:P k=true):iJ P n k=iJ P n (k+1):=by
 unfold iJ
 congr 1
 apply List.filter_congr
 intro q _
 by_cases e:q=k
 ·subst e; simp [h]
 ·have A:decide (k≤q)=decide (k+1≤q):=gT.2 om
  rw [A]
theorem zU (hq:q<n):((iJ P n n).lookup (q:Int)).getD false=P q:=by
 cases h:P q with
 |true=>
  have:((q:Int),true)∈iJ P n n:=yc.2 ⟨q,hq,.inr h,rfl⟩
  rw [(lL Hr).1 this]; rfl
 |false=>
  have:(iJ P n n).lookup (q:Int)=none:=iM.2 fun p hp e=>by
   obtain ⟨u,B,A,rfl⟩:=yc.1 hp
   simp only at e
   obtain rfl:u=q:=by omega
   rcases A with A|A
   ·omega
   ·rw [h] at A; cases A
  rw [this]; rfl
end
end
section
section
variable {j j':cw} {p:bR} {l:bq} {F G:bg→Prop} {fs:List bg} {h:List aq} {n:Nat} {x:Int}
theorem HC (hFG: ∀ f∈fs,(F f↔G f)):IN l F fs h n=IN l G fs h n:=by
 unfold IN
 congr 1
 funext s
 cases e:h[s]? with
 |none=>rfl
 |some d=>
  simp only [Option.any_some]
  rw [gT]
  exact ⟨fun ⟨f,A,B,C⟩=>⟨f,A,(hFG f A).1 B,C⟩,fun ⟨f,A,B,C⟩=>⟨f,A,(hFG f A).2 B,C⟩⟩
theorem Av {k:Nat} {h:List aq} (hh:j.Race.aI[k]? =some h):(eT j F)[k]? =some (IN j.Race.au F j.aM h h.length):=by unfold eT; rw [f_,hh]; rfl
theorem um:(eT j F).length=j.Race.aI.length:=by unfold eT; rw [List.length_map]
end
end
end Go.Proofs.YtkaenmjhfajbkaaGreatDoor
