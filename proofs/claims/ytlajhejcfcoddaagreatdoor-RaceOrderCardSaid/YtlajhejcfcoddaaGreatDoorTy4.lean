/-
 The statement raceOrder_said, part 4 of 8: Short, Grow, Global, RunA, Tab, Run, Comp, Ret, LoopK, MapK, Watch, Passes, Keys, MapR, RangeG, Nest, WMaps, WBounds, PassG, Drop, Spot, First, Line, Wrap, Goes, OpenW, Wheres, ExL6, LineR, Race, RaceS, Vals, RaceO, Ord, Rev.
 Conditions: none.
-/
import Derived.Test.YtlajhejcfcoddaaGreatDoorTy1
import Derived.Test.YtlajhejcfcoddaaGreatDoorTy2
import Derived.Test.YtlajhejcfcoddaaGreatDoorTy3
import Derived.Test.YtlajhejcfcoddaaGreatDoorProg
import Derived.KernelRfl
import Derived.WideKeyRuns
namespace Go.Proofs.YtlajhejcfcoddaaGreatDoor
set_option maxRecDepth 100000
set_option maxHeartbeats 4000000
set_option linter.unusedVariables false
section
open Go.RowKit
/-- an operation that hands v to its slot d -/
structure SE (E:fh) (ops:Array Oper) (o:Oper) (D:gV) (L:di) (C:List au) (v:Value) (d:Nat):Prop where
 h:SD E ops o D L C v
 o:o.dst=some d
 n:Nat.blt d E.n=true
theorem rS {E:fh} {ops:Array Oper} {Q:cZ} {o:Oper} {rest:List Oper} {D:gV} {L:di} {C:List au} {v:Value} {d:Nat}
 (h:SE E ops o D L C v d) (k:RJ E ops Q rest D ((d,v)::L) C):RJ E ops Q (o::rest) D L C:=Sc h.h h.o h.n k
theorem dS {E:fh} {ops:Array Oper} {F:di→Prop} {o:Oper} {rest:List Oper} {D:gV} {L:di} {C:List au} {v:Value} {d:Nat}
 (h:SE E ops o D L C v d) (k:DJ E ops D C F rest ((d,v)::L)):DJ E ops D C F (o::rest) L:=Sp h.h h.o h.n k
theorem eS {E:fh} {ops:Array Oper} {D:gV} {C' C1:List au} {F:di→Prop} {bs:List Bool} {o:Oper} {l rest:List Oper} {L:di} {v:Value} {d:Nat}
 (hl:l=o::rest) (h:SE E ops o D L C' v d) (k:qi E ops D C' C1 F bs rest ((d,v)::L)):qi E ops D C' C1 F (false::bs) l L:=S4 h.h hl h.o h.n k
theorem fS {E:fh} {ops:Array Oper} {D:gV} {C' C1:List au} {F:di→Prop} {bs:List Bool} {o:Oper} {l rest:List Oper} {L:di} {v:Value} {d:Nat}
 (hl:l=o::rest) (h:SE E ops o D L C1 v d) (k:qi E ops D C' C1 F bs rest ((d,v)::L)):qi E ops D C' C1 F (true::bs) l L:=Uf h.h hl h.o h.n k
def gB (n:Nat) (ops:Array Oper) (L:di) (d:Nat) (g:Option (Nat×Bool)):Bool:=jI ops L g&&Nat.blt d n
theorem Pc {n:Nat} {ops:Array Oper} {L:di} {d:Nat} {g:Option (Nat×Bool)} (h:gB n ops L d g=true):jI ops L g=true:=by
 unfold gB at h; rw [cU] at h; exact h.1
theorem PA {n:Nat} {ops:Array Oper} {L:di} {d:Nat} {g:Option (Nat×Bool)} (h:gB n ops L d g=true):Nat.blt d n=true:=by
 unfold gB at h; rw [cU] at h; exact h.2
def vF (n:Nat) (ops:Array Oper) (L:di) (d:Nat) (g:Option (Nat×Bool)) (x:Operand):Option Value:=match gB n ops L d g with
 |true=>ev L x
 |false=>none
def bF (n:Nat) (ops:Array Oper) (L:di) (d:Nat) (g:Option (Nat×Bool)) (x y:Operand):Option (Value×Value):=match gB n ops L d g with
 |true=>match ev L x,ev L y with
  |some u,some v=>some (u,v)
  |_,_=>none
 |false=>none
def pF (n:Nat) (ops:Array Oper) (L:di) (d:Nat) (g:Option (Nat×Bool)) (c x y:Operand):Option Value:=match gB n ops L d g with
 |true=>match ev L c with
  |some (.bool true)=>ev L x
  |some (.bool false)=>ev L y
  |_=>none
 |false=>none
def xF (n:Nat) (ops:Array Oper) (L:di) (d:Nat) (g:Option (Nat×Bool)) (x:Operand) (i:Nat):Option Value:=match vF n ops L d g x with
 |some (.tuple vs)=>vs.toList[i]?
 |_=>none
def uF (n:Nat) (ops:Array Oper) (L:di) (d:Nat) (g:Option (Nat×Bool)) (xs ys:List Operand):Option (List Value×List Value):=match gB n ops L d g with
 |true=>match evs L xs,evs L ys with
  |some u,some v=>some (u,v)
  |_,_=>none
 |false=>none
def cF (n:Nat) (ops:Array Oper) (L:di) (d:Nat) (g:Option (Nat×Bool)) (fop:Operand) (xs:List Operand):Option (FuncId×List Value):=match gB n ops L d g with
 |true=>match ev L fop,evs L xs with
  |some (.func (.func f) fi ca),some vs=>some (f,fi.toList++vs++ca.toList)
  |_,_=>none
 |false=>none
theorem ji {n:Nat} {ops:Array Oper} {L:di} {d:Nat} {g:Option (Nat×Bool)} {x:Operand} {v:Value} (h:vF n ops L d g x=some v):jI ops L g=true∧Nat.blt d n=true∧ev L x=some v:=by
 unfold vF at h
 split at h
 ·rename_i hb; exact ⟨Pc hb,PA hb,h⟩
 ·cases h
theorem qW {n:Nat} {ops:Array Oper} {L:di} {d:Nat} {g:Option (Nat×Bool)} {x y:Operand} {u v:Value} (h:bF n ops L d g x y=some (u,v)):jI ops L g=true∧Nat.blt d n=true∧ev L x=some u∧ev L y=some v:=by
 unfold bF at h
 split at h
 ·rename_i hb
  split at h
  ·rename_i hx hy; cases h; exact ⟨Pc hb,PA hb,hx,hy⟩
  ·cases h
 ·cases h
theorem Rk {n:Nat} {ops:Array Oper} {L:di} {d:Nat} {g:Option (Nat×Bool)} {x y:List Operand} {u v:List Value} (h:uF n ops L d g x y=some (u,v)):jI ops L g=true∧Nat.blt d n=true∧evs L x=some u∧evs L y=some v:=by
 unfold uF at h
 split at h
 ·rename_i hb
  split at h
  ·rename_i hx hy; cases h; exact ⟨Pc hb,PA hb,hx,hy⟩
  ·cases h
 ·cases h
section
variable {E:fh} {ops:Array Oper} {Q:cZ} {rest:List Oper} {D:List Deferred} {L:List (Nat×Value)} {C:List au}
variable {d:Nat} {ty:TypeId} {ps:String} {af:Array Edge} {g:Option (Nat×Bool)}
theorem SX {o:Oper} {v:Value} (h:SD E ops o D L C v) (ho:o.dst=some d) (hd:Nat.blt d E.n=true):SE E ops o D L C v d:=⟨h,ho,hd⟩
theorem MV {x:Operand} {v:Value} (h:vF E.n ops L d g x=some v):SE E ops ⟨some d,.move x,ty,ps,af,g⟩ D L C v d:=by
 obtain ⟨A,B,F⟩:=ji h; exact ⟨GD A F,rfl,B⟩
theorem AG {x:Operand} {v:Value} (h:vF E.n ops L d g x=some v):SE E ops ⟨some d,.assign x,ty,ps,af,g⟩ D L C v d:=by
 obtain ⟨A,B,F⟩:=ji h; exact ⟨yX A F,rfl,B⟩
theorem OX {op:Op} (h:(Dw ops L g&&Nat.blt d E.n)=true):SE E ops ⟨some d,op,ty,ps,af,g⟩ D L C undef d:=by
 rw [cU] at h; exact ⟨I3 h.1,rfl,h.2⟩
theorem NT {xt:TypeId} {x:Operand} {b:Bool} (h:vF E.n ops L d g x=some (.bool b)):SE E ops ⟨some d,.unOp .not xt x,ty,ps,af,g⟩ D L C (.bool !b) d:=by
 obtain ⟨A,B,F⟩:=ji h; exact ⟨JD A F,rfl,B⟩
theorem NG {xt:TypeId} {x:Operand} {n:Int} (h:vF E.n ops L d g x=some (.int .i64 n)) (hb:ql (-n)):SE E ops ⟨some d,.unOp .neg xt x,ty,ps,af,g⟩ D L C (.int .i64 (-n)) d:=by
 obtain ⟨A,B,F⟩:=ji h; exact ⟨Qp A F hb,rfl,B⟩
theorem PK {c x y:Operand} {v:Value} (h:pF E.n ops L d g c x y=some v):SE E ops ⟨some d,.pick c x y,ty,ps,af,g⟩ D L C v d:=by
 unfold pF at h
 split at h
 ·rename_i hb
  split at h
  ·rename_i hc; exact ⟨zL (Pc hb) hc h,rfl,PA hb⟩
  ·rename_i hc; exact ⟨yQ (Pc hb) hc h,rfl,PA hb⟩
  ·cases h
 ·cases h
theorem EX {x:Operand} {i:Nat} {v:Value} (h:xF E.n ops L d g x i=some v):SE E ops ⟨some d,.extract x i,ty,ps,af,g⟩ D L C v d:=by
 unfold xF at h
 split at h
 ·rename_i vs hv
  obtain ⟨A,B,F⟩:=ji hv
  exact ⟨xE (vs:=vs.toList) A (by simpa using F) h,U,B⟩
 ·cases h
theorem LN {x:Operand} {t e:TypeId} {A:OA} {n c:Nat} (h:vF E.n ops L d g x=some (.slice A n c)) (ht:E.P.underlying t=some (.slice e)):
 SE E ops ⟨some d,.call {callee:= .builtin .len,args:= #[x],argTypes:= #[t]},ty,ps,af,g⟩ D L C (.int .i64 n) d:=by
 obtain ⟨B,F,G⟩:=ji h; exact ⟨LS B G ht,rfl,F⟩
theorem BI {op:BinOp} {xt yt:TypeId} {x y:Operand} {u v r:Value} (h:bF E.n ops L d g x y=some (u,v)) (hb:iu E.P op xt x y u v r):SE E ops ⟨some d,.binOp op xt x y yt,ty,ps,af,g⟩ D L C r d:=by
 obtain ⟨A,B,F,G⟩:=qW h; exact ⟨b_ A F G hb,rfl,B⟩
theorem MN {x y:Operand} {ts:Array TypeId} {a b:Int} {k:IntKind} (h:bF E.n ops L d g x y=some (.int k a,.int k b)):
 SE E ops ⟨some d,.call {callee:= .builtin .min,args:= #[x,y],argTypes:=ts},ty,ps,af,g⟩ D L C (.int k (min a b)) d:=by
 obtain ⟨A,B,F,G⟩:=qW h; exact ⟨QW A F G,rfl,B⟩
theorem MX {x y:Operand} {ts:Array TypeId} {a b:Int} {k:IntKind} (h:bF E.n ops L d g x y=some (.int k a,.int k b)):
 SE E ops ⟨some d,.call {callee:= .builtin .max,args:= #[x,y],argTypes:=ts},ty,ps,af,g⟩ D L C (.int k (max a b)) d:=by
 obtain ⟨A,B,F,G⟩:=qW h; exact ⟨P9 A F G,rfl,B⟩
theorem FA (o':Nat) {x:Operand} {b o s f k:Nat} (h:vF E.n ops L d g x=some (.pointer (some ⟨b,o,none⟩))) (hf:q6 E.P s f=some k) (ho:o+k=o'):
 SE E ops ⟨some d,.fieldAddr s x f,ty,ps,af,g⟩ D L C (.pointer (some ⟨b,o',none⟩)) d:=by
 obtain ⟨A,B,F⟩:=ji h; exact ⟨PF A F hf ho,rfl,B⟩
theorem mW (k':Nat) {x:Operand} {A:OA} {n sz:Nat} {es:List (List Value)} {k0 s f k:Nat} (h:vF E.n ops L d g x=some (.pointer (l4 A k0))) (hR:jc C (rd A n sz es).holds) (hn:0<n*sz)
 (hf:q6 E.P s f=some k) (ho:k0+k=k'):SE E ops ⟨some d,.fieldAddr s x f,ty,ps,af,g⟩ D L C (.pointer (l4 A k')) d:=by
 obtain ⟨B,F,G⟩:=ji h; exact ⟨Lw B G hR hn hf ho,rfl,F⟩
theorem U_ (k':Nat) {x:Operand} {A:OA} {ad:Addr} {k0 s f k:Nat} (h:vF E.n ops L d g x=some (.pointer (l4 A k0))) (hA:A=some ad)
 (hf:q6 E.P s f=some k) (ho:k0+k=k'):SE E ops ⟨some d,.fieldAddr s x f,ty,ps,af,g⟩ D L C (.pointer (l4 A k')) d:=by
 obtain ⟨B,F,G⟩:=ji h; exact ⟨Jm B G hA hf ho,rfl,F⟩
theorem IA (k:Nat) {x ix:Operand} {A:OA} {n c sz e t:Nat} {es:List (List Value)} {j:Int} (h:bF E.n ops L d g x ix=some (.slice A n c,.int .i64 j)) (hR:jc C (rd A n sz es).holds)
 (ht:tE E.P t=some (e,sz)) (hz:0<sz) (hj:j=(k:Int)) (hk:k<n):SE E ops ⟨some d,.indexAddr t x ix,ty,ps,af,g⟩ D L C (.pointer (l4 A (k*sz))) d:=by
 obtain ⟨B,F,G,H⟩:=qW h; exact ⟨Us B G H hR ht hz hj hk,rfl,F⟩
theorem UB (k o':Nat) {x ix:Operand} {b o n c sz e t:Nat} {j:Int} (h:bF E.n ops L d g x ix=some (.slice (some ⟨b,o,none⟩) n c,.int .i64 j))
 (ht:tE E.P t=some (e,sz)) (hj:j=(k:Int)) (hk:k<n) (ho:o+k*sz=o'):SE E ops ⟨some d,.indexAddr t x ix,ty,ps,af,g⟩ D L C (.pointer (some ⟨b,o',none⟩)) d:=by
 obtain ⟨A,B,F,G⟩:=qW h; exact ⟨N_ A F G ht hj hk ho,rfl,B⟩
/-- the whole of a block, a part of it, one cell -/
theorem LW (i:Nat) {x:Operand} {b t tt n:Nat} {cs:List Value} (h:vF E.n ops L d g x=some (.pointer (some ⟨b,0,none⟩))) (ht:tK E.P t=some (true,n)) (hC:C[i]? =some (cb b tt cs)) (hn:cs.length=n):
 SE E ops ⟨some d,.load t x,ty,ps,af,g⟩ D L C (.agg cs.toArray) d:=by
 obtain ⟨A,B,F⟩:=ji h; exact ⟨wN A F ht (pE i hC sm) hn,rfl,B⟩
theorem LP (vs:List Value) (i:Nat) {x:Operand} {b o t tt n:Nat} {cs:List Value} (h:vF E.n ops L d g x=some (.pointer (some ⟨b,o,none⟩))) (ht:tK E.P t=some (true,n)) (hC:C[i]? =some (cb b tt cs)) (hv:(cs.drop o).take vs.length=vs) (hn:vs.length=n):
 SE E ops ⟨some d,.load t x,ty,ps,af,g⟩ D L C (.agg vs.toArray) d:=by
 obtain ⟨A,B,F⟩:=ji h; exact ⟨wN A F ht (pE i hC hv) hn,rfl,B⟩
theorem V6 (vs:List Value) (i:Nat) {x:Operand} {b o t tt n:Nat} {cs:List Value} (h:vF E.n ops L d g x=some (.pointer (some ⟨b,o,none⟩))) (ht:tK E.P t=some (true,n)) (hC:C[i]? =some (cb b tt cs).ro) (hv:(cs.drop o).take vs.length=vs) (hn:vs.length=n):
 SE E ops ⟨some d,.load t x,ty,ps,af,g⟩ D L C (.agg vs.toArray) d:=by
 obtain ⟨A,B,F⟩:=ji h; exact ⟨wN A F ht (vR i hC hv) hn,rfl,B⟩
theorem L1 (v:Value) (i:Nat) {x:Operand} {b o t tt n:Nat} {cs:List Value} (h:vF E.n ops L d g x=some (.pointer (some ⟨b,o,none⟩))) (ht:tK E.P t=some (false,n)) (hC:C[i]? =some (cb b tt cs)) (hv:(cs.drop o).take 1=[v]):
 SE E ops ⟨some d,.load t x,ty,ps,af,g⟩ D L C v d:=by
 obtain ⟨A,B,F⟩:=ji h; exact ⟨uU A F ht (pE i hC hv),rfl,B⟩
theorem IB (v:Value) (i:Nat) {x:Operand} {b o t tt n:Nat} {cs:List Value} (h:vF E.n ops L d g x=some (.pointer (some ⟨b,o,none⟩))) (ht:tK E.P t=some (false,n)) (hC:C[i]? =some (cb b tt cs).ro) (hv:(cs.drop o).take 1=[v]):
 SE E ops ⟨some d,.load t x,ty,ps,af,g⟩ D L C v d:=by
 obtain ⟨A,B,F⟩:=ji h; exact ⟨uU A F ht (vR i hC hv),rfl,B⟩
theorem Er (i:Nat) {x:Operand} {b t tt n:Nat} {v:Value} (h:vF E.n ops L d g x=some (.pointer (some ⟨b,0,none⟩))) (ht:tK E.P t=some (false,n)) (hC:C[i]? =some (cb b tt [v])):
 SE E ops ⟨some d,.load t x,ty,ps,af,g⟩ D L C v d:=by
 obtain ⟨A,B,F⟩:=ji h; exact ⟨uU A F ht (pE i hC rfl),rfl,B⟩
theorem UF (i:Nat) {x:Operand} {b t tt n:Nat} {v:Value} (h:vF E.n ops L d g x=some (.pointer (some ⟨b,0,none⟩))) (ht:tK E.P t=some (false,n)) (hC:C[i]? =some (cb b tt [v]).ro):
 SE E ops ⟨some d,.load t x,ty,ps,af,g⟩ D L C v d:=by
 obtain ⟨A,B,F⟩:=ji h; exact ⟨uU A F ht (vR i hC rfl),rfl,B⟩
/-- what is read of a row -/
theorem fT (k o:Nat) (v:Value) {x:Operand} {A:OA} {t m n sz:Nat} {es:List (List Value)} {e:List Value} (h:vF E.n ops L d g x=some (.pointer (l4 A m))) {nn:Nat} (ht:tK E.P t=some (false,nn)) (hR:jc C (rd A n sz es).holds) (he:es[k]? =some e) (hm:m=k*sz+o) (hz:0<sz) (hv:(e.drop o).take 1=[v]):
 SE E ops ⟨some d,.load t x,ty,ps,af,g⟩ D L C v d:=by
 obtain ⟨B,F,G⟩:=ji h; exact ⟨uU B G ht (Pg hR he hm hz hv),rfl,F⟩
theorem oT (k o:Nat) (vs:List Value) {x:Operand} {A:OA} {t m n sz:Nat} {es:List (List Value)} {e:List Value} (h:vF E.n ops L d g x=some (.pointer (l4 A m))) {nn:Nat} (ht:tK E.P t=some (true,nn)) (hR:jc C (rd A n sz es).holds) (he:es[k]? =some e) (hm:m=k*sz+o) (hz:0<sz) (hv:(e.drop o).take vs.length=vs) (hn:vs.length=nn):
 SE E ops ⟨some d,.load t x,ty,ps,af,g⟩ D L C (.agg vs.toArray) d:=by
 obtain ⟨B,F,G⟩:=ji h; exact ⟨wN B G ht (Pg hR he hm hz hv) hn,rfl,F⟩
theorem CL {fop:Operand} {xs:Array Operand} {ts:Array TypeId} {f:FuncId} {args:List Value} {Cp:List au} {v:Value} (c:ep E.P f args Cp v) (hC:kx C Cp) (h:cF E.n ops L d g fop xs.toList=some (f,args)):
 SE E ops ⟨some d,.call {callee:= .value fop,args:=xs,argTypes:=ts},ty,ps,af,g⟩ D L C v d:=by
 unfold cF at h
 split at h
 ·rename_i hb
  split at h
  ·rename_i hf hx; cases h; exact ⟨Gw (Pc hb) hf hx rfl c hC,rfl,PA hb⟩
  ·cases h
 ·cases h
theorem FU {fn:Fn} {xs ys:Array Operand} {us vs:List Value} (h:uF E.n ops L d g xs.toList ys.toList=some (us,vs)):SE E ops ⟨some d,.makeFunc fn xs ys,ty,ps,af,g⟩ D L C (.func fn us.toArray vs.toArray) d:=by
 obtain ⟨A,B,F,G⟩:=Rk h; exact ⟨Ng A F G,rfl,B⟩
theorem cX {fop:Operand} {xs:Array Operand} {ts:Array TypeId} {f:FuncId} {args:List Value} {Cp:List au} {α:Type} {V:α→Value} {p:α→Prop} {N:α→List au} (c:ld E.P f args Cp V p N) (hC:kx C Cp)
 (h:cF E.n ops L d g fop xs.toList=some (f,args)) (k: ∀ x,p x→RJ E ops Q rest D ((d,V x)::L) (N x++C)):
 RJ E ops Q (⟨some d,.call {callee:= .value fop,args:=xs,argTypes:=ts},ty,ps,af,g⟩::rest) D L C:=by
 unfold cF at h
 split at h
 ·rename_i hb
  split at h
  ·rename_i hf hx; cases h; exact P0 (Pc hb) hf hx rfl c hC (PA hb) k
  ·cases h
 ·cases h
/-- a box of a struct, of one cell -/
theorem fQ {t:TypeId} {x:Operand} {cs:List Value} (h:vF E.n ops L d g x=some (.agg cs.toArray)) (k: ∀ b,RJ E ops Q rest D ((d,.pointer (some ⟨b,0,none⟩))::L) (cb b t cs::C)):
 RJ E ops Q (⟨some d,.box t x,ty,ps,af,g⟩::rest) D L C:=by
 obtain ⟨A,B,F⟩:=ji h; exact Pd A F rfl B k
theorem uC {t:TypeId} {x:Operand} {v:Value} (h:vF E.n ops L d g x=some v) (hv:v.cells.toList=[v]) (k: ∀ b,RJ E ops Q rest D ((d,.pointer (some ⟨b,0,none⟩))::L) (cb b t [v]::C)):
 RJ E ops Q (⟨some d,.box t x,ty,ps,af,g⟩::rest) D L C:=by
 obtain ⟨A,B,F⟩:=ji h; exact Pd A F hv B k
theorem AL {t:TypeId} {cs:List Value} (h:gB E.n ops L d g=true) (hz:tZ E.P t=some cs) (k: ∀ b,RJ E ops Q rest D ((d,.pointer (some ⟨b,0,none⟩))::L) (cb b t cs::C)):
 RJ E ops Q (⟨some d,.alloc t,ty,ps,af,g⟩::rest) D L C:=OF (Pc h) hz (PA h) k
/-- a store into the block at the place i of the state -/
def sF (ops:Array Oper) (L:di) (g:Option (Nat×Bool)) (x y:Operand):Option (Value×Value):=match jI ops L g with
 |true=>match ev L x,ev L y with
  |some u,some v=>some (u,v)
  |_,_=>none
 |false=>none
theorem Ep {ops:Array Oper} {L:di} {g:Option (Nat×Bool)} {x y:Operand} {u v:Value} (h:sF ops L g x y=some (u,v)):jI ops L g=true∧ev L x=some u∧ev L y=some v:=by
 unfold sF at h
 split at h
 ·rename_i hb
  split at h
  ·rename_i hx hy; cases h; exact ⟨hb,hx,hy⟩
  ·cases h
 ·cases h
theorem NK {t n b o tt:Nat} {x y:Operand} {v:Value} {cs cs':List Value} {C':List au} (i:Nat) (h:sF ops L g x y=some (.pointer (some ⟨b,o,none⟩),v)) (ht:(tK E.P t).map (·.2)=some n) (hC:C[i]? =some (cb b tt cs))
 (hk:(v.cells.toList.length==n&&v.cells.toList.all Value.oneCell'&&Nat.ble (o+n) cs.length)=true) (hcs:cs.take o++v.cells.toList++cs.drop (o+n)=cs') (hC':C.set i (cb b tt cs')=C') (k:RJ E ops Q rest D L C'):
 RJ E ops Q (⟨none,.store t x y,ty,ps,af,g⟩::rest) D L C:=by
 obtain ⟨A,B,F⟩:=Ep h
 simp only [cU,beq_iff_eq] at hk
 exact jC i A B F ht U hk.1.1 hk.1.2 hC hk.2 hcs hC' k
/-- a store of a whole block, by a struct, by one cell -/
theorem Ou {t n b tt:Nat} {x y:Operand} {cs cs':List Value} {C':List au} (i:Nat) (h:sF ops L g x y=some (.pointer (some ⟨b,0,none⟩),.agg cs'.toArray)) (ht:(tK E.P t).map (·.2)=some n) (hC:C[i]? =some (cb b tt cs))
 (hk:(Nat.beq cs'.length n&&cs'.all Value.oneCell'&&Nat.beq n cs.length)=true) (hC':C.set i (cb b tt cs')=C') (k:RJ E ops Q rest D L C'):
 RJ E ops Q (⟨none,.store t x y,ty,ps,af,g⟩::rest) D L C:=by
 obtain ⟨AA,J,K⟩:=Ep h
 simp only [cU] at hk
 obtain ⟨⟨A,B⟩,F⟩:=hk
 have H:=Nat.eq_of_beq_eq_true A
 have G:=Nat.eq_of_beq_eq_true F
 exact jC i AA J K ht U H B hC (by rw [Nat.zero_add,G]; exact Nat.ble_self_eq_true _) (by rw [Nat.zero_add,G,List.take_zero,List.drop_length]; show []++cs'++[]=cs'; simp) hC' k
theorem VF {t n b tt:Nat} {x y:Operand} {v u:Value} {C':List au} (i:Nat) (h:sF ops L g x y=some (.pointer (some ⟨b,0,none⟩),v)) (ht:(tK E.P t).map (·.2)=some n) (hC:C[i]? =some (cb b tt [u]))
 (hv:v.cells.toList=[v]) (hk:(Nat.beq n 1&&v.oneCell')=true) (hC':C.set i (cb b tt [v])=C') (k:RJ E ops Q rest D L C'):
 RJ E ops Q (⟨none,.store t x y,ty,ps,af,g⟩::rest) D L C:=by
 obtain ⟨G,H,AA⟩:=Ep h
 rw [cU] at hk
 obtain ⟨A,B⟩:=hk
 have F:=Nat.eq_of_beq_eq_true A
 subst F
 exact jC i G H AA ht hv U (by simp [B]) hC U U hC' k
theorem fX {t n b tt:Nat} {x y:Operand} {cs cs':List Value} (h:sF ops L g x y=some (.pointer (some ⟨b,0,none⟩),.agg cs'.toArray)) (ht:(tK E.P t).map (·.2)=some n) (hk:(Nat.beq cs'.length n&&cs'.all Value.oneCell'&&Nat.beq n cs.length)=true) (k:RJ E ops Q rest D L (cb b tt cs'::C)):RJ E ops Q (⟨none,.store t x y,ty,ps,af,g⟩::rest) D L (cb b tt cs::C):=Ou 0 h ht rfl hk rfl k
theorem D7 {t n b tt:Nat} {x y:Operand} {v u:Value} (h:sF ops L g x y=some (.pointer (some ⟨b,0,none⟩),v)) (ht:(tK E.P t).map (·.2)=some n) (hv:v.cells.toList=[v]) (hk:(Nat.beq n 1&&v.oneCell')=true) (k:RJ E ops Q rest D L (cb b tt [v]::C)):RJ E ops Q (⟨none,.store t x y,ty,ps,af,g⟩::rest) D L (cb b tt [u]::C):=VF 0 h ht rfl hv hk rfl k
theorem Wd (cs':List Value) {t n b o tt:Nat} {x y:Operand} {v:Value} {cs:List Value} (h:sF ops L g x y=some (.pointer (some ⟨b,o,none⟩),v)) (ht:(tK E.P t).map (·.2)=some n) (hk:(v.cells.toList.length==n&&v.cells.toList.all Value.oneCell'&&Nat.ble (o+n) cs.length)=true) (hcs:cs.take o++v.cells.toList++cs.drop (o+n)=cs') (k:RJ E ops Q rest D L (cb b tt cs'::C)):RJ E ops Q (⟨none,.store t x y,ty,ps,af,g⟩::rest) D L (cb b tt cs::C):=NK 0 h ht rfl hk hcs rfl k
theorem sT {t n b tt:Nat} {x y:Operand} {cs cs':List Value} {A0:au} (h:sF ops L g x y=some (.pointer (some ⟨b,0,none⟩),.agg cs'.toArray)) (ht:(tK E.P t).map (·.2)=some n) (hk:(Nat.beq cs'.length n&&cs'.all Value.oneCell'&&Nat.beq n cs.length)=true) (k:RJ E ops Q rest D L (A0::cb b tt cs'::C)):RJ E ops Q (⟨none,.store t x y,ty,ps,af,g⟩::rest) D L (A0::cb b tt cs::C):=Ou 1 h ht rfl hk rfl k
theorem GG {t n b tt:Nat} {x y:Operand} {cs cs':List Value} {A0 A1:au} (h:sF ops L g x y=some (.pointer (some ⟨b,0,none⟩),.agg cs'.toArray)) (ht:(tK E.P t).map (·.2)=some n) (hk:(Nat.beq cs'.length n&&cs'.all Value.oneCell'&&Nat.beq n cs.length)=true) (k:RJ E ops Q rest D L (A0::A1::cb b tt cs'::C)):RJ E ops Q (⟨none,.store t x y,ty,ps,af,g⟩::rest) D L (A0::A1::cb b tt cs::C):=Ou 2 h ht rfl hk rfl k
theorem VB (cs':List Value) {t n b o tt:Nat} {x y:Operand} {v:Value} {cs:List Value} {A0 A1:au} (h:sF ops L g x y=some (.pointer (some ⟨b,o,none⟩),v)) (ht:(tK E.P t).map (·.2)=some n) (hk:(v.cells.toList.length==n&&v.cells.toList.all Value.oneCell'&&Nat.ble (o+n) cs.length)=true) (hcs:cs.take o++v.cells.toList++cs.drop (o+n)=cs') (k:RJ E ops Q rest D L (A0::A1::cb b tt cs'::C)):RJ E ops Q (⟨none,.store t x y,ty,ps,af,g⟩::rest) D L (A0::A1::cb b tt cs::C):=NK 2 h ht rfl hk hcs rfl k
theorem UH {t n b tt:Nat} {x y:Operand} {cs cs':List Value} {A0 A1 A2:au} (h:sF ops L g x y=some (.pointer (some ⟨b,0,none⟩),.agg cs'.toArray)) (ht:(tK E.P t).map (·.2)=some n) (hk:(Nat.beq cs'.length n&&cs'.all Value.oneCell'&&Nat.beq n cs.length)=true) (k:RJ E ops Q rest D L (A0::A1::A2::cb b tt cs'::C)):RJ E ops Q (⟨none,.store t x y,ty,ps,af,g⟩::rest) D L (A0::A1::A2::cb b tt cs::C):=Ou 3 h ht rfl hk rfl k
theorem U0 {t n b tt:Nat} {x y:Operand} {v u:Value} {A0 A1 A2:au} (h:sF ops L g x y=some (.pointer (some ⟨b,0,none⟩),v)) (ht:(tK E.P t).map (·.2)=some n) (hv:v.cells.toList=[v]) (hk:(Nat.beq n 1&&v.oneCell')=true) (k:RJ E ops Q rest D L (A0::A1::A2::cb b tt [v]::C)):RJ E ops Q (⟨none,.store t x y,ty,ps,af,g⟩::rest) D L (A0::A1::A2::cb b tt [u]::C):=VF 3 h ht rfl hv hk rfl k
theorem Qm (cs':List Value) {t n b o tt:Nat} {x y:Operand} {v:Value} {cs:List Value} {A0 A1 A2:au} (h:sF ops L g x y=some (.pointer (some ⟨b,o,none⟩),v)) (ht:(tK E.P t).map (·.2)=some n) (hk:(v.cells.toList.length==n&&v.cells.toList.all Value.oneCell'&&Nat.ble (o+n) cs.length)=true) (hcs:cs.take o++v.cells.toList++cs.drop (o+n)=cs') (k:RJ E ops Q rest D L (A0::A1::A2::cb b tt cs'::C)):RJ E ops Q (⟨none,.store t x y,ty,ps,af,g⟩::rest) D L (A0::A1::A2::cb b tt cs::C):=NK 3 h ht rfl hk hcs rfl k
theorem PI {t n b tt:Nat} {x y:Operand} {cs cs':List Value} {A0 A1 A2 A3:au} (h:sF ops L g x y=some (.pointer (some ⟨b,0,none⟩),.agg cs'.toArray)) (ht:(tK E.P t).map (·.2)=some n) (hk:(Nat.beq cs'.length n&&cs'.all Value.oneCell'&&Nat.beq n cs.length)=true) (k:RJ E ops Q rest D L (A0::A1::A2::A3::cb b tt cs'::C)):RJ E ops Q (⟨none,.store t x y,ty,ps,af,g⟩::rest) D L (A0::A1::A2::A3::cb b tt cs::C):=Ou 4 h ht rfl hk rfl k
theorem VD (cs':List Value) {t n b o tt:Nat} {x y:Operand} {v:Value} {cs:List Value} {A0 A1 A2 A3:au} (h:sF ops L g x y=some (.pointer (some ⟨b,o,none⟩),v)) (ht:(tK E.P t).map (·.2)=some n) (hk:(v.cells.toList.length==n&&v.cells.toList.all Value.oneCell'&&Nat.ble (o+n) cs.length)=true) (hcs:cs.take o++v.cells.toList++cs.drop (o+n)=cs') (k:RJ E ops Q rest D L (A0::A1::A2::A3::cb b tt cs'::C)):RJ E ops Q (⟨none,.store t x y,ty,ps,af,g⟩::rest) D L (A0::A1::A2::A3::cb b tt cs::C):=NK 4 h ht rfl hk hcs rfl k
theorem ID {t n b tt:Nat} {x y:Operand} {cs cs':List Value} {A0 A1 A2 A3 A4:au} (h:sF ops L g x y=some (.pointer (some ⟨b,0,none⟩),.agg cs'.toArray)) (ht:(tK E.P t).map (·.2)=some n) (hk:(Nat.beq cs'.length n&&cs'.all Value.oneCell'&&Nat.beq n cs.length)=true) (k:RJ E ops Q rest D L (A0::A1::A2::A3::A4::cb b tt cs'::C)):RJ E ops Q (⟨none,.store t x y,ty,ps,af,g⟩::rest) D L (A0::A1::A2::A3::A4::cb b tt cs::C):=Ou 5 h ht rfl hk rfl k
theorem V9 (cs':List Value) {t n b o tt:Nat} {x y:Operand} {v:Value} {cs:List Value} {A0 A1 A2 A3 A4:au} (h:sF ops L g x y=some (.pointer (some ⟨b,o,none⟩),v)) (ht:(tK E.P t).map (·.2)=some n) (hk:(v.cells.toList.length==n&&v.cells.toList.all Value.oneCell'&&Nat.ble (o+n) cs.length)=true) (hcs:cs.take o++v.cells.toList++cs.drop (o+n)=cs') (k:RJ E ops Q rest D L (A0::A1::A2::A3::A4::cb b tt cs'::C)):RJ E ops Q (⟨none,.store t x y,ty,ps,af,g⟩::rest) D L (A0::A1::A2::A3::A4::cb b tt cs::C):=NK 5 h ht rfl hk hcs rfl k
theorem OH {t n b tt:Nat} {x y:Operand} {cs cs':List Value} {A0 A1 A2 A3 A4 A5:au} (h:sF ops L g x y=some (.pointer (some ⟨b,0,none⟩),.agg cs'.toArray)) (ht:(tK E.P t).map (·.2)=some n) (hk:(Nat.beq cs'.length n&&cs'.all Value.oneCell'&&Nat.beq n cs.length)=true) (k:RJ E ops Q rest D L (A0::A1::A2::A3::A4::A5::cb b tt cs'::C)):RJ E ops Q (⟨none,.store t x y,ty,ps,af,g⟩::rest) D L (A0::A1::A2::A3::A4::A5::cb b tt cs::C):=Ou 6 h ht rfl hk rfl k
theorem Wf {t n b tt:Nat} {x y:Operand} {v u:Value} {A0 A1 A2 A3 A4 A5:au} (h:sF ops L g x y=some (.pointer (some ⟨b,0,none⟩),v)) (ht:(tK E.P t).map (·.2)=some n) (hv:v.cells.toList=[v]) (hk:(Nat.beq n 1&&v.oneCell')=true) (k:RJ E ops Q rest D L (A0::A1::A2::A3::A4::A5::cb b tt [v]::C)):RJ E ops Q (⟨none,.store t x y,ty,ps,af,g⟩::rest) D L (A0::A1::A2::A3::A4::A5::cb b tt [u]::C):=VF 6 h ht rfl hv hk rfl k
theorem UG (cs':List Value) {t n b o tt:Nat} {x y:Operand} {v:Value} {cs:List Value} {A0 A1 A2 A3 A4 A5:au} (h:sF ops L g x y=some (.pointer (some ⟨b,o,none⟩),v)) (ht:(tK E.P t).map (·.2)=some n) (hk:(v.cells.toList.length==n&&v.cells.toList.all Value.oneCell'&&Nat.ble (o+n) cs.length)=true) (hcs:cs.take o++v.cells.toList++cs.drop (o+n)=cs') (k:RJ E ops Q rest D L (A0::A1::A2::A3::A4::A5::cb b tt cs'::C)):RJ E ops Q (⟨none,.store t x y,ty,ps,af,g⟩::rest) D L (A0::A1::A2::A3::A4::A5::cb b tt cs::C):=NK 6 h ht rfl hk hcs rfl k
theorem Wi (cs':List Value) {t n b o tt:Nat} {x y:Operand} {v:Value} {cs:List Value} {A0 A1 A2 A3 A4 A5 A6:au} (h:sF ops L g x y=some (.pointer (some ⟨b,o,none⟩),v)) (ht:(tK E.P t).map (·.2)=some n) (hk:(v.cells.toList.length==n&&v.cells.toList.all Value.oneCell'&&Nat.ble (o+n) cs.length)=true) (hcs:cs.take o++v.cells.toList++cs.drop (o+n)=cs') (k:RJ E ops Q rest D L (A0::A1::A2::A3::A4::A5::A6::cb b tt cs'::C)):RJ E ops Q (⟨none,.store t x y,ty,ps,af,g⟩::rest) D L (A0::A1::A2::A3::A4::A5::A6::cb b tt cs::C):=NK 7 h ht rfl hk hcs rfl k
theorem Wc {t n b tt:Nat} {x y:Operand} {cs cs':List Value} {A0 A1 A2 A3 A4 A5 A6 A7:au} (h:sF ops L g x y=some (.pointer (some ⟨b,0,none⟩),.agg cs'.toArray)) (ht:(tK E.P t).map (·.2)=some n) (hk:(Nat.beq cs'.length n&&cs'.all Value.oneCell'&&Nat.beq n cs.length)=true) (k:RJ E ops Q rest D L (A0::A1::A2::A3::A4::A5::A6::A7::cb b tt cs'::C)):RJ E ops Q (⟨none,.store t x y,ty,ps,af,g⟩::rest) D L (A0::A1::A2::A3::A4::A5::A6::A7::cb b tt cs::C):=Ou 8 h ht rfl hk rfl k
theorem Wb (cs':List Value) {t n b o tt:Nat} {x y:Operand} {v:Value} {cs:List Value} {A0 A1 A2 A3 A4 A5 A6 A7:au} (h:sF ops L g x y=some (.pointer (some ⟨b,o,none⟩),v)) (ht:(tK E.P t).map (·.2)=some n) (hk:(v.cells.toList.length==n&&v.cells.toList.all Value.oneCell'&&Nat.ble (o+n) cs.length)=true) (hcs:cs.take o++v.cells.toList++cs.drop (o+n)=cs') (k:RJ E ops Q rest D L (A0::A1::A2::A3::A4::A5::A6::A7::cb b tt cs'::C)):RJ E ops Q (⟨none,.store t x y,ty,ps,af,g⟩::rest) D L (A0::A1::A2::A3::A4::A5::A6::A7::cb b tt cs::C):=NK 8 h ht rfl hk hcs rfl k
theorem UP (cs':List Value) {t n b o tt:Nat} {x y:Operand} {v:Value} {cs:List Value} {A0 A1 A2 A3 A4 A5 A6 A7 A8 A9:au} (h:sF ops L g x y=some (.pointer (some ⟨b,o,none⟩),v)) (ht:(tK E.P t).map (·.2)=some n) (hk:(v.cells.toList.length==n&&v.cells.toList.all Value.oneCell'&&Nat.ble (o+n) cs.length)=true) (hcs:cs.take o++v.cells.toList++cs.drop (o+n)=cs') (k:RJ E ops Q rest D L (A0::A1::A2::A3::A4::A5::A6::A7::A8::A9::cb b tt cs'::C)):RJ E ops Q (⟨none,.store t x y,ty,ps,af,g⟩::rest) D L (A0::A1::A2::A3::A4::A5::A6::A7::A8::A9::cb b tt cs::C):=NK 10 h ht rfl hk hcs rfl k
theorem Vm {t n b tt:Nat} {x y:Operand} {cs cs':List Value} {A0 A1 A2 A3 A4 A5 A6 A7 A8 A9 A10:au} (h:sF ops L g x y=some (.pointer (some ⟨b,0,none⟩),.agg cs'.toArray)) (ht:(tK E.P t).map (·.2)=some n) (hk:(Nat.beq cs'.length n&&cs'.all Value.oneCell'&&Nat.beq n cs.length)=true) (k:RJ E ops Q rest D L (A0::A1::A2::A3::A4::A5::A6::A7::A8::A9::A10::cb b tt cs'::C)):RJ E ops Q (⟨none,.store t x y,ty,ps,af,g⟩::rest) D L (A0::A1::A2::A3::A4::A5::A6::A7::A8::A9::A10::cb b tt cs::C):=Ou 11 h ht rfl hk rfl k
end
section
variable {E:fh} {y:Code} {Q:cZ} {D:List Deferred} {L:List (Nat×Value)} {C:List au}
theorem WS {id:Nat} {ops:Array Oper} (h: ∀ K:Act→World→Prop,(∀ D L C,WJ E y Q D L C→KJ E K D L C)→RJ E ops (Exit.then K Q) ops.toList D L C):WJ E (.seq (.region id ops false) y) Q D L C:=aj fun K hK=>ak (h K hK)
theorem RK {ops:Array Oper} {K:Act→World→Prop} {Q':cZ} (hK: ∀ D L C,WJ E y Q D L C→KJ E K D L C) (k:WJ E y Q D L C):RJ E ops (Exit.then K Q') [] D L C:=aC (aR (hK _ _ _ k))
theorem KK {K:Act→World→Prop} {Q':cZ} (hK: ∀ D L C,WJ E y Q D L C→KJ E K D L C) (k:WJ E y Q D L C):KJ E (Exit.then K Q' .normal) D L C:=aR (hK _ _ _ k)
theorem WK {K:Act→World→Prop} {Q':cZ} (hK: ∀ D L C,WJ E y Q D L C→KJ E K D L C) (k:WJ E y Q D L C):WJ E .skip (Exit.then K Q') D L C:=bZ (aR (hK _ _ _ k))
end
theorem DT {p:Prop} [Decidable p] (h:decide p=true):p:=of_decide_eq_true h
theorem DF {p:Prop} [Decidable p] (h:decide p=false): ¬ p:=of_decide_eq_false h
theorem XT {p:Prop} [Decidable p] (h:(!decide p)=true): ¬ p:=by simpa using h
theorem XF {p:Prop} [Decidable p] (h:(!decide p)=false):p:=by simpa using h
/-- what a function hands back: one result, two, three, that lie in slots -/
theorem Q1 {E:fh} {fn:Func} {K:Act→World→Prop} {L:di} {C:List au} {t:Nat} {u v:Value} (hQ: ∀ D L C,LJ E fn (BV E.w0 v) D L C→KJ E K D L C) (hS:E.S=tS) (hr:fn.results.toList=[.tmp t]) (hl:L.lookup t=some u) (e:u=v):KJ E K [] L C:=
 hQ _ _ _ (hE (vs:=[u]) (by rw [hr]; exact ⟨hl,trivial⟩) fun w hs=>EU e (by rw [hS] at hs; exact hs))
theorem Q2 {E:fh} {fn:Func} {K:Act→World→Prop} {L:di} {C:List au} {t s:Nat} {u x v:Value} (hQ: ∀ D L C,LJ E fn (BV E.w0 v) D L C→KJ E K D L C) (hS:E.S=tS) (hr:fn.results.toList=[.tmp t,.tmp s]) (hl:L.lookup t=some u) (hm:L.lookup s=some x) (e:vT [u,x]=v):KJ E K [] L C:=
 hQ _ _ _ (hE (vs:=[u,x]) (by rw [hr]; exact ⟨hl,hm,trivial⟩) fun w hs=>EU e (by rw [hS] at hs; exact hs))
theorem N1 {E:fh} {ops:Array Oper} {D:gV} {C' C1:List au} {F:di→List au→Prop} {tb rem:List Nat} {n:Nat} {L:di} {C:List au} (i:Nat)
 (h:Cd E ops D C' C1 F tb n (rem.filter (· != i)) i L C) (hm:rem.filter (fun i=>rem.all fun j=> !iE (p9 ops) j i)=[i]:=by kernel_rfl):TN E ops D C' C1 F tb (n+1) rem L C:=iX [i] hm (eN h kB)
theorem NO {E:fh} {ops:Array Oper} {D:gV} {C' C1:List au} {F:di→List au→Prop} {tb rem:List Nat} {n i:Nat} {L:di} {C:List au} {o:Oper} (ho:ops[i]? =some o) (ht:tb.contains i=false) (rem':List Nat)
 (h: ∀ K:Act→World→Prop,(∀ L' C'',(∀ w,St E.S E.w0 C'' w→St E.S E.w0 C' w)→TN E ops D C' C1 F tb n rem' L' C''→KJ E K D L' C'')→RJ E ops (NQ K) [o] D L C) (hr:rem=rem':=by kernel_rfl):Cd E ops D C' C1 F tb n rem i L C:=il ho hr ht h
theorem RD {E:fh} {ops:Array Oper} {K:Act→World→Prop} {D:gV} {L:di} {C C':List au} {X:di→List au→Prop} (hT: ∀ L' C'',(∀ w,St E.S E.w0 C'' w→St E.S E.w0 C' w)→X L' C''→KJ E K D L' C'')
 (k:Nat) (h2:C.drop k=C') (h:X L C):RJ E ops (NQ K) [] D L C:=aC (hT _ _ (fun w hs=>h2▸hs.take (List.drop_sublist k C)) h)
theorem aV {L L':di} (h:L'.map (fun p=>L.lookup p.1)=L'.map (fun p=>some p.2)):du L L':=by
 induction L' with
 |nil=>exact du.nil _
 |cons p t ih=>
  simp only [List.map_cons,List.cons.injEq] at h
  exact du.cons h.1 (ih h.2)
theorem Oq {C:List au} {A A' B B' D D':au} (i j k:Nat) (h1:C[i]? =some A') (e1:A'.holds=A.holds) (h2:C[j]? =some B') (e2:B'.holds=B.holds) (h3:C[k]? =some D') (e3:D'.holds=D.holds):kx C [A,B,D]:=fj i h1 e1 (fj j h2 e2 (fj k h3 e3 aI))
theorem bQ {E:fh} {c:Operand} {x y:Code} {b:Bool} {Q:cZ} {D:List Deferred} {L:List (Nat×Value)} {C:List au} (hc:ev L c=some (.bool b)) (h2:b=false→WJ E y Q D L C) (h1:b=true→WJ E x Q D L C):WJ E (.cond c x y) Q D L C:=cH hc h1 h2
theorem bY {E:fh} {ops:Array Oper} {Q:cZ} {rest:List Oper} {D:List Deferred} {L:List (Nat×Value)} {C:List au} {t:Nat} {b:Bool} (h:L.lookup t=some (.bool b)) (h2:b=false→RJ E ops Q rest D ((t,.bool false)::L) C) (h1:b=true→RJ E ops Q rest D ((t,.bool true)::L) C):RJ E ops Q rest D L C:=dh h h1 h2
theorem jy {E:fh} {ops:Array Oper} {Q:cZ} {rest:List Oper} {D:List Deferred} {L:List (Nat×Value)} {C:List au} {t:Nat} {b:Bool} {os:List Oper} (h:L.lookup t=some (.bool b)) (h2:b=false→DJ E ops D C (fun L2=>RJ E ops Q rest D L2 C) os ((t,.bool false)::L)) (h1:b=true→DJ E ops D C (fun L2=>RJ E ops Q rest D L2 C) os ((t,.bool true)::L)):DJ E ops D C (fun L2=>RJ E ops Q rest D L2 C) os L:=jf h h1 h2
theorem cK {L:List (Nat×Value)}: ∀ (k:Nat) {L2:List (Nat×Value)} (q:du L (L2.drop k)) (h:(L2.take k).map (fun p=>L.lookup p.1)=(L2.take k).map (fun p=>some p.2):=by rfl),du L L2
 |0,_,q,_=>q
 |_+1,[],_,_=>du.nil _
 |k+1,p::L2,q,h=>by
  obtain ⟨A,B⟩:=List.cons.inj (show L.lookup p.1::(L2.take k).map (fun p=>L.lookup p.1)=some p.2::(L2.take k).map (fun p=>some p.2) from h)
  exact du.cons (t:=p.1) (v:=p.2) A (cK k q B)
theorem oX {E:fh} {ops:Array Oper} {Q:cZ} {rest:List Oper} {D:List Deferred} {L:List (Nat×Value)} {C:List au} {d:Nat} {ty:TypeId} {ps:String} {af:Array Edge} {g:Option (Nat×Bool)} {op:Op} (k:RJ E ops Q rest D ((d,undef)::L) C) (h:(Dw ops L g&&Nat.blt d E.n)=true:=by rfl):RJ E ops Q (⟨some d,op,ty,ps,af,g⟩::rest) D L C:=rS (OX h) k
theorem dX {E:fh} {ops:Array Oper} {F:List (Nat×Value)→Prop} {rest:List Oper} {D:List Deferred} {L:List (Nat×Value)} {C:List au} {d:Nat} {ty:TypeId} {ps:String} {af:Array Edge} {g:Option (Nat×Bool)} {op:Op} (k:DJ E ops D C F rest ((d,undef)::L)) (h:(Dw ops L g&&Nat.blt d E.n)=true:=by rfl):DJ E ops D C F (⟨some d,op,ty,ps,af,g⟩::rest) L:=dS (OX h) k
end
section
open Go.RowKit
/-- what of a slice is left from k on -/
def Al (A:OA) (c k sz:Nat):OA:=if c=k then A else A.map (·.add (k*sz))
section
variable {E:fh} {ops:Array Oper} {Q:cZ} {rest:List Oper} {D:List Deferred} {L:List (Nat×Value)} {C:List au}
variable {d:Nat} {ty:TypeId} {ps:String} {af:Array Edge} {g:Option (Nat×Bool)}
theorem FQ {P:Program} {t e sz:Nat} (h:tE P t=some (e,sz)) (w:World):P.underlying t=some (.slice e)∧(sizeOf e).run P w= .ok sz w:=by
 unfold tE at h
 split at h
 ·rename_i e' hu
  split at h
  ·rename_i i hi
   cases h
   exact ⟨hu,by simp [sizeOf,typeInfo,hi]⟩
  ·cases h
 ·cases h
theorem vW {P:Program} {t e:Nat} (h:P.underlying t=some (.slice e)):P.underlying t=some (.slice (P.elem t)):=by
 rw [h]; simp [Program.elem,h]
theorem Fi {P:Program} {t e:Nat} (h:P.underlying t=some (.slice e)):P.elem t=e:=by simp [Program.elem,h]
/-- s[k:] -/
theorem V2 (k:Nat) {x lo:Operand} {t e sz n c:Nat} {A:OA} {j:Int} (h:bF E.n ops L d g x lo=some (.slice A n c,.int .i64 j)) (ht:tE E.P t=some (e,sz)) (hj:j=(k:Int)) (hk:k≤n):
 SE E ops ⟨some d,.slice t x (some lo) none none,ty,ps,af,g⟩ D L C (.slice (Al A c k sz) (n-k) (c-k)) d:=by
 obtain ⟨G,H,AA,J⟩:=qW h
 subst hj
 refine ⟨dR G sm fun a w B hs=>?_,U,H⟩
 obtain ⟨hu,hz⟩:=FQ ht w
 have hr:=run_slice_l (P:=E.P) w t A n c (vW hu) .i64 (k:Int) I I
 rw [Fi hu,hz] at hr
 simp only [Result.andThen,Int.toNat_natCast,sliced] at hr
 have F:=run_sliceAt_slice (P:=E.P) w t (.slice A n c) (some (.int .i64 (k:Int))) none none (vW hu)
 simp [execOp,B.ev AA,B.ev J,F,hr,Al]
/-- s[:k] -/
theorem UE (k:Nat) {x hi:Operand} {t e sz n c:Nat} {A:OA} {j:Int} (h:bF E.n ops L d g x hi=some (.slice A n c,.int .i64 j)) (ht:tE E.P t=some (e,sz)) (hj:j=(k:Int)) (hk:k≤c):
 SE E ops ⟨some d,.slice t x none (some hi) none,ty,ps,af,g⟩ D L C (.slice A k c) d:=by
 obtain ⟨H,AA,J,K⟩:=qW h
 subst hj
 refine ⟨dR H sm fun a w B hs=>?_,U,AA⟩
 obtain ⟨hu,hz⟩:=FQ ht w
 have hr:=run_slice_h (P:=E.P) w t A n c (vW hu) .i64 (k:Int) I I
 rw [Fi hu,hz] at hr
 have G:(if c=0 then A else A.map (·.add (0*sz)))=A:=by
  split
  ·rfl
  ·cases A with
   |none=>rfl
   |some ad=>simp [Addr.add]
 simp only [Result.andThen,Int.toNat_natCast,sliced,G,Nat.sub_zero] at hr
 have F:=run_sliceAt_slice (P:=E.P) w t (.slice A n c) none (some (.int .i64 (k:Int))) none (vW hu)
 simp [execOp,B.ev J,B.ev K,F,hr]
/-- an element of a row whose place is known -/
theorem Wa (k:Nat) {x ix:Operand} {A:OA} {ad:Addr} {n c sz e t:Nat} {j:Int} (h:bF E.n ops L d g x ix=some (.slice A n c,.int .i64 j)) (hA:A=some ad) (ht:tE E.P t=some (e,sz)) (hj:j=(k:Int)) (hk:k<n):
 SE E ops ⟨some d,.indexAddr t x ix,ty,ps,af,g⟩ D L C (.pointer (l4 A (k*sz))) d:=by
 obtain ⟨F,G,H,AA⟩:=qW h
 refine ⟨dR F sm fun a w B hs=>?_,U,G⟩
 subst hA hj
 simp [execOp,B.ev H,B.ev AA,l4,qz ht hk]
end
theorem AR {w:World} {a:OA} {c e sz:Nat} {es:List (List Value)} (h:(own a c e sz es).holds w):es.length≤c:=by
 rcases h.2.2 with ⟨A,B⟩|⟨g,cap,cur,hv,_,_,C,_⟩
 ·omega
 ·injection hv with _ _ hc; omega
end
section
open Go.RowKit
/-- an array's length, its elements' type and their size -/
def aE (P:Program) (t:TypeId):Option (Nat×TypeId×Nat):=
 match P.underlying t with
 |some (.array n e)=>match P.info? e with
  |some i=>some (n,e,i.size)
  |none=>none
 |_=>none
theorem GH {P:Program} {t n e sz:Nat} (h:aE P t=some (n,e,sz)) (w:World):P.underlying t=some (.array n e)∧(sizeOf e).run P w= .ok sz w:=by
 unfold aE at h
 split at h
 ·rename_i n' e' hu
  split at h
  ·rename_i i hi
   cases h
   exact ⟨hu,by simp [sizeOf,typeInfo,hi]⟩
  ·cases h
 ·cases h
theorem vL {P:Program} {t n e sz:Nat} (h:aE P t=some (n,e,sz)) (a:Addr) (w:World):
 (Instr.sliceAt t (.pointer (some a)) none none none).run P w= .ok (.slice (some a) n n) w:=by
 obtain ⟨hu,hz⟩:=GH h w
 have A:a.add 0=a:=by simp [Addr.add]
 simp [Instr.sliceAt,underlying,hu,Instr.sureAddr,Instr.sliceBounds,hz,A]
theorem vN {P:Program} {t n e sz:Nat} (h:aE P t=some (n,e,sz)) (a:Addr) {k:Nat} (hk:k<n) (w:World):
 (Instr.indexAt t (.pointer (some a)) (.int .i64 (k:Int))).run P w= .ok (.pointer (some (a.add (k*sz)))) w:=by
 obtain ⟨hu,hz⟩:=GH h w
 have A: ¬ n≤k:=by omega
 simp [Instr.indexAt,underlying,hu,Instr.sureAddr,asIntOf,hz,A]
 try exact fun h=>absurd h A
 try omega
section
variable {E:fh} {ops:Array Oper} {Q:cZ} {rest:List Oper} {D:List Deferred} {L:List (Nat×Value)} {C:List au}
variable {dst:Option Nat} {ty:TypeId} {ps:String} {af:Array Edge} {g:Option (Nat×Bool)}
theorem EV {x:Operand} {a:Addr} {t n e sz:Nat} (hg:jI ops L g=true) (hx:ev L x=some (.pointer (some a))) (ht:aE E.P t=some (n,e,sz)):
 SD E ops ⟨dst,.slice t x none none none,ty,ps,af,g⟩ D L C (.slice (some a) n n):=
 dR hg sm fun b w A hs=>by
  simp [execOp,A.ev hx,vL ht]
theorem E5 {x ix:Operand} {a:Addr} {t n e sz k:Nat} {j:Int} (hg:jI ops L g=true) (hx:ev L x=some (.pointer (some a))) (hi:ev L ix=some (.int .i64 j)) (ht:aE E.P t=some (n,e,sz)) (hj:j=(k:Int)) (hk:k<n):
 SD E ops ⟨dst,.indexAddr t x ix,ty,ps,af,g⟩ D L C (.pointer (l4 (some a) (k*sz))):=
 dR hg sm fun b w A hs=>by
  subst hj
  simp [execOp,A.ev hx,A.ev hi,l4,vN ht a hk]
end
end
section
open Go.RowKit
/-- a table of facts on the program's types -/
structure DB where
 tk:List (Nat×Bool×Nat)
 fo:List (Nat×List (Option Nat))
 sl:List Nat
def RF {α:Type}:List (Nat×α)→Nat→Option α
 |[],_=>none
 |(k,v)::l,t=>match Nat.beq k t with
  |true=>some v
  |false=>RF l t
theorem z9 {α:Type}: ∀ {l:List (Nat×α)} {t:Nat} {v:α},RF l t=some v→(t,v)∈l
 |[],t,v,h=>by simp [RF] at h
 |(k,u)::l,t,v,h=>by
  unfold RF at h
  split at h
  ·rename_i hb
   cases h
   rw [Nat.eq_of_beq_eq_true hb]; exact cm
  ·exact cV _ (z9 h)
def MI:List Nat→Nat→Bool
 |[],_=>false
 |k::l,t=>match Nat.beq k t with
  |true=>true
  |false=>MI l t
theorem B4: ∀ {l:List Nat} {t:Nat},MI l t=true→t∈l
 |[],t,h=>by simp [MI] at h
 |k::l,t,h=>by
  unfold MI at h
  split at h
  ·rename_i hb
   rw [Nat.eq_of_beq_eq_true hb]; exact cm
  ·exact cV _ (B4 h)
def DB.IW (T:DB) (t:Nat):Option (Bool×Nat):=RF T.tk t
def DB.foF (T:DB) (s f:Nat):Option Nat:=match RF T.fo s with
 |some l=>match l[f]? with
  |some (some k)=>some k
  |_=>none
 |none=>none
structure lf (P:Program) (T:DB):Prop where
 tk: ∀ p∈T.tk,tK P p.1=some p.2
 fo: ∀ p∈T.fo,∀ f k,p.2[f]? =some (some k)→q6 P p.1 f=some k
 sl: ∀ t∈T.sl,∃ e,P.underlying t=some (.slice e)
theorem lf.IW {P:Program} {T:DB} (h:lf P T) {t:Nat} {r:Bool×Nat} (e:T.IW t=some r):tK P t=some r:=h.tk _ (z9 e)
theorem lf.foF {P:Program} {T:DB} (h:lf P T) {s f k:Nat} (e:T.foF s f=some k):q6 P s f=some k:=by
 unfold DB.foF at e
 split at e
 ·rename_i l hl
  split at e
  ·rename_i k' hk
   cases e
   exact h.fo _ (z9 hl) f k hk
  ·cases e
 ·cases e
def Ux (P:Program) (T:DB):Bool:=(T.tk.all fun p=>decide (tK P p.1=some p.2))&&(T.fo.all fun p=>(List.range p.2.length).all fun f=>match p.2[f]? with
 |some (some k)=>decide (q6 P p.1 f=some k)
 |_=>true)&&T.sl.all fun t=>match P.underlying t with
 |some (.slice _)=>true
 |_=>false
theorem QJ {P:Program} {T:DB} (h:Ux P T=true):lf P T:=by
 unfold Ux at h
 rw [cU,cU] at h
 obtain ⟨⟨B,C⟩,D⟩:=h
 refine ⟨fun p hp=>by simpa using cT.1 B p hp,fun p hp f k hk=>?_,fun t ht=>?_⟩
 ·have A:=cT.1 (cT.1 C p hp) f (List.mem_range.2 (aS.1 hk).1)
  rw [hk] at A
  simpa using A
 ·have A:=cT.1 D t ht
  split at A
  ·rename_i e he; exact ⟨e,he⟩
  ·cases A
end
section
theorem OW:tK Tryz.prog 3=some (false,1):=by kernel_rfl
theorem Wj:tK Tryz.prog 4=some (false,1):=by kernel_rfl
theorem VP:tK Tryz.prog 22=some (false,1):=by kernel_rfl
theorem Uc:tK Tryz.prog 24=some (true,1):=by kernel_rfl
theorem Qc:tK Tryz.prog 25=some (false,1):=by kernel_rfl
theorem Vy:tK Tryz.prog 26=some (false,1):=by kernel_rfl
theorem VZ:tK Tryz.prog 28=some (true,7):=by kernel_rfl
theorem Vc:tK Tryz.prog 29=some (false,1):=by kernel_rfl
theorem VQ:tK Tryz.prog 30=some (false,1):=by kernel_rfl
theorem Sq:tK Tryz.prog 32=some (true,11):=by kernel_rfl
theorem VL:tK Tryz.prog 40=some (false,1):=by kernel_rfl
theorem UK:tK Tryz.prog 43=some (false,1):=by kernel_rfl
theorem Vu:tK Tryz.prog 45=some (true,2):=by kernel_rfl
theorem U7:tK Tryz.prog 47=some (false,1):=by kernel_rfl
theorem Um:tK Tryz.prog 51=some (false,1):=by kernel_rfl
theorem UN:tK Tryz.prog 53=some (true,2):=by kernel_rfl
theorem Ve:tK Tryz.prog 55=some (true,3):=by kernel_rfl
theorem Rd:tK Tryz.prog 56=some (false,1):=by kernel_rfl
theorem VM:tK Tryz.prog 58=some (false,1):=by kernel_rfl
theorem Vg:tK Tryz.prog 60=some (true,3):=by kernel_rfl
theorem U6:tK Tryz.prog 62=some (true,7):=by kernel_rfl
theorem VI:tK Tryz.prog 94=some (false,1):=by kernel_rfl
theorem Ug:tK Tryz.prog 107=some (true,2):=by kernel_rfl
theorem S9:tK Tryz.prog 109=some (false,1):=by kernel_rfl
theorem SP:tK Tryz.prog 110=some (false,1):=by kernel_rfl
theorem Tb:tK Tryz.prog 153=some (true,9):=by kernel_rfl
theorem S_:tK Tryz.prog 158=some (true,3):=by kernel_rfl
theorem Tf:tK Tryz.prog 164=some (false,1):=by kernel_rfl
theorem Sa:tK Tryz.prog 170=some (false,1):=by kernel_rfl
theorem R_:tK Tryz.prog 172=some (true,2):=by kernel_rfl
theorem SW:tK Tryz.prog 180=some (true,1):=by kernel_rfl
theorem Td:tK Tryz.prog 181=some (true,4):=by kernel_rfl
theorem TW:tK Tryz.prog 237=some (true,1):=by kernel_rfl
theorem RQ:tK Tryz.prog 264=some (false,1):=by kernel_rfl
theorem TB:tK Tryz.prog 266=some (true,3):=by kernel_rfl
theorem Cw:(tK Tryz.prog 3).map (·.2)=some 1:=by rw [OW]; rfl
theorem UQ:(tK Tryz.prog 22).map (·.2)=some 1:=by rw [VP]; rfl
theorem SV:(tK Tryz.prog 24).map (·.2)=some 1:=by rw [Uc]; rfl
theorem Sk:(tK Tryz.prog 25).map (·.2)=some 1:=by rw [Qc]; rfl
theorem Tj:(tK Tryz.prog 26).map (·.2)=some 1:=by rw [Vy]; rfl
theorem Rg:(tK Tryz.prog 28).map (·.2)=some 7:=by rw [VZ]; rfl
theorem xn:(tK Tryz.prog 29).map (·.2)=some 1:=by rw [Vc]; rfl
theorem Qt:(tK Tryz.prog 30).map (·.2)=some 1:=by rw [VQ]; rfl
theorem rM:(tK Tryz.prog 32).map (·.2)=some 11:=by rw [Sq]; rfl
theorem Jg:(tK Tryz.prog 40).map (·.2)=some 1:=by rw [VL]; rfl
theorem Vq:(tK Tryz.prog 43).map (·.2)=some 1:=by rw [UK]; rfl
theorem cx:(tK Tryz.prog 45).map (·.2)=some 2:=by rw [Vu]; rfl
theorem VC:(tK Tryz.prog 47).map (·.2)=some 1:=by rw [U7]; rfl
theorem S3:(tK Tryz.prog 51).map (·.2)=some 1:=by rw [Um]; rfl
theorem Tv:(tK Tryz.prog 53).map (·.2)=some 2:=by rw [UN]; rfl
theorem AX:(tK Tryz.prog 55).map (·.2)=some 3:=by rw [Ve]; rfl
theorem RT:(tK Tryz.prog 56).map (·.2)=some 1:=by rw [Rd]; rfl
theorem SU:(tK Tryz.prog 58).map (·.2)=some 1:=by rw [VM]; rfl
theorem Rl:(tK Tryz.prog 60).map (·.2)=some 3:=by rw [Vg]; rfl
theorem Rp:(tK Tryz.prog 62).map (·.2)=some 7:=by rw [U6]; rfl
theorem TR:(tK Tryz.prog 94).map (·.2)=some 1:=by rw [VI]; rfl
theorem wV:(tK Tryz.prog 107).map (·.2)=some 2:=by rw [Ug]; rfl
theorem Se:(tK Tryz.prog 109).map (·.2)=some 1:=by rw [S9]; rfl
theorem SS:(tK Tryz.prog 110).map (·.2)=some 1:=by rw [SP]; rfl
theorem JU:(tK Tryz.prog 153).map (·.2)=some 9:=by rw [Tb]; rfl
theorem Kf:(tK Tryz.prog 158).map (·.2)=some 3:=by rw [S_]; rfl
theorem yU:(tK Tryz.prog 164).map (·.2)=some 1:=by rw [Tf]; rfl
theorem Mb:(tK Tryz.prog 170).map (·.2)=some 1:=by rw [Sa]; rfl
theorem rW:(tK Tryz.prog 172).map (·.2)=some 2:=by rw [R_]; rfl
theorem Fx:(tK Tryz.prog 180).map (·.2)=some 1:=by rw [SW]; rfl
theorem Ta:(tK Tryz.prog 181).map (·.2)=some 4:=by rw [Td]; rfl
theorem Mu:(tK Tryz.prog 237).map (·.2)=some 1:=by rw [TW]; rfl
theorem Tk:(tK Tryz.prog 264).map (·.2)=some 1:=by rw [RQ]; rfl
theorem RO:(tK Tryz.prog 266).map (·.2)=some 3:=by rw [TB]; rfl
theorem zD:aE Tryz.prog 188=some (3,187,2):=by kernel_rfl
theorem Jw:q6 Tryz.prog 28 2=some 2:=by kernel_rfl
theorem Mp:q6 Tryz.prog 53 1=some 1:=by kernel_rfl
theorem Ri:q6 Tryz.prog 62 0=some 0:=by kernel_rfl
theorem Vz:rN Tryz.prog 45=true:=by kernel_rfl
theorem U4:rN Tryz.prog 69=true:=by kernel_rfl
theorem VK:rN Tryz.prog 82=true:=by kernel_rfl
theorem g6 (l:List aa): ∀ v∈(l.map aa.cells).flatten,v.oneCell'=true:=mE (fun _=>rfl) l
theorem pZ (l:List cz): ∀ v∈(l.map cz.cells).flatten,v.oneCell'=true:=mE (fun _=>rfl) l
theorem oD (l:List aK): ∀ v∈(l.map aK.cells).flatten,v.oneCell'=true:=mE (fun _=>rfl) l
theorem nQ (l:List al): ∀ v∈(l.map al.cells).flatten,v.oneCell'=true:=mE (fun _=>rfl) l
theorem qd (l:List bH): ∀ v∈(l.map bH.cells).flatten,v.oneCell'=true:=mE (fun _=>rfl) l
theorem RS:tA Tryz.prog 22=some (153,9,72,(Value.agg [(vI 0),(vI 0),(vI 0),(vI 0),(vI 0),(vI 0),(vI 0),(Value.int .u8 0),(vI 0)].toArray)):=by kernel_rfl
theorem RH:tA Tryz.prog 25=some (53,2,32,(Value.agg [(vI 0),(vS none 0 0)].toArray)):=by kernel_rfl
theorem To:tA Tryz.prog 26=some (160,4,32,(Value.agg [(vI 0),(vI 0),(vI 0),(vI 0)].toArray)):=by kernel_rfl
theorem o2:tA Tryz.prog 29=some (3,1,8,(vI 0)):=by kernel_rfl
theorem Sn:tA Tryz.prog 30=some (56,1,24,(vS none 0 0)):=by kernel_rfl
theorem SY:tA Tryz.prog 51=some (55,3,24,(Value.agg [(vI 0),(vI 0),(vI 0)].toArray)):=by kernel_rfl
theorem SH:tA Tryz.prog 56=some (62,7,64,(Value.agg [(vB false),(vB false),(vI 0),(vI 0),(vI 0),(vI 0),(vS none 0 0)].toArray)):=by kernel_rfl
theorem RY:tA Tryz.prog 58=some (107,2,16,(Value.agg [(vI 0),(vI 0)].toArray)):=by kernel_rfl
theorem UL:tA Tryz.prog 66=some (29,1,24,(vS none 0 0)):=by kernel_rfl
theorem xq:tA Tryz.prog 109=some (45,2,16,(Value.agg [(vI 0),(vI 0)].toArray)):=by kernel_rfl
theorem PD:tA Tryz.prog 110=some (109,1,24,(vS none 0 0)):=by kernel_rfl
theorem Ur:tA Tryz.prog 163=some (40,1,8,(Value.map none)):=by kernel_rfl
theorem Dj:tA Tryz.prog 164=some (170,1,8,(Value.map none)):=by kernel_rfl
theorem PM:tA Tryz.prog 257=some (269,3,72,(Value.agg [(vS none 0 0),(vS none 0 0),(vS none 0 0)].toArray)):=by kernel_rfl
theorem Tw:tA Tryz.prog 264=some (4,1,1,(vB false)):=by kernel_rfl
theorem Uo:tB Tryz.prog 24=some ([(vS none 0 0)],[(0,1)]):=by kernel_rfl
theorem VT:tB Tryz.prog 28=some ([(vS none 0 0),(vI 0),(vS none 0 0),(vS none 0 0),(vI 0),(vI 0),(vI 0)],[(0,1),(1,1),(2,1),(3,1),(4,1),(5,1),(6,1)]):=by kernel_rfl
theorem Im:tB Tryz.prog 32=some ([(vS none 0 0),(vI 0),(vS none 0 0),(vS none 0 0),(vI 0),(vI 0),(vI 0),(vS none 0 0),(vS none 0 0),(vI 0),(vS none 0 0)],[(0,7),(7,1),(8,1),(9,1),(10,1)]):=by kernel_rfl
theorem gv:tB Tryz.prog 45=some ([(vI 0),(vI 0)],[(0,1),(1,1)]):=by kernel_rfl
theorem U1:tB Tryz.prog 53=some ([(vI 0),(vS none 0 0)],[(0,1),(1,1)]):=by kernel_rfl
theorem Te:tB Tryz.prog 55=some ([(vI 0),(vI 0),(vI 0)],[(0,1),(1,2)]):=by kernel_rfl
theorem Vh:tB Tryz.prog 60=some ([(vI 0),(vI 0),(vS none 0 0)],[(0,1),(1,1),(2,1)]):=by kernel_rfl
theorem Qh:tB Tryz.prog 62=some ([(vB false),(vB false),(vI 0),(vI 0),(vI 0),(vI 0),(vS none 0 0)],[(0,1),(1,1),(2,2),(4,3)]):=by kernel_rfl
theorem Fv:tB Tryz.prog 107=some ([(vI 0),(vI 0)],[(0,1),(1,1)]):=by kernel_rfl
theorem RG:tB Tryz.prog 112=some ([(vS none 0 0),(vI 0),(vS none 0 0),(vS none 0 0),(vI 0),(vI 0),(vI 0),(vS none 0 0),(vS none 0 0),(vI 0),(vS none 0 0),(vS none 0 0),(Value.map none)],[(0,11),(11,1),(12,1)]):=by kernel_rfl
theorem Tp:tB Tryz.prog 153=some ([(vI 0),(vI 0),(vI 0),(vI 0),(vI 0),(vI 0),(vI 0),(Value.int .u8 0),(vI 0)],[(0,1),(1,2),(3,2),(5,2),(7,1),(8,1)]):=by kernel_rfl
theorem S6:tB Tryz.prog 158=some ([(vI 0),(vI 0),(vI 0)],[(0,1),(1,2)]):=by kernel_rfl
theorem JH:tB Tryz.prog 160=some ([(vI 0),(vI 0),(vI 0),(vI 0)],[(0,3),(3,1)]):=by kernel_rfl
theorem RP:tB Tryz.prog 166=some ([(vS none 0 0),(vI 0),(vS none 0 0),(vS none 0 0),(vI 0),(vI 0),(vI 0),(vI 0),(vI 0),(vS none 0 0),(vS none 0 0),(vS none 0 0),(vS none 0 0),(vS none 0 0)],[(0,7),(7,3),(10,1),(11,1),(12,1),(13,1)]):=by kernel_rfl
theorem CF:tB Tryz.prog 172=some ([(vI 0),(vI 0)],[(0,1),(1,1)]):=by kernel_rfl
theorem FH:tB Tryz.prog 180=some ([Value.nilFunc],[(0,1)]):=by kernel_rfl
theorem Uq:tB Tryz.prog 181=some ([Value.nilFunc,Value.nilFunc,Value.nilFunc,Value.nilFunc],[(0,1),(1,1),(2,1),(3,1)]):=by kernel_rfl
theorem Ub:tB Tryz.prog 193=some ([(vI 0),(vI 0)],[(0,1),(1,1)]):=by kernel_rfl
theorem RX:tB Tryz.prog 237=some ([(vS none 0 0)],[(0,1)]):=by kernel_rfl
theorem T1:tB Tryz.prog 269=some ([(vS none 0 0),(vS none 0 0),(vS none 0 0)],[(0,1),(1,1),(2,1)]):=by kernel_rfl
theorem w8:tE Tryz.prog 22=some (153,9):=by kernel_rfl
theorem vD:tE Tryz.prog 25=some (53,2):=by kernel_rfl
theorem uG:tE Tryz.prog 26=some (160,4):=by kernel_rfl
theorem cw:tE Tryz.prog 29=some (3,1):=by kernel_rfl
theorem nA:tE Tryz.prog 30=some (56,1):=by kernel_rfl
theorem vJ:tE Tryz.prog 51=some (55,3):=by kernel_rfl
theorem ug:tE Tryz.prog 56=some (62,7):=by kernel_rfl
theorem ym:tE Tryz.prog 58=some (107,2):=by kernel_rfl
theorem pn:tE Tryz.prog 66=some (29,1):=by kernel_rfl
theorem gY:tE Tryz.prog 109=some (45,2):=by kernel_rfl
theorem FD:tE Tryz.prog 110=some (109,1):=by kernel_rfl
theorem Pv:tE Tryz.prog 162=some (124,1):=by kernel_rfl
theorem Gi:tE Tryz.prog 163=some (40,1):=by kernel_rfl
theorem oI:tE Tryz.prog 164=some (170,1):=by kernel_rfl
theorem KC:tE Tryz.prog 184=some (187,2):=by kernel_rfl
theorem Kc:tE Tryz.prog 251=some (158,3):=by kernel_rfl
theorem GA:tE Tryz.prog 257=some (269,3):=by kernel_rfl
theorem Pm:tE Tryz.prog 264=some (4,1):=by kernel_rfl
theorem Aj:(match Tryz.prog.underlying 45 with |some (.struct fs)=>(fs[0]?).map (fun fl=>tK Tryz.prog fl.type)|_=>none)=some (some (false,1)):=by kernel_rfl
theorem qQ:(match Tryz.prog.underlying 45 with |some (.struct fs)=>(fs[1]?).map (fun fl=>tK Tryz.prog fl.type)|_=>none)=some (some (false,1)):=by kernel_rfl
theorem UD:tV Tryz.prog 3=some (vI 0):=by kernel_rfl
theorem Wg:tV Tryz.prog 4=some (vB false):=by kernel_rfl
theorem rO:tV Tryz.prog 45=some (Value.agg [(vI 0),(vI 0)].toArray):=by kernel_rfl
theorem FL:tX Tryz.prog 181=some (4,180):=by kernel_rfl
theorem Fz:tX Tryz.prog 193=some (2,3):=by kernel_rfl
theorem js:tZ Tryz.prog 3=some [(vI 0)]:=by kernel_rfl
theorem Wh:tZ Tryz.prog 4=some [(vB false)]:=by kernel_rfl
theorem Ay:tZ Tryz.prog 12=some [(Value.int .u64 0)]:=by kernel_rfl
theorem VJ:tZ Tryz.prog 24=some [(vS none 0 0)]:=by kernel_rfl
theorem Ut:tZ Tryz.prog 28=some [(vS none 0 0),(vI 0),(vS none 0 0),(vS none 0 0),(vI 0),(vI 0),(vI 0)]:=by kernel_rfl
theorem vG:tZ Tryz.prog 29=some [(vS none 0 0)]:=by kernel_rfl
theorem yp:tZ Tryz.prog 32=some [(vS none 0 0),(vI 0),(vS none 0 0),(vS none 0 0),(vI 0),(vI 0),(vI 0),(vS none 0 0),(vS none 0 0),(vI 0),(vS none 0 0)]:=by kernel_rfl
theorem P5:tZ Tryz.prog 40=some [(Value.map none)]:=by kernel_rfl
theorem UT:tZ Tryz.prog 43=some [(Value.map none)]:=by kernel_rfl
theorem dp:tZ Tryz.prog 45=some [(vI 0),(vI 0)]:=by kernel_rfl
theorem UU:tZ Tryz.prog 47=some [(Value.map none)]:=by kernel_rfl
theorem Oj:tZ Tryz.prog 53=some [(vI 0),(vS none 0 0)]:=by kernel_rfl
theorem yv:tZ Tryz.prog 55=some [(vI 0),(vI 0),(vI 0)]:=by kernel_rfl
theorem Vv:tZ Tryz.prog 56=some [(vS none 0 0)]:=by kernel_rfl
theorem Uj:tZ Tryz.prog 60=some [(vI 0),(vI 0),(vS none 0 0)]:=by kernel_rfl
theorem Ow:tZ Tryz.prog 62=some [(vB false),(vB false),(vI 0),(vI 0),(vI 0),(vI 0),(vS none 0 0)]:=by kernel_rfl
theorem Tm:tZ Tryz.prog 94=some [(Value.pointer none)]:=by kernel_rfl
theorem Gj:tZ Tryz.prog 107=some [(vI 0),(vI 0)]:=by kernel_rfl
theorem PL:tZ Tryz.prog 109=some [(vS none 0 0)]:=by kernel_rfl
theorem SR:tZ Tryz.prog 124=some [Value.nilFunc]:=by kernel_rfl
theorem GI:tZ Tryz.prog 153=some [(vI 0),(vI 0),(vI 0),(vI 0),(vI 0),(vI 0),(vI 0),(Value.int .u8 0),(vI 0)]:=by kernel_rfl
theorem Dc:tZ Tryz.prog 158=some [(vI 0),(vI 0),(vI 0)]:=by kernel_rfl
theorem Tq:tZ Tryz.prog 160=some [(vI 0),(vI 0),(vI 0),(vI 0)]:=by kernel_rfl
theorem tL:tZ Tryz.prog 172=some [(vI 0),(vI 0)]:=by kernel_rfl
theorem GC:tZ Tryz.prog 180=some [Value.nilFunc]:=by kernel_rfl
theorem SA:tZ Tryz.prog 181=some [Value.nilFunc,Value.nilFunc,Value.nilFunc,Value.nilFunc]:=by kernel_rfl
theorem Mq:tZ Tryz.prog 237=some [(vS none 0 0)]:=by kernel_rfl
theorem Pf:tZ Tryz.prog 266=some [(vS none 0 0),(vS none 0 0),(vS none 0 0)]:=by kernel_rfl
theorem SB:tZ Tryz.prog 269=some [(vS none 0 0),(vS none 0 0),(vS none 0 0)]:=by kernel_rfl
theorem mY:Tryz.prog.underlying 3=some (.int .i64):=by kernel_rfl
theorem V0:Tryz.prog.underlying 4=some .bool:=by kernel_rfl
theorem Rw:Tryz.prog.underlying 5=some (.int .u8):=by kernel_rfl
theorem We:Tryz.prog.underlying 9=some .string:=by kernel_rfl
theorem Qe:Tryz.prog.underlying 22=some (.slice 153):=by kernel_rfl
theorem SJ:Tryz.prog.underlying 25=some (.slice 53):=by kernel_rfl
theorem PZ:Tryz.prog.underlying 26=some (.slice 160):=by kernel_rfl
theorem Si:Tryz.prog.underlying 29=some (.slice 3):=by kernel_rfl
theorem TF:Tryz.prog.underlying 30=some (.slice 56):=by kernel_rfl
theorem k8:Tryz.prog.underlying 40=some (.map 3 45):=by kernel_rfl
theorem Qj:Tryz.prog.underlying 43=some (.map 3 3):=by kernel_rfl
theorem yu:Tryz.prog.underlying 47=some (.map 3 4):=by kernel_rfl
theorem RU:Tryz.prog.underlying 51=some (.slice 55):=by kernel_rfl
theorem Uk:Tryz.prog.underlying 56=some (.slice 62):=by kernel_rfl
theorem Ue:Tryz.prog.underlying 58=some (.slice 107):=by kernel_rfl
theorem SL:Tryz.prog.underlying 150=some (.int .u64):=by kernel_rfl
theorem o1:Tryz.prog.underlying 170=some (.map 172 3):=by kernel_rfl
theorem So:Tryz.prog.underlying 205=some (.int .u64):=by kernel_rfl
theorem P2:fL Tryz.prog 45=some [(3,0),(3,1)]:=by kernel_rfl
theorem Pw (d:Nat) (s z:aa) (w:World):(Op.equalIn (d+2) 45 (.agg s.cells.toArray) (.agg z.cells.toArray)).run Tryz.prog w= .ok (decide (s=z)) w:=by
 have hc:(decide (s.Lo=z.Lo)&&(decide (s.Hi=z.Hi)&&true))=decide (s=z):=by rw [Bool.eq_iff_iff]; simp [aa.ext_iff]
 rw [← hc]
 exact xY (d+1) P2 w (tq w (j9 OW U w) (j9 OW U w) (vX _ mY w) (tq w (j9 OW U w) (j9 OW U w) (vX _ mY w) (FT w)))
theorem ua (x y:Operand) (s z:aa):iu Tryz.prog .eql 45 x y (.agg s.cells.toArray) (.agg z.cells.toArray) (.bool (decide (s=z))):=H6 x y (Bt P2) fun w=>Pw 9998 s z w
theorem Sd (x y:Operand) (s z:aa):iu Tryz.prog .neq 45 x y (.agg s.cells.toArray) (.agg z.cells.toArray) (.bool (!decide (s=z))):=G8 x y (Bt P2) fun w=>Pw 9998 s z w
theorem O7:fL Tryz.prog 172=some [(3,0),(3,1)]:=by kernel_rfl
theorem PV (d:Nat) (s z:aD) (w:World):(Op.equalIn (d+2) 172 (.agg s.cells.toArray) (.agg z.cells.toArray)).run Tryz.prog w= .ok (decide (s=z)) w:=by
 have hc:(decide (s.right=z.right)&&(decide (s.eX=z.eX)&&true))=decide (s=z):=by rw [Bool.eq_iff_iff]; simp [aD.ext_iff]
 rw [← hc]
 exact xY (d+1) O7 w (tq w (j9 OW U w) (j9 OW U w) (vX _ mY w) (tq w (j9 OW U w) (j9 OW U w) (vX _ mY w) (FT w)))
theorem cE:Tryz.prog.follows .mixedOrders=true:=by kernel_rfl
def TT:DB:=⟨[(1,false,1),(2,false,1),(3,false,1),(4,false,1),(5,false,1),(6,false,1),(7,true,4),(8,true,4),(12,false,1),(15,false,1),(16,false,1),(17,false,1),(18,true,1),(19,true,1),(21,false,1),(22,false,1),(23,true,1),(24,true,1),(25,false,1),(26,false,1),(27,true,7),(28,true,7),(29,false,1),(30,false,1),(31,true,11),(32,true,11),(33,false,1),(34,false,1),(35,false,1),(37,false,1),(38,false,1),(39,false,1),(40,false,1),(42,false,1),(43,false,1),(44,true,2),(45,true,2),(46,false,1),(47,false,1),(49,false,1),(50,false,1),(51,false,1),(52,true,2),(53,true,2),(54,true,3),(55,true,3),(56,false,1),(57,false,1),(58,false,1),(59,true,3),(60,true,3),(61,true,7),(62,true,7),(63,false,1),(65,false,1),(66,false,1),(68,false,1),(69,false,1),(70,false,1),(71,false,1),(72,false,1),(73,false,1),(74,false,1),(75,false,1),(76,false,1),(77,false,1),(78,false,1),(79,false,1),(81,false,1),(82,false,1),(83,false,1),(84,false,1),(86,false,1),(87,false,1),(88,false,1),(89,false,1),(90,false,1),(91,false,1),(92,false,1),(93,false,1),(94,false,1),(96,false,1),(97,false,1),(98,false,1),(99,false,1),(100,false,1),(101,false,1),(102,false,1),(103,false,1),(104,false,1),(105,false,1),(106,true,2),(107,true,2),(108,false,1),(109,false,1),(110,false,1),(111,true,13),(112,true,13),(114,false,1),(115,false,1),(116,false,1),(117,false,1),(118,false,1),(119,false,1),(120,false,1),(121,false,1),(123,false,1),(124,false,1),(125,false,1),(126,false,1),(127,false,1),(128,false,1),(129,false,1),(130,false,1),(131,false,1),(132,false,1),(133,false,1),(134,false,1),(136,false,1),(137,false,1),(138,false,1),(139,false,1),(140,false,1),(141,false,1),(142,false,1),(143,false,1),(144,false,1),(145,false,1),(146,false,1),(147,false,1),(148,false,1),(149,false,1),(150,false,1),(151,false,1),(152,true,9),(153,true,9),(154,false,1),(155,false,1),(156,false,1),(157,true,3),(158,true,3),(159,true,4),(160,true,4),(161,false,1),(162,false,1),(163,false,1),(164,false,1),(165,true,14),(166,true,14),(167,false,1),(168,false,1),(169,false,1),(170,false,1),(171,true,2),(172,true,2),(173,false,1),(174,false,1),(175,false,1),(176,false,1),(178,false,1),(179,false,1),(180,true,1),(181,true,4),(182,false,1),(183,false,1),(184,false,1),(185,false,1),(186,true,2),(187,true,2),(188,true,6),(189,false,1),(190,false,1),(191,false,1),(192,false,1),(193,true,2),(194,false,1),(195,false,1),(196,false,1),(198,false,1),(199,false,1),(200,false,1),(202,false,1),(203,false,1),(204,false,1),(205,false,1),(207,false,1),(208,false,1),(209,false,1),(210,false,1),(211,false,1),(212,false,1),(213,false,1),(214,false,1),(215,false,1),(216,false,1),(217,false,1),(218,false,1),(219,false,1),(220,false,1),(221,false,1),(222,false,1),(223,false,1),(224,false,1),(225,false,1),(226,false,1),(227,false,1),(228,false,1),(229,false,1),(230,false,1),(231,false,1),(232,false,1),(233,false,1),(235,false,1),(236,true,1),(237,true,1),(239,false,1),(240,false,1),(241,false,1),(242,false,1),(243,false,1),(244,false,1),(245,false,1),(246,false,1),(247,false,1),(248,false,1),(250,false,1),(251,false,1),(252,false,1),(253,false,1),(254,false,1),(255,false,1),(256,false,1),(257,false,1),(259,false,1),(260,false,1),(261,false,1),(262,false,1),(263,false,1),(264,false,1),(265,true,3),(266,true,3),(267,false,1),(268,true,3),(269,true,3),(270,false,1),(271,false,1),(272,false,1),(275,true,0),(276,true,0),(277,true,0),(278,false,1),(279,false,1),(280,false,1),(281,false,1),(282,false,1),(283,false,1),(284,false,1),(285,true,11),(286,true,11)],[(7,[some 0,some 1,some 2,some 3]),(8,[some 0,some 1,some 2,some 3]),(18,[some 0]),(19,[some 0]),(23,[some 0]),(24,[some 0]),(27,[some 0,some 1,some 2,some 3,some 4,some 5,some 6]),(28,[some 0,some 1,some 2,some 3,some 4,some 5,some 6]),(31,[some 0,some 7,some 8,some 9,some 10]),(32,[some 0,some 7,some 8,some 9,some 10]),(44,[some 0,some 1]),(45,[some 0,some 1]),(52,[some 0,some 1]),(53,[some 0,some 1]),(54,[some 0,some 1]),(55,[some 0,some 1]),(59,[some 0,some 1,some 2]),(60,[some 0,some 1,some 2]),(61,[some 0,some 1,some 2,some 4]),(62,[some 0,some 1,some 2,some 4]),(106,[some 0,some 1]),(107,[some 0,some 1]),(111,[some 0,some 11,some 12]),(112,[some 0,some 11,some 12]),(152,[some 0,some 1,some 3,some 5,some 7,some 8]),(153,[some 0,some 1,some 3,some 5,some 7,some 8]),(157,[some 0,some 1]),(158,[some 0,some 1]),(159,[some 0,some 3]),(160,[some 0,some 3]),(165,[some 0,some 7,some 10,some 11,some 12,some 13]),(166,[some 0,some 7,some 10,some 11,some 12,some 13]),(171,[some 0,some 1]),(172,[some 0,some 1]),(180,[some 0]),(186,[some 0,some 1]),(187,[some 0,some 1]),(236,[some 0]),(237,[some 0]),(265,[some 0,some 1,some 2]),(266,[some 0,some 1,some 2]),(268,[some 0,some 1,some 2]),(269,[some 0,some 1,some 2]),(285,[some 0,some 1,some 2,some 3,some 4,some 5,some 6,some 7,some 8,some 9,some 10]),(286,[some 0,some 1,some 2,some 3,some 4,some 5,some 6,some 7,some 8,some 9,some 10])],[22,25,26,29,30,51,56,58,66,109,110,162,163,164,184,251,257,264]⟩
theorem qc:lf Tryz.prog TT:=QJ kr
theorem cd {t:TypeId} {x:Bool×Nat} (h:TT.IW t=some x:=by rfl):tK Tryz.prog t=some x:=qc.IW h
theorem fp {s f k:Nat} (h:TT.foF s f=some k:=by rfl):q6 Tryz.prog s f=some k:=qc.foF h
end
section
open Go.RowKit
/-- blocks that are read -/
def MM (C:List au) (M:List (Nat×List Value)):Prop:= ∀ p∈M,∀ o vs,(p.2.drop o).take vs.length=vs→At C (some ⟨p.1,o,none⟩) vs
theorem mn {C:List au}:MM C []:=fun p h=>by cases h
theorem mc {C:List au} {b t:Nat} {cs:List Value} {M:List (Nat×List Value)} (i:Nat) (hC:C[i]? =some (cb b t cs)) (h:MM C M):MM C ((b,cs)::M):=fun p hp o vs hv=>by
 rcases bx.1 hp with rfl|hp
 ·exact pE i hC hv
 ·exact h p hp o vs hv
theorem mr {C:List au} {b t:Nat} {cs:List Value} {M:List (Nat×List Value)} (i:Nat) (hC:C[i]? =some (cb b t cs).ro) (h:MM C M):MM C ((b,cs)::M):=fun p hp o vs hv=>by
 rcases bx.1 hp with rfl|hp
 ·exact vR i hC hv
 ·exact h p hp o vs hv
def pq:List Prop→Prop
 |[]=>True
 |p::l=>p∧pq l
theorem km {p:Prop} {l:List Prop} (h:p) (h2:pq l):pq (p::l):=⟨h,h2⟩
/-- the value of an operation, what it asks for, and what is left of the list of places -/
def pv (T:DB) (ops:Array Oper) (M:List (Nat×List Value)) (L:di) (hs:List Nat) (g:Option (Nat×Bool)) (op:Op):Option (Value×List Prop×List Nat):=
 match Dw ops L g with
 |true=>some (undef,[],hs)
 |false=>match jI ops L g with
  |false=>none
  |true=>match op with
   | .move x=>match ev L x with
    |some v=>some (v,[],hs)
    |none=>none
   | .assign x=>match ev L x with
    |some v=>some (v,[],hs)
    |none=>none
   | .pick c x y=>match ev L c with
    |some (.bool true)=>match ev L x with
     |some v=>some (v,[],hs)
     |none=>none
    |some (.bool false)=>match ev L y with
     |some v=>some (v,[],hs)
     |none=>none
    |_=>none
   | .unOp .not _ x=>match ev L x with
    |some (.bool b)=>some (.bool !b,[],hs)
    |_=>none
   | .extract x i=>match ev L x with
    |some (.tuple vs)=>match vs.toList[i]? with
     |some v=>some (v,[],hs)
     |none=>none
    |_=>none
   | .fieldAddr s x f=>match ev L x with
    |some (.pointer (some ⟨b,o,none⟩))=>match T.foF s f with
     |some k=>some (.pointer (some ⟨b,o+k,none⟩),[],hs)
     |none=>none
    |_=>none
   | .binOp op _ x y _=>match ev L x with
    |some (.int .i64 a)=>match ev L y with
     |some (.int .i64 b)=>match op with
      | .lss=>some (.bool (decide (a<b)),[],hs)
      | .leq=>some (.bool (decide (a≤b)),[],hs)
      | .gtr=>some (.bool (decide (b<a)),[],hs)
      | .geq=>some (.bool (decide (b≤a)),[],hs)
      | .eql=>some (.bool (decide (a=b)),[],hs)
      | .neq=>some (.bool (!decide (a=b)),[],hs)
      | .add=>some (.int .i64 (a+b),[-9223372036854775808≤a+b,a+b≤9223372036854775807],hs)
      | .sub=>some (.int .i64 (a-b),[-9223372036854775808≤a-b,a-b≤9223372036854775807],hs)
      |_=>none
     |_=>none
    |_=>none
   | .load t x=>match ev L x with
    |some (.pointer (some ⟨b,o,none⟩))=>match M[hs.headD 0]? with
     |some (b',cs)=>match T.IW t with
      |some (false,_)=>match cs[o]? with
       |some v=>some (v,[b'=b],hs.tail)
       |none=>none
      |some (true,n)=>match Nat.beq o 0 with
       |true=>match Nat.beq cs.length n with
        |true=>some (.agg cs.toArray,[b'=b],hs.tail)
        |false=>none
       |false=>none
      |none=>none
     |none=>none
    |_=>none
   | .call c=>match c with
    |{callee:= .builtin .len,args:=xs,argTypes:=ts}=>match xs.toList with
     |[x]=>match ts.toList with
      |[t]=>match ev L x with
       |some (.slice A n c)=>match MI T.sl t with
        |true=>some (.int .i64 n,[],hs)
        |false=>none
       |_=>none
      |_=>none
     |_=>none
    |_=>none
   |_=>none
section
variable {E:fh} {T:DB} {ops:Array Oper} {M:List (Nat×List Value)} {D:List Deferred} {L:List (Nat×Value)} {C:List au} {hs hs':List Nat}
theorem ve {cs:List Value} {o:Nat} {v:Value} (h:cs[o]? =some v):(cs.drop o).take [v].length=[v]:=by
 obtain ⟨hl,rfl⟩:=aS.1 h
 rw [List.drop_eq_getElem_cons hl]; rfl
theorem TS {o:Oper} {v:Value} {S:List Prop} (hT:lf E.P T) (hM:MM C M) (h:pv T ops M L hs o.guard o.op=some (v,S,hs')) (hS:pq S):SD E ops o D L C v:=by
 obtain ⟨dst,op,ty,ps,af,g⟩:=o
 unfold pv at h
 simp only at h
 split at h
 ·rename_i hg
  cases h
  exact I3 hg
 ·split at h
  ·cases h
  ·rename_i hg
   split at h
   ·split at h
    ·rename_i hx; cases h; exact GD hg hx
    ·cases h
   ·split at h
    ·rename_i hx; cases h; exact yX hg hx
    ·cases h
   ·split at h
    ·rename_i hc
     split at h
     ·rename_i hx; cases h; exact zL hg hc hx
     ·cases h
    ·rename_i hc
     split at h
     ·rename_i hx; cases h; exact yQ hg hc hx
     ·cases h
    ·cases h
   ·split at h
    ·rename_i hx; cases h; exact JD hg hx
    ·cases h
   ·split at h
    ·rename_i vs hx
     split at h
     ·rename_i v' hv; cases h; exact xE (vs:=vs.toList) hg (by simpa using hx) hv
     ·cases h
    ·cases h
   ·split at h
    ·rename_i hx
     split at h
     ·rename_i hk; cases h; exact PF hg hx (hT.foF hk) rfl
     ·cases h
    ·cases h
   ·split at h
    ·rename_i hx
     split at h
     ·rename_i hy
      split at h
      ·cases h; exact b_ hg hx hy g5
      ·cases h; exact b_ hg hx hy Ui
      ·cases h; exact b_ hg hx hy Sl
      ·cases h; exact b_ hg hx hy FO
      ·cases h; exact b_ hg hx hy mJ
      ·cases h; exact b_ hg hx hy nK
      ·cases h; exact b_ hg hx hy (iD ⟨hS.1,hS.2.1⟩)
      ·cases h; exact b_ hg hx hy (r_ ⟨hS.1,hS.2.1⟩)
      ·cases h
     ·cases h
    ·cases h
   ·split at h
    ·rename_i hx
     split at h
     ·rename_i b' cs hm
      have A:=aT hm
      split at h
      ·rename_i hk
       split at h
       ·rename_i hv
        cases h
        obtain rfl:=hS.1
        exact uU hg hx (hT.IW hk) (hM _ A _ _ (ve hv))
       ·cases h
      ·rename_i n hk
       split at h
       ·rename_i ho
        split at h
        ·rename_i hn
         cases h
         obtain rfl:=hS.1
         have H:=Nat.eq_of_beq_eq_true ho
         subst H
         exact wN hg hx (hT.IW hk) (hM _ A 0 cs sm) (Nat.eq_of_beq_eq_true hn)
        ·cases h
       ·cases h
      ·cases h
     ·cases h
    ·cases h
   ·split at h
    ·rename_i xs ts
     split at h
     ·rename_i x G
      split at h
      ·rename_i t F
       split at h
       ·rename_i hx
        split at h
        ·rename_i B
         cases h
         obtain ⟨e,he⟩:=hT.sl t (B4 B)
         have AA:xs= #[x]:=by apply Array.ext'; simpa using G
         have J:ts= #[t]:=by apply Array.ext'; simpa using F
         subst AA J
         exact LS hg hx he
        ·cases h
       ·cases h
      ·cases h
     ·cases h
    ·cases h
   ·cases h
def pr (T:DB) (n:Nat) (ops:Array Oper) (M:List (Nat×List Value)):Nat→List Nat→di→List Oper→Option (di×List Oper×List Prop)
 |0,_,L,rest=>some (L,rest,[])
 |k+1,hs,L,[]=>none
 |k+1,hs,L,o::rest=>match o.dst with
  |none=>none
  |some d=>match Nat.blt d n with
   |false=>none
   |true=>match pv T ops M L hs o.guard o.op with
    |none=>none
    |some (v,S,hs')=>match pr T n ops M k hs' ((d,v)::L) rest with
     |none=>none
     |some (L',rest',S')=>some (L',rest',S++S')
theorem wO: ∀ {S S':List Prop},pq (S++S')→pq S∧pq S'
 |[],S',h=>⟨trivial,h⟩
 |p::S,S',h=>⟨⟨h.1,(wO h.2).1⟩,(wO h.2).2⟩
/-- whatever is closed under single steps -/
theorem Ky {J:List Oper→di→Prop} (hT:lf E.P T) (hM:MM C M) (hJ: ∀ o rest L d v,SD E ops o D L C v→o.dst=some d→Nat.blt d E.n=true→J rest ((d,v)::L)→J (o::rest) L):
 ∀ (k:Nat) (hs:List Nat) (L:di) (rest:List Oper) {L':di} {rest':List Oper} {S:List Prop},pr T E.n ops M k hs L rest=some (L',rest',S)→pq S→J rest' L'→J rest L
 |0,hs,L,rest,L',rest',S,h,hS,hj=>by
  unfold pr at h
  cases h
  exact hj
 |k+1,hs,L,[],L',rest',S,h,hS,hj=>by unfold pr at h; cases h
 |k+1,hs,L,o::rest,L',rest',S,h,hS,hj=>by
  unfold pr at h
  split at h
  ·cases h
  ·rename_i d hd
   split at h
   ·cases h
   ·rename_i hn
    split at h
    ·cases h
    ·rename_i v S1 A hv
     split at h
     ·cases h
     ·rename_i L1 G S2 hr
      cases h
      obtain ⟨B,F⟩:=wO hS
      exact hJ o rest L d v (TS hT hM hv B) hd hn (Ky hT hM hJ k A _ rest hr F hj)
variable {Q:cZ} {rest rest':List Oper} {L0 L':List (Nat×Value)} {S:List Prop} {F:List (Nat×Value)→Prop}
/-- a run of operations, one after the other -/
theorem rP (k:Nat) (hs:List Nat) (hM:MM C M) (j:RJ E ops Q rest' D L' C) (hT:lf E.P T:=by exact qc) (h:pr T E.n ops M k hs L rest=some (L0,rest',S):=by rfl) (hL:L0=L':=by (try dsimp only)<;>rfl) (hS:pq S:=by repeat' first|exact True.intro |refine km ?_ ?_ |exact rfl|omega|(dsimp only; omega)):RJ E ops Q rest D L C:=by
 subst hL
 exact Ky (J:=fun r L=>RJ E ops Q r D L C) hT hM (fun o rest L d v A B F G=>Sc A B F G) k hs L rest h hS j
theorem dP (k:Nat) (hs:List Nat) (hM:MM C M) (j:DJ E ops D C F rest' L') (hT:lf E.P T:=by exact qc) (h:pr T E.n ops M k hs L rest=some (L0,rest',S):=by rfl) (hL:L0=L':=by (try dsimp only)<;>rfl) (hS:pq S:=by repeat' first|exact True.intro |refine km ?_ ?_ |exact rfl|omega):DJ E ops D C F rest L:=by
 subst hL
 exact Ky (J:=fun r L=>DJ E ops D C F r L) hT hM (fun o rest L d v A B G H=>Sp A B G H) k hs L rest h hS j
end
section
variable {P:Program} {r:Option Nat} {n:Nat} {B:BS} {w0:World} {ops:Array Oper} {M:List (Nat×List Value)} {D:List Deferred} {L L':List (Nat×Value)} {C:List au} {Q:cZ} {rest rest':List Oper} {S:List Prop} {F:List (Nat×Value)→Prop}
theorem fu (k:Nat) (hs:List Nat) (hM:MM C M) (h:pr TT n ops M k hs L rest=some (L',rest',S)) (j:RJ ⟨P,r,n,B,w0⟩ ops Q rest' D L' C) (hS:pq S:=by repeat' first|exact True.intro |refine km ?_ ?_ |exact rfl|omega|(dsimp only; omega)) (hT:lf P TT:=by exact qc):RJ ⟨P,r,n,B,w0⟩ ops Q rest D L C:=rP k hs hM j hT h rfl hS
theorem mT (k:Nat) (hs:List Nat) (hM:MM C M) (h:pr TT n ops M k hs L rest=some (L',rest',S)) (j:DJ ⟨P,r,n,B,w0⟩ ops D C F rest' L') (hS:pq S:=by repeat' first|exact True.intro |refine km ?_ ?_ |exact rfl|omega|(dsimp only; omega)) (hT:lf P TT:=by exact qc):DJ ⟨P,r,n,B,w0⟩ ops D C F rest L:=dP k hs hM j hT h rfl hS
theorem bh (k:Nat) (h:pr TT n ops [] k [] L rest=some (L',rest',S)) (j:RJ ⟨P,r,n,B,w0⟩ ops Q rest' D L' C) (hS:pq S:=by repeat' first|exact True.intro |refine km ?_ ?_ |exact rfl|omega|(dsimp only; omega)) (hT:lf P TT:=by exact qc):RJ ⟨P,r,n,B,w0⟩ ops Q rest D L C:=rP k [] mn j hT h rfl hS
theorem l5 (k:Nat) (h:pr TT n ops [] k [] L rest=some (L',rest',S)) (j:DJ ⟨P,r,n,B,w0⟩ ops D C F rest' L') (hS:pq S:=by repeat' first|exact True.intro |refine km ?_ ?_ |exact rfl|omega|(dsimp only; omega)) (hT:lf P TT:=by exact qc):DJ ⟨P,r,n,B,w0⟩ ops D C F rest L:=dP k [] mn j hT h rfl hS
end
end
section
open Go.RowKit
/-- parts of a context, reckoned to the end -/
def lH (C:List au):List Nat→Option (List au)
 |[]=>some []
 |i::is=>match C[i]? with
  |some A=>match lH C is with
   |some l=>some (A::l)
   |none=>none
  |none=>none
theorem jE {C:List au}: ∀ {is:List Nat} {C':List au},lH C is=some C'→kq C is=C'
 |[],C',h=>by cases h; rfl
 |i::is,C',h=>by
  unfold lH at h
  split at h
  ·rename_i A hA
   split at h
   ·rename_i l hl
    cases h
    show List.filterMap (C[·]?) (i::is)=A::l
    rw [List.filterMap_cons_some hA]
    exact congrArg _ (jE hl)
   ·cases h
  ·cases h
/-- a part of a context in place of the whole -/
theorem aH {S:BS} {w0:World} {C C':List au} (is:List Nat) (hn:decide is.Nodup=true:=by rfl) (hC:kq C is=C':=by rfl): ∀ w,St S w0 C w→St S w0 C' w:=fun w h=>St.kq is hn hC h
theorem OI {S:BS} {w0:World} {C C':List au} (is:List Nat) (hC:lH C is=some C') (hn:decide is.Nodup=true:=by rfl): ∀ w,St S w0 C w→St S w0 C' w:=fun w h=>St.kq is hn (jE hC) h
def MJ (C:List au) (i:Nat) (B:au):Option (List au):=match i,C with
 |0,_::C=>some (B::C)
 |i+1,A::C=>match MJ C i B with
  |some l=>some (A::l)
  |none=>none
 |_,[]=>none
theorem Ad: ∀ {C:List au} {i:Nat} {B:au} {C':List au},MJ C i B=some C'→C.set i B=C'
 |[],0,B,C',h=>by cases h
 |[],i+1,B,C',h=>by cases h
 |A::C,0,B,C',h=>by cases h; rfl
 |A::C,i+1,B,C',h=>by
  unfold MJ at h
  split at h
  ·rename_i l hl
   cases h
   exact congrArg _ (Ad hl)
  ·cases h
theorem g9 {E:fh} {K:Act→World→Prop} {D:gV} {L:di} {C C':List au} {A B:au} (i:Nat) (hC:C[i]? =some A) (hh:(∀ w,A.holds w→B.holds w)∧(∀ b,B.eZ b→A.eZ b)∧ ∀ b,B.wf b→A.wf b) (hC':MJ C i B=some C') (h:KJ E K D L C'):KJ E K D L C:=I2 i hC hh (Ad hC') h
/-- the operations of a region but these; marks of some places -/
def S8 (n:Nat) (T:List Nat):List Nat:=(List.range n).filter fun i=> !T.contains i
def VG (k:Nat) (t:List Nat):List Bool:=(List.range k).map fun i=>t.contains i
theorem dF {E:fh} {id:Nat} {ops:Array Oper} {Q:cZ} {D:gV} {L:di} {C:List au} (hm:E.P.follows .mixedOrders=true) (T fe tb i1 i2:List Nat) {C' C1:List au} {free:List Nat} {LD tbb:List Bool}
 (h1:lH C i1=some C') (h2:lH C i2=some C1) (hf:free=S8 ops.size T) (hfe:LD=VG free.length fe) (htb:tbb=VG T.length tb)
 (h:qi E ops D C' C1 (fun L'=>TJ E ops D C' C1 (fun L C=>KJ E (Q .normal) D L C) tbb (eQ ops T) L' C) LD (eQ ops free) L)
 (hc:Od ops free T LD tbb=true:=by kernel_rfl) (n1:decide i1.Nodup=true:=by rfl) (n2:decide i2.Nodup=true:=by rfl):WJ E (.region id ops true) Q D L C:=
 Nm hm free T LD tbb C' C1 hc (OI i1 h1 n1) (OI i2 h2 n2) h
end
section
open Go.RowKit
def vO (T:DB) (M:List (Nat×List Value)) (L:di):List ResultVar→List Nat→Option (List Value×List Prop)
 |[],_=>some ([],[])
 | .tmp t::rs,hs=>match L.lookup t with
  |some v=>match vO T M L rs hs with
   |some (vs,S)=>some (v::vs,S)
   |none=>none
  |none=>none
 | .cell a t::rs,hs=>match L.lookup a with
  |some (.pointer (some ⟨b,o,none⟩))=>match M[hs.headD 0]? with
   |some (b',cs)=>match T.IW t with
    |some (false,_)=>match cs[o]? with
     |some v=>match vO T M L rs hs.tail with
      |some (vs,S)=>some (v::vs,(b'=b)::S)
      |none=>none
     |none=>none
    |some (true,n)=>match Nat.beq o 0 with
     |true=>match Nat.beq cs.length n with
      |true=>match vO T M L rs hs.tail with
       |some (vs,S)=>some (.agg cs.toArray::vs,(b'=b)::S)
       |none=>none
      |false=>none
     |false=>match vO T M L rs hs.tail with
      |some (vs,S)=>some (.agg ((cs.drop o).take n).toArray::vs,(b'=b)::(((cs.drop o).take n).length=n)::S)
      |none=>none
    |none=>none
   |none=>none
  |_=>none
theorem oq {P:Program} {T:DB} {M:List (Nat×List Value)} {L:di} {C:List au} (hT:lf P T) (hM:MM C M): ∀ (rs:List ResultVar) (hs:List Nat) {vs:List Value} {S:List Prop},vO T M L rs hs=some (vs,S)→pq S→HN P L C rs vs
 |[],_,vs,S,h,hS=>by unfold vO at h; cases h; exact trivial
 | .tmp t::rs,hs,vs,S,h,hS=>by
  unfold vO at h
  split at h
  ·rename_i v hv
   split at h
   ·rename_i vs' S' hr
    cases h
    exact ⟨hv,oq hT hM rs hs hr hS⟩
   ·cases h
  ·cases h
 | .cell a t::rs,hs,vs,S,h,hS=>by
  unfold vO at h
  split at h
  ·rename_i b o hl
   split at h
   ·rename_i b' cs hm
    have A:=aT hm
    split at h
    ·rename_i hk
     split at h
     ·rename_i v hv
      split at h
      ·rename_i vs' S' hr
       cases h
       obtain ⟨rfl,hS⟩:=hS
       exact ⟨⟨_,hl,.inr ⟨_,hT.IW hk,hM _ A _ _ (ve hv)⟩⟩,oq hT hM rs _ hr hS⟩
      ·cases h
     ·cases h
    ·rename_i n hk
     split at h
     ·rename_i ho
      split at h
      ·rename_i hn
       split at h
       ·rename_i vs' S' hr
        cases h
        obtain ⟨rfl,hS⟩:=hS
        have D:=Nat.eq_of_beq_eq_true ho
        subst D
        exact ⟨⟨_,hl,.inl ⟨_,cs,hT.IW hk,hM _ A 0 cs sm,Nat.eq_of_beq_eq_true hn,U⟩⟩,oq hT hM rs _ hr hS⟩
       ·cases h
      ·cases h
     ·split at h
      ·rename_i vs' S' hr
       cases h
       obtain ⟨rfl,B,hS⟩:=hS
       exact ⟨⟨_,hl,.inl ⟨_,_,hT.IW hk,hM _ A o _ (by rw [B]),B,U⟩⟩,oq hT hM rs _ hr hS⟩
      ·cases h
    ·cases h
   ·cases h
  ·cases h
section
variable {P:Program} {n:Nat} {fn:Func} {w0:World} {K:Act→World→Prop} {L:List (Nat×Value)} {C:List au} {M:List (Nat×List Value)} {vs:List Value} {S:List Prop} {u x v:Value}
theorem IC (hQ: ∀ D L C,LJ ⟨P,none,n,tS,w0⟩ fn (BV w0 v) D L C→KJ ⟨P,none,n,tS,w0⟩ K D L C) (hs:List Nat) (hM:MM C M) (h:vO TT M L fn.results.toList hs=some ([u],S)) (e:u=v) (hS:pq S:=by repeat' first|exact True.intro |refine km rfl ?_) (hT:lf P TT:=by exact qc):KJ ⟨P,none,n,tS,w0⟩ K [] L C:=
 hQ _ _ _ (hE (oq hT hM _ _ h hS) fun w hs=>EU e hs)
theorem lG (hQ: ∀ D L C,LJ ⟨P,none,n,tS,w0⟩ fn (BV w0 v) D L C→KJ ⟨P,none,n,tS,w0⟩ K D L C) (hs:List Nat) (hM:MM C M) (h:vO TT M L fn.results.toList hs=some (u::x::vs,S)) (e:Value.tuple (u::x::vs).toArray=v) (hS:pq S:=by repeat' first|exact True.intro |refine km rfl ?_) (hT:lf P TT:=by exact qc):KJ ⟨P,none,n,tS,w0⟩ K [] L C:=
 hQ _ _ _ (hE (oq hT hM _ _ h hS) fun w hs=>EU e hs)
theorem LX {α:Type} {V:α→Value} {p:α→Prop} {N:α→List au} (hQ: ∀ D L C,LJ ⟨P,none,n,tS,w0⟩ fn (Mm w0 V p N) D L C→KJ ⟨P,none,n,tS,w0⟩ K D L C) (x:α) (is hs:List Nat) (hM:MM C M) (h:vO TT M L fn.results.toList hs=some (vs,S)) (hw:(N x).all (·.wr)=true) (hN:kq C is=N x) (hV:Rv vs=V x) (hp:p x) (hn:decide is.Nodup=true:=by rfl) (hS:pq S:=by repeat' first|exact True.intro |refine km rfl ?_) (hT:lf P TT:=by exact qc):KJ ⟨P,none,n,tS,w0⟩ K [] L C:=
 hQ _ _ _ (hE (oq hT hM _ _ h hS) fun w hs=>Jx x is hV hp hn hN hw hs)
theorem LM {A:au} {α:Type} {V:α→Value} {p:α→Prop} {A':α→au} (hQ: ∀ D L C,LJ ⟨P,none,n,⟨A.wf,fun _=>True⟩,w0⟩ fn (NP w0 A V p A') D L C→KJ ⟨P,none,n,⟨A.wf,fun _=>True⟩,w0⟩ K D L C) (x:α) (i:Nat) (hs:List Nat) (hM:MM C M) (h:vO TT M L fn.results.toList hs=some (vs,S)) (hw:(A' x).wr=true) (hC:C[i]? =some (A' x)) (hV:Rv vs=V x) (hp:p x) (hS:pq S:=by repeat' exact True.intro) (hT:lf P TT:=by exact qc):KJ ⟨P,none,n,⟨A.wf,fun _=>True⟩,w0⟩ K [] L C:=
 hQ _ _ _ (hE (oq hT hM _ _ h hS) fun w hs=>SO x i hV hp hC hw hs)
end
end
section
open Go.RowKit
def Fh {α:Type _}:List α→List α→Option (List α)
 |[],m=>some m
 |a::l,m=>match Fh l m with
  |some r=>some (a::r)
  |none=>none
theorem F9 {α:Type _}: ∀ {l m r:List α},Fh l m=some r→l++m=r
 |[],m,r,h=>by cases h; rfl
 |a::l,m,r,h=>by
  unfold Fh at h
  split at h
  ·rename_i r' hr
   cases h
   exact congrArg (a:: ·) (F9 hr)
  ·cases h
def Uw (L:di):List Nat→Option (di)
 |[]=>some []
 |t::ts=>match L.lookup t with
  |some v=>match Uw L ts with
   |some r=>some ((t,v)::r)
   |none=>none
  |none=>none
theorem FC {L M:di} (k:du L M): ∀ {ts:List Nat} {r:di},Uw L ts=some r→du L (r++M)
 |[],r,h=>by cases h; exact k
 |t::ts,r,h=>by
  unfold Uw at h
  split at h
  ·rename_i v hv
   split at h
   ·rename_i r' hr
    cases h
    exact du.cons hv (FC k hr)
   ·cases h
  ·cases h
section
variable {E:fh} {Q:cZ} {D:List Deferred} {L L0:List (Nat×Value)} {C C0:List au} {ι:Type} {Li:ι→List (Nat×Value)} {Ci:ι→List au}
theorem bL {c:Code} (kL kC:List Nat) (hL:Uw L kL=some L0) (hC0:lH C kC=some C0) (S:ι→di) (G:ι→List au) (hLi: ∀ x,Fh L0 (S x)=some (Li x)) (hCi: ∀ x,Fh C0 (G x)=some (Ci x)) (μ:ι→Nat) (x0:ι)
 (h0:du L (S x0)) (hC: ∀ w,St E.S E.w0 C w→St E.S E.w0 (Ci x0) w)
 (round: ∀ x (J:Act→World→Prop),(∀ y D' L' C',D'=D→μ y<μ x→du L' (Li y)→(∀ w,St E.S E.w0 C' w→St E.S E.w0 (Ci y) w)→KJ E J D' L' C')→WJ E c (Exit.then J Q) D (Li x) (Ci x)):WJ E (.loop c) Q D L C:=
 Q7 Li Ci μ x0 (F9 (hLi x0)▸FC h0 hL) hC round
theorem oJ {x y:Code} (kL kC:List Nat) (hL:Uw L kL=some L0) (hC0:lH C kC=some C0) (S:ι→di) (G:ι→List au) (hLi: ∀ x,Fh L0 (S x)=some (Li x)) (hCi: ∀ x,Fh C0 (G x)=some (Ci x))
 (hy: ∀ z,WJ E y Q D (Li z) (Ci z)) (h: ∀ K:Act→World→Prop,(∀ z,KJ E K D (Li z) (Ci z))→WJ E x (Exit.then K Q) D L C):WJ E (.seq x y) Q D L C:=Ra Li Ci hy h
end
end
section
open Go.RowKit
set_option linter.unusedSectionVars false
/-- what is asked of keys -/
structure uz (P:Program) (kt:Nat) {K:Type} (kV:K→Value):Prop where
 check: ∀ (e:Bool) (x:K) (w:World),(Instr.checkKey e 10000 kt (kV x)).run P w= .ok () w
 find: ∀ (x:K) (w:World) (es:List MapEntry),(∀ e∈es,∃ k,e.key=kV k)→
  ((Instr.findKey kt (kV x) es).run P w= .ok none w∧ ∀ e∈es,e.key≠kV x)∨ ∃ j e,(Instr.findKey kt (kV x) es).run P w= .ok (some (j,e.val)) w∧es[j]? =some e∧e.key=kV x
 bits: ∀ x,Instr.sameBits 10000 (kV x) (kV x)=true
 inj: ∀ x y,kV x=kV y→x=y
section
variable {K:Type} [DecidableEq K] {kV:K→Value}
def dW {β:Type} (l:List (K×β)) (x:K) (y:β):List (K×β):=if (l.lookup x).isSome then l.map (fun p=>if p.1=x then (x,y) else p) else l++[(x,y)]
def cG {β:Type} (l:List (K×β)) (x:K):List (K×β):=l.filter fun p=> !decide (p.1=x)
def bM {β γ:Type} (f:β→γ) (l:List (K×β)):List (K×γ):=l.map fun p=>(p.1,f p.2)
theorem Hg {β γ:Type} (f:β→γ) (l:List (K×β)):(bM f l).length=l.length:=by simp [bM]
theorem mX {β γ:Type} (f:β→γ) (x:K): ∀ l:List (K×β),(bM f l).lookup x=(l.lookup x).map f
 |[]=>rfl
 |p::l=>by
  obtain ⟨k,v⟩:=p
  have ih:=mX f x l
  by_cases h:x=k
  ·subst h; simp [bM,List.lookup]
  ·have:(x==k)=false:=by simpa using h
   simp only [bM,List.map_cons,List.lookup,this] at ih ⊢
   exact ih
theorem fW {β γ:Type} (f:β→γ) (l:List (K×β)) (x:K) (y:β):bM f (dW l x y)=dW (bM f l) x (f y):=by
 unfold dW
 rw [mX,Option.isSome_map]
 split
 ·simp only [bM,List.map_map]
  refine List.map_congr_left fun p _=>?_
  simp only [Function.comp]
  split<;>rfl
 ·simp [bM]
theorem l0 {β γ:Type} (f:β→γ) (l:List (K×β)) (x:K):bM f (cG l x)=cG (bM f l) x:=by
 unfold cG bM
 rw [List.filter_map]
 rfl
theorem gU {β:Type} {x:K}: ∀ {l:List (K×β)},l.lookup x=none↔ ∀ p∈l,p.1≠x
 |[]=>by simp
 |p::l=>by
  obtain ⟨k,v⟩:=p
  by_cases h:x=k
  ·subst h; simp [List.lookup]
  ·have hb:(x==k)=false:=by simpa using h
   simp only [List.lookup,hb,bx,forall_eq_or_imp]
   rw [gU (l:=l)]
   exact ⟨fun q=>⟨fun e=>h e.symm,q⟩,fun q=>q.2⟩
theorem jv {β:Type} {x:K} {y:β}: ∀ {l:List (K×β)},(l.map (·.1)).Nodup→((x,y)∈l↔l.lookup x=some y)
 |[],_=>by simp
 |p::l,hn=>by
  obtain ⟨k,v⟩:=p
  simp only [List.map_cons,List.nodup_cons] at hn
  by_cases h:x=k
  ·subst h
   simp only [List.lookup,beq_self_eq_true,bx,Prod.mk.injEq,true_and,Option.some.injEq]
   constructor
   ·rintro (e|e)
    ·exact e.symm
    ·exact absurd (bX.2 ⟨_,e,U⟩) hn.1
   ·intro e; exact .inl e.symm
  ·have hb:(x==k)=false:=by simpa using h
   simp only [List.lookup,hb,bx,Prod.mk.injEq,h,false_and,false_or]
   exact jv hn.2
structure jg (kV:K→Value) (es:Array MapEntry) (c:Nat) (m:List (K×Value)):Prop where
 list:es.toList.map (fun (e:MapEntry)=>(e.key,e.val))=m.map (fun p=>(kV p.1,p.2))
 keys:(m.map (·.1)).Nodup
 Mo: ∀ e∈es.toList,e.born<c
 born:(es.toList.map (·.born)).Nodup
def g_ (kV:K→Value) (b:Nat) (m:List (K×Value)):au where
 eZ k:=k=b
 wf k:=k=b
 holds w:= ∃ es c,w.heap[b]? =some (.map es c)∧jg kV es c m
 wr:=true
 kE _ h:=h
 whole _ _ h:=h
 lt w h k hk:=by obtain ⟨es,c,he,_⟩:=h; exact hk▸ew he
 oM w w' hk h:=by obtain ⟨es,c,he,hm⟩:=h; exact ⟨es,c,(hk b rfl).trans he,hm⟩
theorem jg.nil:jg kV #[] 0 []:=⟨rfl,List.nodup_nil,sm,List.nodup_nil⟩
theorem jg.size {es:Array MapEntry} {c:Nat} {m:List (K×Value)} (h:jg kV es c m):es.size=m.length:=by
 have:=congrArg List.length h.list
 simpa using this
theorem E7 {P:Program} {kt:Nat} (hk:uz P kt kV) (x:K): ∀ (es:List MapEntry) (m:List (K×Value)),es.map (fun (e:MapEntry)=>(e.key,e.val))=m.map (fun p=>(kV p.1,p.2))→
 ((∀ e∈es,e.key≠kV x)→m.lookup x=none)∧ ∀ (j:Nat) (e:MapEntry),es[j]? =some e→e.key=kV x→m[j]? =some (x,e.val):=by
 intro es m h
 refine ⟨fun hn=>gU.2 fun p hp e=>?_,fun j e he hx=>?_⟩
 ·have:(kV p.1,p.2)∈es.map (fun (e:MapEntry)=>(e.key,e.val)):=by rw [h]; exact bX.2 ⟨p,hp,rfl⟩
  obtain ⟨z,hz,B⟩:=bX.1 this
  simp only [Prod.mk.injEq] at B
  exact hn z hz (by rw [B.1,e])
 ·have A:(es.map (fun (e:MapEntry)=>(e.key,e.val)))[j]? =some (e.key,e.val):=by rw [fH,he]; rfl
  rw [h,fH] at A
  cases hm:m[j]? with
  |none=>simp [hm] at A
  |some p=>
   simp only [hm,Option.map_some,Option.some.injEq,Prod.mk.injEq] at A
   have:=hk.inj _ _ (A.1.trans hx)
   obtain ⟨k,v⟩:=p
   simp only at this A
   rw [this,A.2]
theorem pg {P:Program} {w:World} {kt:Nat} {x:K} {es:Array MapEntry} {c:Nat} {m:List (K×Value)} (hk:uz P kt kV) (h:jg kV es c m):
 ((Instr.findKey kt (kV x) es.toList).run P w= .ok none w∧m.lookup x=none)∨
 ∃ j v,(Instr.findKey kt (kV x) es.toList).run P w= .ok (some (j,v)) w∧m[j]? =some (x,v)∧m.lookup x=some v:=by
 obtain ⟨D,E⟩:=E7 hk x es.toList m h.list
 rcases hk.find x w es.toList (fun e he=>by
  have:(e.key,e.val)∈m.map (fun p=>(kV p.1,p.2)):=by rw [← h.list]; exact bX.2 ⟨e,he,rfl⟩
  obtain ⟨p,_,hp⟩:=bX.1 this
  simp only [Prod.mk.injEq] at hp
  exact ⟨p.1,hp.1.symm⟩) with ⟨A,B⟩|⟨j,e,A,B,C⟩
 ·exact .inl ⟨A,D B⟩
 ·have:=E j e B C
  exact .inr ⟨j,e.val,A,this,(jv h.keys).1 (aT this)⟩
theorem i_ {P:Program} {w:World} {kt:Nat} {x:K} (hk:uz P kt kV) (e:Bool):(Instr.checkKey e 10000 kt (kV x)).run P w= .ok () w:=hk.check e x w
section
variable {E:fh} {ops:Array Oper} {Q:cZ} {rest:List Oper} {D:List Deferred} {L:List (Nat×Value)} {C:List au}
variable {dst:Option Tmp} {d:Nat} {ty:TypeId} {ps:String} {af:Array Edge} {g:Option (Nat×Bool)}
theorem lx {t:TypeId} (hg:jI ops L g=true) (hd:Nat.blt d E.n=true) (k: ∀ b,RJ E ops Q rest D ((d,.map (some b))::L) (g_ kV b []::C)):RJ E ops Q (⟨some d,.makeMap t none,ty,ps,af,g⟩::rest) D L C:=by
 intro a w B hs
 have hd':d<E.n:=by rw [← Nat.blt_eq]; exact hd
 unfold rR
 rw [if_pos (eg B hg)]
 refine g3 (v:= .map (some w.heap.size)) (w':=w.alloc (.map #[] 0)) sm ?_ ?_
 ·simp [execOp,Instr.makeMap,newObj,Sem.run]
 ·refine k _ _ _ (B.put hd' _) (hs.grow (d_.alloc no w _) (N:=[g_ kV w.heap.size []]) ⟨fun A hA=>?_,fun A hA b hb=>?_,List.pairwise_singleton _ _⟩)
  ·simp at hA; subst hA; exact ⟨#[],0,heap_alloc_new w _,jg.nil⟩
  ·simp at hA; subst hA; exact Nat.le_of_eq (Eq.symm hb)
theorem jg.push {es:Array MapEntry} {c:Nat} {m:List (K×Value)} (h:jg kV es c m) {x:K} (hx:m.lookup x=none) (v:Value):jg kV (es.push {key:=kV x,val:=v,born:=c}) (c+1) (m++[(x,v)]):=by
 refine ⟨by simp [h.list],?_,?_,?_⟩
 ·rw [List.map_append,List.nodup_append]
  refine ⟨h.keys,sm,fun a ha b hb=>?_⟩
  simp at hb; subst hb
  obtain ⟨p,hp,rfl⟩:=bX.1 ha
  exact gU.1 hx p hp
 ·intro e he
  simp only [Array.toList_push,dJ,bJ] at he
  rcases he with he|rfl
  ·exact Nat.lt_succ_of_lt (h.Mo e he)
  ·exact Nat.lt_succ_self _
 ·simp only [Array.toList_push,List.map_append,List.map_cons,List.map_nil]
  rw [List.nodup_append]
  refine ⟨h.born,sm,fun a ha b hb=>?_⟩
  simp at hb; subst hb
  obtain ⟨p,hp,rfl⟩:=bX.1 ha
  exact Nat.ne_of_lt (h.Mo p hp)
theorem Nx {m:List (K×Value)} {j:Nat} {x:K} {v0 v:Value} (hn:(m.map (·.1)).Nodup) (hj:m[j]? =some (x,v0)):m.map (fun p=>if p.1=x then (x,v) else p)=m.set j (x,v):=by
 refine List.ext_getElem? fun i=>?_
 rw [fH,List.getElem?_set]
 by_cases e:j=i
 ·subst e
  have hl:=(aS.1 hj).1
  rw [hj]; simp [hl]
 ·rw [if_neg e]
  cases hi:m[i]? with
  |none=>rfl
  |some p=>
   simp only [Option.map_some]
   rw [if_neg]
   intro hp
   have B:(m.map (·.1))[i]? =some x:=by rw [fH,hi]; simp [hp]
   have C:(m.map (·.1))[j]? =some x:=by rw [fH,hj]; rfl
   have A:=(aS.1 B).1
   exact e (((List.getElem?_inj A hn).1 (B.trans C.symm)).symm)
theorem jg.set {es:Array MapEntry} {c:Nat} {m:List (K×Value)} (h:jg kV es c m) {x:K} {j:Nat} {v0:Value} (hj:m[j]? =some (x,v0)) (hx:m.lookup x=some v0) (v:Value):
 jg kV (es.modify j fun e=>{e with key:=kV x,val:=v}) c (dW m x v):=by
 have C:dW m x v=m.set j (x,v):=by unfold dW; rw [hx]; simpa using Nx h.keys hj
 have hl:=(aS.1 hj).1
 have E:=h.size
 have A:j<es.size:=by omega
 have B:(es.modify j fun e=>{e with key:=kV x,val:=v}).toList=es.toList.set j {(es[j]) with key:=kV x,val:=v}:=by
  refine List.ext_getElem? fun i=>?_
  rw [Array.getElem?_toList,Array.getElem?_modify,List.getElem?_set]
  by_cases e:j=i
  ·subst e; simp [A]
  ·simp [e]
 have D:(es.toList.set j {(es[j]) with key:=kV x,val:=v}).map (·.born)=es.toList.map (·.born):=by
  rw [List.map_set]
  refine List.ext_getElem? fun i=>?_
  rw [List.getElem?_set]
  by_cases e:j=i
  ·subst e; simp [A]
  ·rw [if_neg e]
 refine ⟨?_,?_,?_,?_⟩
 ·rw [B,C,List.map_set,List.map_set,h.list]
 ·rw [C,List.map_set]
  have:(m.map (·.1)).set j x=m.map (·.1):=by
   refine List.ext_getElem? fun i=>?_
   rw [List.getElem?_set]
   by_cases e:j=i
   ·subst e; simp [hl]; simpa using (congrArg Prod.fst ((aS.1 hj).2)).symm
   ·rw [if_neg e]
  simp only [this]
  exact h.keys
 ·intro e he
  rw [B] at he
  have hb:e.born∈(es.toList.set j {(es[j]) with key:=kV x,val:=v}).map (·.born):=bX.2 ⟨e,he,rfl⟩
  rw [D] at hb
  obtain ⟨e',he',hq⟩:=bX.1 hb
  rw [← hq]; exact h.Mo e' he'
 ·rw [B,D]; exact h.born
/-- m[x] = y -/
theorem ic {t kt et:TypeId} {xm xk xv:Operand} {b:Nat} {x:K} {v:Value} {m m':List (K×Value)} {C':List au} (i:Nat) (hg:jI ops L g=true) (hm:ev L xm=some (.map (some b))) (hk:ev L xk=some (kV x)) (hv:ev L xv=some v)
 (ht:E.P.underlying t=some (.map kt et)) (hkt:uz E.P kt kV) (hC:C[i]? =some (g_ kV b m)) (hm':dW m x v=m') (hC':C.set i (g_ kV b m')=C') (k:RJ E ops Q rest D L C'):
 RJ E ops Q (⟨none,.mapUpdate t xm xk xv,ty,ps,af,g⟩::rest) D L C:=by
 subst hm' hC'
 intro a w A hs
 unfold rR
 rw [if_pos (eg A hg)]
 obtain ⟨es,c,he,hi⟩:=hs.holds _ (aT hC)
 have B:(getObj b).run E.P w= .ok (.map es c) w:=MapKept.run_getObj_map he
 rcases pg (P:=E.P) (w:=w) (x:=x) hkt hi with ⟨AA,F⟩|⟨j,N,AA,F,J⟩
 ·refine rJ (w':={w with heap:=w.heap.setIfInBounds b (.map (es.push {key:=kV x,val:=v,born:=c}) (c+1))}) sm ?_ ?_
  ·simp [execOp,A.ev hm,A.ev hk,A.ev hv,Instr.mapUpdate,run_underlying ht,B,i_ hkt,AA,MapKept.run_setObj_map _ he]
  ·refine k _ _ ⟨A.defers,A.size,A.at_⟩ (hs.Dz (b:=b) i hC U U (nj _) (fun _ h=>h) ⟨_,_,pj he,?_⟩)
   have:dW m x v=m++[(x,v)]:=by unfold dW; rw [F]; rfl
   rw [this]; exact hi.push F v
 ·have M:=hi.size
  have G:j<es.size:=by have:=(aS.1 F).1; omega
  have H:(es[j]).key=kV x:=by
   have:=congrArg (fun l=>l[j]?) hi.list
   simp [G,F] at this
   exact this.1
  refine rJ (w':={w with heap:=w.heap.setIfInBounds b (.map (es.modify j fun e=>{e with key:=kV x,val:=v}) c)}) sm ?_ ?_
  ·simp [execOp,A.ev hm,A.ev hk,A.ev hv,Instr.mapUpdate,run_underlying ht,B,i_ hkt,AA,MapKept.run_setObj_map _ he,Instr.keyThatStays,G,H,hkt.bits x]
  ·exact k _ _ ⟨A.defers,A.size,A.at_⟩ (hs.Dz (b:=b) i hC U U (nj _) (fun _ h=>h) ⟨_,_,pj he,hi.set F J v⟩)
theorem jg.del {es:Array MapEntry} {c:Nat} {m:List (K×Value)} (h:jg kV es c m) {x:K} {j:Nat} {v0:Value} (hj:m[j]? =some (x,v0)):jg kV (es.eraseIdxIfInBounds j) c (cG m x):=by
 have hl:=(aS.1 hj).1
 have D:=h.size
 have A:j<es.size:=by omega
 have B:(es.eraseIdxIfInBounds j).toList=es.toList.eraseIdx j:=by simp [Array.eraseIdxIfInBounds,A]
 have E:cG m x=m.eraseIdx j:=by
  have hn:=h.keys
  clear h D A B
  induction m generalizing j with
  |nil=>simp at hj
  |cons p m ih=>
   obtain ⟨k,v⟩:=p
   simp only [List.map_cons,List.nodup_cons] at hn
   cases j with
   |zero=>
    simp at hj
    obtain ⟨rfl,rfl⟩:=hj
    simp only [cG,List.eraseIdx_zero,List.tail_cons]
    rw [List.filter_cons_of_neg sm]
    refine List.filter_eq_self.2 fun p hp=>?_
    have:p.1≠k:=fun e=>hn.1 (bX.2 ⟨p,hp,e⟩)
    simpa using this
   |succ j=>
    simp only [List.getElem?_cons_succ] at hj
    have C:k≠x:=fun e=>hn.1 (bX.2 ⟨_,aT hj,e.symm⟩)
    simp only [cG,List.eraseIdx_cons_succ] at ih ⊢
    rw [List.filter_cons_of_pos (by simpa using C),ih hj (by simpa using (aS.1 hj).1) hn.2]
 have sub:(es.eraseIdxIfInBounds j).toList.Sublist es.toList:=by rw [B]; exact List.eraseIdx_sublist _ _
 refine ⟨?_,?_,fun e he=>h.Mo e (sub.subset he),h.born.sublist (sub.map _)⟩
 ·rw [B,E,ChangeMaps.map_eraseIdx,ChangeMaps.map_eraseIdx,h.list]
 ·rw [E]; exact h.keys.sublist ((List.eraseIdx_sublist _ _).map _)
theorem D_ {m:List (K×Value)} {x:K} (h:m.lookup x=none):cG m x=m:=List.filter_eq_self.2 fun p hp=>by simpa using gU.1 h p hp
/-- y, ok := m[x] -/
theorem Mf {t kt et:TypeId} {xm xk:Operand} {b:Nat} {x:K} {z:Value} {m:List (K×Value)} (hg:jI ops L g=true) (hm:ev L xm=some (.map (some b))) (hk:ev L xk=some (kV x))
 (ht:E.P.underlying t=some (.map kt et)) (hkt:uz E.P kt kV) (hz:tV E.P et=some z) (hC:jc C (g_ kV b m).holds):
 SD E ops ⟨dst,.lookup t xm xk true,ty,ps,af,g⟩ D L C (.tuple [(m.lookup x).getD z,.bool (m.lookup x).isSome].toArray):=
 dR hg sm fun a w A hs=>by
  obtain ⟨es,c,he,hi⟩:=hs.has hC
  have B:(getObj b).run E.P w= .ok (.map es c) w:=MapKept.run_getObj_map he
  rcases pg (P:=E.P) (w:=w) (x:=x) hkt hi with ⟨F,G⟩|⟨j,AA,F,G,H⟩
  ·simp [execOp,Instr.lookup,A.ev hm,A.ev hk,run_underlying ht,B,i_ hkt,F,G,Jn hz]
  ·simp [execOp,Instr.lookup,A.ev hm,A.ev hk,run_underlying ht,B,i_ hkt,F,H]
/-- m[x] -/
theorem HJ {t kt et:TypeId} {xm xk:Operand} {b:Nat} {x:K} {z:Value} {m:List (K×Value)} (hg:jI ops L g=true) (hm:ev L xm=some (.map (some b))) (hk:ev L xk=some (kV x))
 (ht:E.P.underlying t=some (.map kt et)) (hkt:uz E.P kt kV) (hz:tV E.P et=some z) (hC:jc C (g_ kV b m).holds):
 SD E ops ⟨dst,.lookup t xm xk false,ty,ps,af,g⟩ D L C ((m.lookup x).getD z):=
 dR hg sm fun a w A hs=>by
  obtain ⟨es,c,he,hi⟩:=hs.has hC
  have B:(getObj b).run E.P w= .ok (.map es c) w:=MapKept.run_getObj_map he
  rcases pg (P:=E.P) (w:=w) (x:=x) hkt hi with ⟨F,G⟩|⟨j,AA,F,G,H⟩
  ·simp [execOp,Instr.lookup,A.ev hm,A.ev hk,run_underlying ht,B,i_ hkt,F,G,Jn hz]
  ·simp [execOp,Instr.lookup,A.ev hm,A.ev hk,run_underlying ht,B,i_ hkt,F,H]
/-- len(m) -/
theorem Kh {t kt et:TypeId} {xm:Operand} {b:Nat} {m:List (K×Value)} (hg:jI ops L g=true) (hm:ev L xm=some (.map (some b))) (ht:E.P.underlying t=some (.map kt et)) (hC:jc C (g_ kV b m).holds):
 SD E ops ⟨dst,.call {callee:= .builtin .len,args:= #[xm],argTypes:= #[t]},ty,ps,af,g⟩ D L C (.int .i64 (m.length:Int)):=
 dR hg sm fun a w B hs=>by
  obtain ⟨es,c,he,hi⟩:=hs.has hC
  have A:(getObj b).run E.P w= .ok (.map es c) w:=MapKept.run_getObj_map he
  simp [execOp,resolve,invoke,builtin,B.ev hm,Builtin.len_,run_underlying ht,A,hi.size,goInt]
theorem j_ {β:Type} {t kt et:TypeId} {xm xk:Operand} {b:Nat} {x:K} {f:β→Value} {z:β} {l:List (K×β)} (hg:jI ops L g=true) (hm:ev L xm=some (.map (some b))) (hk:ev L xk=some (kV x))
 (ht:E.P.underlying t=some (.map kt et)) (hkt:uz E.P kt kV) (hz:tV E.P et=some (f z)) (hC:jc C (g_ kV b (bM f l)).holds):
 SD E ops ⟨dst,.lookup t xm xk true,ty,ps,af,g⟩ D L C (.tuple [f ((l.lookup x).getD z),.bool (l.lookup x).isSome].toArray):=by
 have:=Mf (dst:=dst) (ty:=ty) (ps:=ps) (af:=af) (D:=D) hg hm hk ht hkt hz hC
 rw [mX] at this
 have A:((l.lookup x).map f).getD (f z)=f ((l.lookup x).getD z):=by cases l.lookup x<;>rfl
 rw [A,Option.isSome_map] at this
 exact this
theorem gh {β:Type} {t kt et:TypeId} {xm xk:Operand} {b:Nat} {x:K} {f:β→Value} {z:β} {l:List (K×β)} (hg:jI ops L g=true) (hm:ev L xm=some (.map (some b))) (hk:ev L xk=some (kV x))
 (ht:E.P.underlying t=some (.map kt et)) (hkt:uz E.P kt kV) (hz:tV E.P et=some (f z)) (hC:jc C (g_ kV b (bM f l)).holds):
 SD E ops ⟨dst,.lookup t xm xk false,ty,ps,af,g⟩ D L C (f ((l.lookup x).getD z)):=by
 have:=HJ (dst:=dst) (ty:=ty) (ps:=ps) (af:=af) (D:=D) hg hm hk ht hkt hz hC
 rw [mX] at this
 have A:((l.lookup x).map f).getD (f z)=f ((l.lookup x).getD z):=by cases l.lookup x<;>rfl
 rw [A] at this
 exact this
theorem wM {β:Type} {t kt et:TypeId} {xm:Operand} {b:Nat} {f:β→Value} {l:List (K×β)} (hg:jI ops L g=true) (hm:ev L xm=some (.map (some b))) (ht:E.P.underlying t=some (.map kt et)) (hC:jc C (g_ kV b (bM f l)).holds):
 SD E ops ⟨dst,.call {callee:= .builtin .len,args:= #[xm],argTypes:= #[t]},ty,ps,af,g⟩ D L C (.int .i64 (l.length:Int)):=by
 have:=Kh (dst:=dst) (ty:=ty) (ps:=ps) (af:=af) (D:=D) hg hm ht hC
 rwa [Hg] at this
end
theorem e7 {β:Type} {x:K} {y:β} {l:List (K×β)} (h:(x,y)∈l):(cG l x).length<l.length:=by
 unfold cG
 exact List.length_filter_lt_length_iff_exists.2 ⟨_,h,sm⟩
theorem ki {β:Type} {x:K} {p:K×β} {l:List (K×β)}:p∈cG l x↔p∈l∧p.1≠x:=by simp [cG]
/-- an iterator over a map: what is left; what came last -/
def yF (kV:K→Value) (r b:Nat) (m left:List (K×Value)) (cur:Option (K×Value)):au where
 eZ k:=k=r∨k=b
 wf k:=k=r∨k=b
 holds w:=r≠b∧ ∃ (es:Array MapEntry) (c since:Nat) (seen:Array Nat) (st:Nat),w.heap[b]? =some (.map es c)∧jg kV es c m∧w.heap[r]? =some (.mapIter (some b) since seen st)∧(∀ e∈es.toList,e.born<since)∧since≤st∧since≤c∧
  (leftOf es seen).toList.map (fun (e:MapEntry)=>(e.key,e.val))=left.map (fun p=>(kV p.1,p.2))∧
  ∀ p,cur=some p→ ∃ (e:MapEntry) (seen0:Array Nat),e∈es.toList∧seen=seen0.push e.born∧st=c∧e.key=kV p.1∧e.val=p.2
 wr:=true
 kE _ h:=h
 whole _ _ h:=h
 lt w h k hk:=by
  obtain ⟨_,es,c,since,seen,st,h1,_,h2,_⟩:=h
  rcases hk with rfl|rfl
  ·exact ew h2
  ·exact ew h1
 oM w w' hk h:=by
  obtain ⟨hne,es,c,since,seen,st,h1,h2,h3,h4⟩:=h
  exact ⟨hne,es,c,since,seen,st,(hk b (.inr rfl)).trans h1,h2,(hk r (.inl rfl)).trans h3,h4⟩
theorem xR {r b:Nat} {m left:List (K×Value)} {cur:Option (K×Value)}:(∀ w,(yF kV r b m left cur).holds w→(yF kV r b m left none).holds w)∧(∀ k,(yF kV r b m left none).eZ k→(yF kV r b m left cur).eZ k)∧ ∀ k,(yF kV r b m left none).wf k→(yF kV r b m left cur).wf k:=
 ⟨fun w h=>by
  obtain ⟨A,es,c,since,seen,st,B,C,D,E,F,h5',G,_⟩:=h
  exact ⟨A,es,c,since,seen,st,B,C,D,E,F,h5',G,fun p hp=>by cases hp⟩,fun _ h=>h,fun _ h=>h⟩
theorem IM {r b:Nat} {m left:List (K×Value)} {cur:Option (K×Value)}:(∀ w,(yF kV r b m left cur).holds w→(g_ kV b m).holds w)∧(∀ k,(g_ kV b m).eZ k→(yF kV r b m left cur).eZ k)∧ ∀ k,(g_ kV b m).wf k→(yF kV r b m left cur).wf k:=
 ⟨fun w h=>by
  obtain ⟨C,es,c,since,seen,st,A,B,_⟩:=h
  exact ⟨es,c,A,B⟩,fun _ h=> .inr h,fun _ h=> .inr h⟩
theorem CY {es:Array MapEntry} {c:Nat} {m:List (K×Value)} (hinj: ∀ x y,kV x=kV y→x=y) (hi:jg kV es c m) {x y:MapEntry} (hx:x∈es.toList) (hy:y∈es.toList) (e:x.key=y.key):x=y:=by
 have hk:(es.toList.map (·.key))=(m.map (·.1)).map kV:=by
  have:=congrArg (List.map Prod.fst) hi.list
  simpa [Function.comp_def] using this
 have h:(es.toList.map (·.key)).Nodup:=by
  rw [hk,List.nodup_iff_pairwise_ne,List.pairwise_map]
  exact hi.keys.imp (fun B he=>B (hinj _ _ he))
 obtain ⟨i,A⟩:=List.getElem?_of_mem hx
 obtain ⟨j,hj⟩:=List.getElem?_of_mem hy
 have C:(es.toList.map (·.key))[i]? =some x.key:=by rw [fH,A]; rfl
 have D:(es.toList.map (·.key))[j]? =some x.key:=by rw [fH,hj,e]; rfl
 have E:=(List.getElem?_inj (aS.1 C).1 h).1 (C.trans D.symm)
 subst E
 exact Option.some.inj (A.symm.trans hj)
section
variable {E:fh} {ops:Array Oper} {Q:cZ} {rest:List Oper} {D:List Deferred} {L:List (Nat×Value)} {C:List au}
variable {dst:Option Tmp} {d:Nat} {ty:TypeId} {ps:String} {af:Array Edge} {g:Option (Nat×Bool)}
theorem ur {t kt et:TypeId} {xm:Operand} {b:Nat} {m:List (K×Value)} (i:Nat) (hg:jI ops L g=true) (hm:ev L xm=some (.map (some b))) (ht:E.P.underlying t=some (.map kt et)) (hC:C[i]? =some (g_ kV b m)) (hd:Nat.blt d E.n=true)
 (k: ∀ r,RJ E ops Q rest D ((d,.pointer (some ⟨r,0,none⟩))::L) (C.set i (yF kV r b m m none))):RJ E ops Q (⟨some d,.range t xm,ty,ps,af,g⟩::rest) D L C:=by
 intro a w A hs
 have hd':d<E.n:=by rw [← Nat.blt_eq]; exact hd
 unfold rR
 rw [if_pos (eg A hg)]
 obtain ⟨es,c,he,hi⟩:=hs.holds _ (aT hC)
 have F:b<w.heap.size:=ew he
 have B:(getObj b).run E.P w= .ok (.map es c) w:=MapKept.run_getObj_map he
 refine g3 (v:= .pointer (some ⟨w.heap.size,0,none⟩)) (w':=w.alloc (.mapIter (some b) c #[] c)) sm ?_ ?_
 ·simp [execOp,Instr.range,A.ev hm,run_underlying ht,B,newObj,Sem.run]
 ·refine k _ _ _ (A.put hd' _) (hs.mv i hC ⟨⟨I,es,c,c,#[],c,?_,hi,heap_alloc_new w _,hi.Mo,Nat.le_refl _,Nat.le_refl _,?_,fun p hp=>by cases hp⟩,d_.alloc _ w _,fun q hq=>?_,fun q hq=>?_⟩)
  ·rw [Below.heap_alloc w _ b F]; exact he
  ·have:leftOf es #[]=es:=by unfold leftOf; exact Array.filter_eq_self.2 sm
   rw [this]; exact hi.list
  ·rcases hq with rfl|rfl
   ·exact .inr (Nat.le_refl _)
   ·exact .inl U
  ·rcases hq with rfl|rfl
   ·exact .inr (Nat.le_refl _)
   ·exact .inl U
theorem wJ {es:Array MapEntry} {c:Nat} {m left:List (K×Value)} {seen:Array Nat} (hinj: ∀ x y,kV x=kV y→x=y) (hi:jg kV es c m) (h:(leftOf es seen).toList.map (fun (e:MapEntry)=>(e.key,e.val))=left.map (fun p=>(kV p.1,p.2))):(left.map (·.1)).Nodup:=by
 have B:((leftOf es seen).toList.map (·.key)).Sublist (es.toList.map (·.key)):=by
  unfold leftOf; rw [Array.toList_filter]; exact List.filter_sublist.map _
 have D:(es.toList.map (·.key))=(m.map (·.1)).map kV:=by
  have:=congrArg (List.map Prod.fst) hi.list
  simpa [Function.comp_def] using this
 have E:((leftOf es seen).toList.map (·.key))=(left.map (·.1)).map kV:=by
  have:=congrArg (List.map Prod.fst) h
  simpa [Function.comp_def] using this
 rw [D,E] at B
 have F:((m.map (·.1)).map kV).Nodup:=by
  rw [List.nodup_iff_pairwise_ne,List.pairwise_map]
  exact hi.keys.imp (fun A he=>A (hinj _ _ he))
 have C:=F.sublist B
 rw [List.nodup_iff_pairwise_ne,List.pairwise_map] at C
 rw [List.nodup_iff_pairwise_ne]
 exact C.imp (fun A he=>A (by rw [he]))
theorem Ma (hinj: ∀ x y,kV x=kV y→x=y) {xi:Operand} {r b:Nat} {m left:List (K×Value)} {cur:Option (K×Value)} (i:Nat) (hg:jI ops L g=true) (hm:ev L xi=some (.pointer (some ⟨r,0,none⟩))) (hC:C[i]? =some (yF kV r b m left cur)) (hd:Nat.blt d E.n=true)
 (k0:left=[]→RJ E ops Q rest D ((d,.tuple [.bool false].toArray)::L) C)
 (k1: ∀ x v,(x,v)∈left→(left.map (·.1)).Nodup→RJ E ops Q rest D ((d,.tuple [.bool true,kV x,v].toArray)::L) (C.set i (yF kV r b m (cG left x) (some (x,v))))):
 RJ E ops Q (⟨some d,.next xi false,ty,ps,af,g⟩::rest) D L C:=by
 intro a w G hs
 have hd':d<E.n:=by rw [← Nat.blt_eq]; exact hd
 unfold rR
 rw [if_pos (eg G hg)]
 obtain ⟨R,es,c,since,seen,st,X,hi,Y,J,V,M,A,_⟩:=hs.holds _ (aT hC)
 rcases run_next_at (P:=E.P) w ty r b since st seen es c Y X J V with ⟨Z,hr⟩|⟨e,he,N,H,hr⟩
 ·refine g3 (v:= .tuple #[.bool false]) (w':=w) sm ?_ ?_
  ·simp [execOp,G.ev hm,hr]
  ·refine k0 ?_ _ _ (G.put hd' _) hs
   have:(leftOf es seen).toList=[]:=by rw [← List.length_eq_zero_iff,Array.length_toList]; exact Z
   rw [this] at A
   exact List.map_eq_nil_iff.1 A.symm
 ·have O:(e.key,e.val)∈left.map (fun p=>(kV p.1,p.2)):=by rw [← A]; exact bX.2 ⟨e,he,rfl⟩
  obtain ⟨p,hp,S⟩:=bX.1 O
  obtain ⟨x,v⟩:=p
  simp only [Prod.mk.injEq] at S
  obtain ⟨hk,hv⟩:=S
  refine g3 (v:= .tuple #[.bool true,e.key,e.val]) (w':=ChangeMaps.setBlock N r (.mapIter (some b) since (seen.push e.born) c)) sm ?_ ?_
  ·simp [execOp,G.ev hm,hr]
  ·rw [← hk,← hv]
   have AA:=wJ hinj hi A
   have F:e∈es.toList:=by unfold leftOf at he; rw [Array.toList_filter] at he; exact (List.mem_filter.1 he).1
   have f:c=c:=rfl
   have B:N.heap=w.heap:=by rcases H with rfl|rfl<;>rfl
   refine k1 x v hp AA _ _ (G.put hd' _) (hs.mv i hC ⟨⟨R,es,c,since,seen.push e.born,c,?_,hi,?_,J,M,M,?_,fun q hq=>?_⟩,?_,fun q hq=> .inl hq,fun q hq=> .inl hq⟩)
   ·show (N.heap.setIfInBounds r _)[b]? =_
    rw [Array.getElem?_setIfInBounds_ne R,B]; exact X
   ·show (N.heap.setIfInBounds r _)[r]? =_
    rw [Array.getElem?_setIfInBounds_self_of_lt (by rw [B]; exact ew Y)]
   ·have T:leftOf es (seen.push e.born)=(leftOf es seen).filter (fun z=> !(z.born==e.born)):=by
     unfold leftOf
     rw [Array.filter_filter]
     congr 1
     funext z
     simp only [Array.contains_push,Bool.not_or]
     rw [Bool.and_comm]
    rw [T,Array.toList_filter]
    have key: ∀ (l:List MapEntry) (ll:List (K×Value)),(∀ z∈l,z∈es.toList)→l.map (fun (e:MapEntry)=>(e.key,e.val))=ll.map (fun p=>(kV p.1,p.2))→
     (l.filter (fun z=> !(z.born==e.born))).map (fun (e:MapEntry)=>(e.key,e.val))=(cG ll x).map (fun p=>(kV p.1,p.2)):=by
     intro l
     induction l with
     |nil=>intro ll _ h; cases ll with
      |nil=>rfl
      |cons p ll=>simp at h
     |cons z l ih=>
      intro ll hz h
      cases ll with
      |nil=>simp at h
      |cons p ll=>
       simp only [List.map_cons,List.cons.injEq,Prod.mk.injEq] at h
       have ih':=ih ll (fun y hy=>hz y (by simp [hy])) h.2
       have AB:(z.born=e.born)↔(p.1=x):=by
        constructor
        ·intro hb
         have:z=e:=Dt hi.born (hz z sm) F hb
         rw [this] at h
         have:=h.1.1.symm.trans hk.symm
         exact hinj _ _ this
        ·intro hx
         have W:z.key=e.key:=by rw [h.1.1,hx,hk]
         rw [CY hinj hi (hz z sm) F W]
       unfold cG at ih' ⊢
       by_cases hx:p.1=x
       ·rw [List.filter_cons_of_neg (by simp [AB.2 hx]),List.filter_cons_of_neg (by simp [hx])]; exact ih'
       ·rw [List.filter_cons_of_pos (by simpa using fun hb=>hx (AB.1 hb)),List.filter_cons_of_pos (by simpa using hx)]
        simp only [List.map_cons,h.1.1,h.1.2,ih']
    exact key _ _ (fun z hz=>by unfold leftOf at hz; rw [Array.toList_filter] at hz; exact (List.mem_filter.1 hz).1) A
   ·cases hq
    exact ⟨e,seen,F,U,U,hk.symm,hv.symm⟩
   ·refine ⟨?_,?_,?_,?_,fun q hq hn=>?_⟩
    ·rcases H with rfl|rfl<;>rfl
    ·rcases H with rfl|rfl<;>rfl
    ·rcases H with rfl|rfl<;>rfl
    ·show w.heap.size≤(N.heap.setIfInBounds r _).size
     simp [B]
    ·show (N.heap.setIfInBounds r _)[q]? =_
     rw [Array.getElem?_setIfInBounds_ne (fun e=>hn (.inl e.symm)),B]
theorem sE {xi:Operand} {r b:Nat} {m left:List (K×Value)} {x:K} {v:Value} (i:Nat) (hg:jI ops L g=true) (hm:ev L xi=some (.pointer (some ⟨r,0,none⟩))) (hC:C[i]? =some (yF kV r b m left (some (x,v)))):
 SD E ops ⟨dst,.entry xi,ty,ps,af,g⟩ D L C (.tuple [kV x,v].toArray):=
 dR hg sm fun a w F hs=>by
  obtain ⟨N,es,c,since,seen,st,J,hi,M,H,O,AA,G,B⟩:=hs.holds _ (aT hC)
  obtain ⟨e,A,he,rfl,rfl,hk,hv⟩:=B _ rfl
  have:=run_entry_at (P:=E.P) w r b since A es st e M J he hi.born
  simp [execOp,F.ev hm,this,hk,hv]
theorem sR (hinj: ∀ x y,kV x=kV y→x=y) {β:Type} {f:β→Value} {xi:Operand} {r b:Nat} {m:List (K×Value)} {ll:List (K×β)} {cur:Option (K×Value)} (i:Nat) (hg:jI ops L g=true) (hm:ev L xi=some (.pointer (some ⟨r,0,none⟩))) (hC:C[i]? =some (yF kV r b m (bM f ll) cur)) (hd:Nat.blt d E.n=true)
 (k0:ll=[]→RJ E ops Q rest D ((d,.tuple [.bool false].toArray)::L) C)
 (k1: ∀ x y,(x,y)∈ll→(ll.map (·.1)).Nodup→RJ E ops Q rest D ((d,.tuple [.bool true,kV x,f y].toArray)::L) (C.set i (yF kV r b m (bM f (cG ll x)) (some (x,f y))))):
 RJ E ops Q (⟨some d,.next xi false,ty,ps,af,g⟩::rest) D L C:=by
 refine Ma hinj i hg hm hC hd (fun h=>k0 (List.map_eq_nil_iff.1 h)) (fun x v B hn=>?_)
 obtain ⟨p,hp,A⟩:=bX.1 B
 simp only [Prod.mk.injEq] at A
 obtain ⟨rfl,rfl⟩:=A
 have:=k1 p.1 p.2 hp (by simpa [bM,Function.comp_def] using hn)
 rwa [l0] at this
end
end
end
section
structure bR where
 Start:Int
 gk:Int
 qb:List Int
 vu:List (List (Int×aa))
 cO:Int
 eh:Int
 Qn:Int
def bR.n (w:bR):Nat:=w.qb.length
def fr (s:Int):aD:=if s<0 then ⟨0,1⟩ else ⟨1,0⟩
def dy (a b:aD):aD:=⟨a.right+b.right,a.eX+b.eX⟩
def ud (w:bR) (b:Nat):List (Int×aa):=(w.vu[b]?).getD []
def iF (w:bR) (b:Nat):List (Int×aa):=(-1,⟨w.Start,w.gk⟩)::ud w b
def bU (w:bR) (b:Nat):Int:=(w.qb[b]?).getD 0
def kT (w:bR) (b:Nat) (p:aD×Int) (o:Int×aa):Option (aD×Int):=if max (p.2+bU w b) o.2.Lo≤min o.2.Hi w.gk then some (dy p.1 (fr o.1),max (p.2+bU w b) o.2.Lo) else none
def fwd (w:bR):Nat→List (aD×Int)
 |0=>[(⟨0,0⟩,w.Start)]
 |b+1=>(fwd w b).flatMap fun p=>(iF w b).filterMap (kT w b p)
def oc (w:bR) (b:Nat) (p:aD×Int) (o:Int×aa):Option (aD×Int):=if o.2.Lo≤min p.2 o.2.Hi then some (dy p.1 (fr o.1),min p.2 o.2.Hi-bU w b) else none
def bwd (w:bR):Nat→List (aD×Int)
 |0=>[(⟨0,0⟩,w.gk)]
 |k+1=>(⟨0,0⟩,w.gk)::(bwd w k).flatMap fun p=>(iF w (w.n-(k+1))).filterMap (oc w (w.n-(k+1)) p)
def back (w:bR) (b:Nat):List (aD×Int):=bwd w (w.n-b)
def kG (w:bR) (t:aD):Bool:=decide (t.eX≤w.cO∧w.Qn-t.right≤w.eh)
theorem fU {w:bR} {b:Nat} {q:aD×Int}:q∈fwd w (b+1)↔ ∃ p∈fwd w b,∃ o∈iF w b,kT w b p o=some q:=by
 simp only [fwd,List.mem_flatMap,List.mem_filterMap]
theorem u3 {w:bR} {b:Nat} (h:w.n≤b):back w b=[(⟨0,0⟩,w.gk)]:=by
 unfold back; rw [Nat.sub_eq_zero_of_le h]; rfl
theorem o6 {w:bR} {b:Nat} (h:b<w.n) {q:aD×Int}:q∈back w b↔q=(⟨0,0⟩,w.gk)∨ ∃ p∈back w (b+1),∃ o∈iF w b,oc w b p o=some q:=by
 unfold back
 have e:w.n-b=(w.n-(b+1))+1:=by omega
 rw [e]
 simp only [bwd,bx,List.mem_flatMap,List.mem_filterMap]
 rw [show w.n-(w.n-(b+1)+1)=b by omega]
def s8 (m c:List (aD×Int)):Prop:=(∀ t v,m.lookup t=some v→(t,v)∈c)∧ ∀ t y,(t,y)∈c→ ∃ v,m.lookup t=some v∧v≤y
def u9 (m c:List (aD×Int)):Prop:=(∀ t v,m.lookup t=some v→(t,v)∈c)∧ ∀ t y,(t,y)∈c→ ∃ v,m.lookup t=some v∧y≤v
def vo (m c:List (aD×Int)):Prop:= ∀ t v,m.lookup t=some v→(t,v)∈c
theorem ng {K β:Type} [DecidableEq K] {m:List (K×β)} {x t:K} {y:β}:(dW m x y).lookup t=if t=x then some y else m.lookup t:=by
 unfold dW
 by_cases hx:(m.lookup x).isSome
 ·rw [if_pos hx]
  have key: ∀ l:List (K×β),(l.lookup x).isSome∨True→(l.map (fun p=>if p.1=x then (x,y) else p)).lookup t=if t=x then (if (l.lookup x).isSome then some y else none) else l.lookup t:=by
   intro l _
   induction l with
   |nil=>simp
   |cons p l ih=>
    obtain ⟨k,v⟩:=p
    have ih:=ih (.inr trivial)
    by_cases hk:k=x
    ·subst hk
     by_cases ht:t=k
     ·subst ht; simp [List.lookup]
     ·have:(t==k)=false:=by simpa using ht
      simp only [List.map_cons,if_true,List.lookup,this,ih,if_neg ht]
    ·have hk':(x==k)=false:=by simpa using fun e=>hk e.symm
     by_cases ht:t=k
     ·subst ht; simp [List.lookup,hk]
     ·have A:(t==k)=false:=by simpa using ht
      simp only [List.map_cons,if_neg hk,List.lookup,A,ih,hk']
  rw [key m (.inr trivial)]
  by_cases ht:t=x
  ·subst ht
   rw [if_pos rfl,if_pos rfl,if_pos hx]
  ·rw [if_neg ht,if_neg ht]
 ·rw [if_neg hx]
  have hn:m.lookup x=none:=by cases h0:m.lookup x with
   |none=>rfl
   |some v=>exact absurd (by rw [h0]; rfl) hx
  by_cases ht:t=x
  ·subst ht
   rw [if_pos rfl]
   have:=gU.1 hn
   clear hn hx
   induction m with
   |nil=>simp
   |cons p m ih=>
    obtain ⟨k,v⟩:=p
    have hk:(t==k)=false:=by simpa using fun e=>this (k,v) sm e.symm
    simp only [List.cons_append,List.lookup,hk]
    exact ih (fun q hq=>this q (cV _ hq))
  ·rw [if_neg ht]
   clear hn hx
   induction m with
   |nil=>
    have:(t==x)=false:=by simpa using ht
    simp [List.lookup,this]
   |cons p m ih=>
    obtain ⟨k,v⟩:=p
    by_cases hk:t=k
    ·subst hk; simp [List.lookup]
    ·have:(t==k)=false:=by simpa using hk
     simp only [List.cons_append,List.lookup,this]
     exact ih
/-- what a map is after a try -/
def ph (m:List (aD×Int)) (q:aD×Int):List (aD×Int):=match m.lookup q.1 with
 |none=>dW m q.1 q.2
 |some v=>if q.2<v then dW m q.1 q.2 else m
def oY (m:List (aD×Int)) (q:aD×Int):List (aD×Int):=match m.lookup q.1 with
 |none=>dW m q.1 q.2
 |some v=>if v<q.2 then dW m q.1 q.2 else m
theorem wQ {m:List (aD×Int)} {q:aD×Int} {t:aD}:(ph m q).lookup t=if t=q.1 then some (match m.lookup q.1 with |none=>q.2|some v=>min q.2 v) else m.lookup t:=by
 unfold ph
 cases h:m.lookup q.1 with
 |none=>simp only; rw [ng]
 |some v=>
  simp only
  split
  ·rename_i A
   rw [ng,Int.min_eq_left I]
  ·rename_i A
   split
   ·rename_i e; subst e; rw [h,Int.min_eq_right I]
   ·rfl
theorem x9 {m:List (aD×Int)} {q:aD×Int} {t:aD}:(oY m q).lookup t=if t=q.1 then some (match m.lookup q.1 with |none=>q.2|some v=>max q.2 v) else m.lookup t:=by
 unfold oY
 cases h:m.lookup q.1 with
 |none=>simp only; rw [ng]
 |some v=>
  simp only
  split
  ·rename_i A
   rw [ng,Int.max_eq_left I]
  ·rename_i A
   split
   ·rename_i e; subst e; rw [h,Int.max_eq_right I]
   ·rfl
def xK (m m':List (aD×Int)):Prop:= ∀ t v,m.lookup t=some v→ ∃ v',m'.lookup t=some v'∧v'≤v
def wX (m m':List (aD×Int)):Prop:= ∀ t v,m.lookup t=some v→ ∃ v',m'.lookup t=some v'∧v≤v'
theorem xK.refl (m:List (aD×Int)):xK m m:=fun t v h=>⟨v,h,I⟩
theorem wX.refl (m:List (aD×Int)):wX m m:=fun t v h=>⟨v,h,I⟩
theorem vi {m:List (aD×Int)} {q:aD×Int}:xK m (ph m q):=fun t v h=>by
 rw [wQ]
 split
 ·rename_i e; subst e; rw [h]; exact ⟨_,rfl,by simp only; omega⟩
 ·exact ⟨v,h,I⟩
theorem qE {m:List (aD×Int)} {q:aD×Int}:wX m (oY m q):=fun t v h=>by
 rw [x9]
 split
 ·rename_i e; subst e; rw [h]; exact ⟨_,rfl,by simp only; omega⟩
 ·exact ⟨v,h,I⟩
theorem Ih {m c:List (aD×Int)} {q:aD×Int} (h:vo m c) (hq:q∈c):vo (ph m q) c:=fun t v hv=>by
 rw [wQ] at hv
 split at hv
 ·rename_i e
  subst e
  cases hm:m.lookup q.1 with
  |none=>simp only [hm,Option.some.injEq] at hv; subst hv; exact hq
  |some x=>
   simp only [hm,Option.some.injEq] at hv; subst hv
   rcases Int.lt_or_le q.2 x with A|A
   ·rw [Int.min_eq_left I]; exact hq
   ·rw [Int.min_eq_right I]; exact h _ _ hm
 ·exact h t v hv
theorem G5 {m c:List (aD×Int)} {q:aD×Int} (h:vo m c) (hq:q∈c):vo (oY m q) c:=fun t v hv=>by
 rw [x9] at hv
 split at hv
 ·rename_i e
  subst e
  cases hm:m.lookup q.1 with
  |none=>simp only [hm,Option.some.injEq] at hv; subst hv; exact hq
  |some x=>
   simp only [hm,Option.some.injEq] at hv; subst hv
   rcases Int.lt_or_le q.2 x with A|A
   ·rw [Int.max_eq_right I]; exact h _ _ hm
   ·rw [Int.max_eq_left I]; exact hq
 ·exact h t v hv
theorem Iq {m:List (aD×Int)} {q:aD×Int}: ∃ v,(ph m q).lookup q.1=some v∧v≤q.2:=by
 rw [wQ,if_pos rfl]
 refine ⟨_,U,?_⟩
 cases m.lookup q.1<;>simp only <;>omega
theorem HO {m:List (aD×Int)} {q:aD×Int}: ∃ v,(oY m q).lookup q.1=some v∧q.2≤v:=by
 rw [x9,if_pos rfl]
 refine ⟨_,U,?_⟩
 cases m.lookup q.1<;>simp only <;>omega
/-- all that comes of one entry, by some options, is held -/
def jh (w:bR) (b:Nat) (m:List (aD×Int)) (p:aD×Int) (os:List (Int×aa)):Prop:= ∀ o∈os,∀ q,kT w b p o=some q→ ∃ v,m.lookup q.1=some v∧v≤q.2
def jk (w:bR) (b:Nat) (m:List (aD×Int)) (p:aD×Int) (os:List (Int×aa)):Prop:= ∀ o∈os,∀ q,oc w b p o=some q→ ∃ v,m.lookup q.1=some v∧q.2≤v
theorem jh.lower {w:bR} {b:Nat} {m m':List (aD×Int)} {p:aD×Int} {os:List (Int×aa)} (h:jh w b m p os) (hl:xK m m'):jh w b m' p os:=fun o ho q hq=>by
 obtain ⟨v,A,C⟩:=h o ho q hq
 obtain ⟨v',B,D⟩:=hl _ _ A
 exact ⟨v',B,I⟩
theorem jk.upper {w:bR} {b:Nat} {m m':List (aD×Int)} {p:aD×Int} {os:List (Int×aa)} (h:jk w b m p os) (hl:wX m m'):jk w b m' p os:=fun o ho q hq=>by
 obtain ⟨v,A,C⟩:=h o ho q hq
 obtain ⟨v',B,D⟩:=hl _ _ A
 exact ⟨v',B,I⟩
theorem jh.sub {w:bR} {b:Nat} {m:List (aD×Int)} {p:aD×Int} {os os':List (Int×aa)} (h:jh w b m p os) (hs: ∀ o∈os',o∈os):jh w b m p os':=fun o ho=>h o (hs o ho)
theorem jk.sub {w:bR} {b:Nat} {m:List (aD×Int)} {p:aD×Int} {os os':List (Int×aa)} (h:jk w b m p os) (hs: ∀ o∈os',o∈os):jk w b m p os':=fun o ho=>h o (hs o ho)
theorem jh.add {w:bR} {b:Nat} {m m':List (aD×Int)} {p:aD×Int} {os:List (Int×aa)} {o:Int×aa} (h:jh w b m p os) (hl:xK m m') (hn: ∀ q,kT w b p o=some q→ ∃ v,m'.lookup q.1=some v∧v≤q.2):jh w b m' p (os++[o]):=fun o' ho q hq=>by
 rcases dJ.1 ho with ho|ho
 ·exact h.lower hl o' ho q hq
 ·simp only [bJ] at ho; subst ho; exact hn q hq
theorem jk.add {w:bR} {b:Nat} {m m':List (aD×Int)} {p:aD×Int} {os:List (Int×aa)} {o:Int×aa} (h:jk w b m p os) (hl:wX m m') (hn: ∀ q,oc w b p o=some q→ ∃ v,m'.lookup q.1=some v∧q.2≤v):jk w b m' p (os++[o]):=fun o' ho q hq=>by
 rcases dJ.1 ho with ho|ho
 ·exact h.upper hl o' ho q hq
 ·simp only [bJ] at ho; subst ho; exact hn q hq
theorem fD {m:List (aD×Int)} (hn:(m.map (·.1)).Nodup) {t:aD} {v:Int}:(t,v)∈m↔m.lookup t=some v:=jv hn
theorem o9 {z t:aD} {x v:Int}:List.lookup t [(z,x)]=some v↔t=z∧v=x:=by
 by_cases e:t=z
 ·subst e; simp [List.lookup,eq_comm]
 ·have:(t==z)=false:=by simpa using e
  simp [List.lookup,this,e]
theorem Iw {w:bR}:s8 [(⟨0,0⟩,w.Start)] (fwd w 0):=by
 refine ⟨fun t v h=>?_,fun t y h=>?_⟩
 ·obtain ⟨rfl,rfl⟩:=o9.1 h
  simp [fwd]
 ·simp only [fwd,bJ,Prod.mk.injEq] at h
  obtain ⟨rfl,rfl⟩:=h
  exact ⟨w.Start,o9.2 ⟨U,U⟩,Int.le_refl _⟩
theorem KS {w:bR} {b:Nat} {mb m:List (aD×Int)} (hn:(mb.map (·.1)).Nodup) (h:s8 mb (fwd w b)) (hs:vo m (fwd w (b+1))) (hd: ∀ p∈mb,jh w b m p (iF w b)):s8 m (fwd w (b+1)):=⟨hs,fun t y hy=>by
 obtain ⟨p,hp,o,ho,e⟩:=fU.1 hy
 obtain ⟨v,B,E⟩:=h.2 p.1 p.2 hp
 unfold kT at e
 split at e
 ·rename_i D
  simp only [Option.some.injEq,Prod.mk.injEq] at e
  obtain ⟨v',A,C⟩:=hd (p.1,v) ((fD hn).2 B) o ho (dy p.1 (fr o.1),max (v+bU w b) o.2.Lo) (by unfold kT; rw [if_pos (by simp only; omega)])
  simp only at A C
  rw [e.1] at A
  exact ⟨v',A,I⟩
 ·cases e⟩
theorem LR {w:bR} {b:Nat} (hb:w.n≤b):u9 [(⟨0,0⟩,w.gk)] (back w b):=by
 rw [u3 hb]
 refine ⟨fun t v h=>?_,fun t y h=>?_⟩
 ·obtain ⟨rfl,rfl⟩:=o9.1 h
  simp
 ·simp only [bJ,Prod.mk.injEq] at h
  obtain ⟨rfl,rfl⟩:=h
  exact ⟨w.gk,o9.2 ⟨U,U⟩,Int.le_refl _⟩
theorem Mi {w:bR} {b:Nat} (hb:b<w.n) {mb m:List (aD×Int)} (hn:(mb.map (·.1)).Nodup) (h:u9 mb (back w (b+1))) (hs:vo m (back w b)) (h0: ∃ v,m.lookup ⟨0,0⟩=some v∧w.gk≤v) (hd: ∀ p∈mb,jk w b m p (iF w b)):u9 m (back w b):=⟨hs,fun t y hy=>by
 rcases (o6 hb).1 hy with e|⟨p,hp,o,ho,e⟩
 ·simp only [Prod.mk.injEq] at e
  obtain ⟨rfl,rfl⟩:=e
  exact h0
 obtain ⟨v,B,E⟩:=h.2 p.1 p.2 hp
 unfold oc at e
 split at e
 ·rename_i D
  simp only [Option.some.injEq,Prod.mk.injEq] at e
  obtain ⟨v',A,C⟩:=hd (p.1,v) ((fD hn).2 B) o ho (dy p.1 (fr o.1),min v o.2.Hi-bU w b) (by unfold oc; rw [if_pos (by simp only; omega)])
  simp only at A C
  rw [e.1] at A
  exact ⟨v',A,I⟩
 ·cases e⟩
end
section
def jF (w:bR) (b:Nat) (p u:aD×Int) (o:Int×aa):aa:=⟨max (p.2+bU w b) o.2.Lo,min u.2 o.2.Hi⟩
def wU (p u:aD×Int) (o:Int×aa):aD:=dy (dy p.1 u.1) (fr o.1)
def mw (w:bR) (b:Nat) (p u:aD×Int) (o:Int×aa):Option (Int×aa):=if (jF w b p u o).Lo≤(jF w b p u o).Hi∧kG w (wU p u o)=true then some (o.1,jF w b p u o) else none
def p5 (w:bR) (b:Nat) (mf mb:List (aD×Int)):List (Int×aa):=(iF w b).flatMap fun o=>mf.flatMap fun p=>mb.filterMap fun u=>mw w b p u o
def mD (w:bR) (b:Nat):List (Int×aa):=p5 w b (fwd w b) (back w (b+1))
theorem ij {w:bR} {b:Nat} {mf mb:List (aD×Int)} {q:Int×aa}:q∈p5 w b mf mb↔ ∃ o∈iF w b,∃ p∈mf,∃ u∈mb,mw w b p u o=some q:=by
 simp only [p5,List.mem_flatMap,List.mem_filterMap]
theorem jw {w:bR} {b:Nat} {p u:aD×Int} {o q:Int×aa}:mw w b p u o=some q↔(jF w b p u o).Lo≤(jF w b p u o).Hi∧kG w (wU p u o)=true∧q=(o.1,jF w b p u o):=by
 unfold mw
 split
 ·rename_i h
  simp only [Option.some.injEq]
  exact ⟨fun e=>⟨h.1,h.2,e.symm⟩,fun e=>e.2.2.symm⟩
 ·rename_i h
  simp only [reduceCtorEq,false_iff]
  exact fun e=>h ⟨e.1,e.2.1⟩
theorem nc {w:bR} {b:Nat} {mf mb:List (aD×Int)} {q:Int×aa} (h:q∈p5 w b mf mb):q.2.Lo≤q.2.Hi:=by
 obtain ⟨o,_,p,_,u,_,e⟩:=ij.1 h
 obtain ⟨A,_,rfl⟩:=jw.1 e
 exact A
/-- what the maps tell is what all ways tell -/
theorem OJ {w:bR} {b:Nat} {mf mb:List (aD×Int)} (hf:s8 mf (fwd w b)) (hb:u9 mb (back w (b+1))) (nf:(mf.map (·.1)).Nodup) (nb:(mb.map (·.1)).Nodup) {q:Int×aa} (h:q∈p5 w b mf mb):q∈mD w b:=by
 obtain ⟨o,ho,p,hp,u,hu,e⟩:=ij.1 h
 exact ij.2 ⟨o,ho,p,hf.1 _ _ ((fD nf).1 hp),u,hb.1 _ _ ((fD nb).1 hu),e⟩
theorem K2 {w:bR} {b:Nat} {mf mb:List (aD×Int)} (hf:s8 mf (fwd w b)) (hb:u9 mb (back w (b+1))) (nf:(mf.map (·.1)).Nodup) (nb:(mb.map (·.1)).Nodup) {q:Int×aa} (h:q∈mD w b): ∃ q'∈p5 w b mf mb,q'.1=q.1∧q'.2.Lo≤q.2.Lo∧q.2.Hi≤q'.2.Hi:=by
 obtain ⟨o,ho,p,hp,u,hu,e⟩:=ij.1 h
 obtain ⟨A,B,rfl⟩:=jw.1 e
 obtain ⟨v,hv,C⟩:=hf.2 p.1 p.2 hp
 obtain ⟨y,hy,D⟩:=hb.2 u.1 u.2 hu
 simp only [jF] at A
 refine ⟨(o.1,jF w b (p.1,v) (u.1,y) o),ij.2 ⟨o,ho,(p.1,v),(fD nf).2 hv,(u.1,y),(fD nb).2 hy,jw.2 ⟨?_,B,U⟩⟩,U,?_,?_⟩
 ·simp only [jF]; omega
 ·simp only [jF]; omega
 ·simp only [jF]; omega
def mM:aa:=⟨1,0⟩
def mK (h x:aa):aa:=if h=mM then x else ⟨min x.Lo h.Lo,max x.Hi h.Hi⟩
def vp (l:List (Int×aa)):aa:=l.foldl (fun h q=>mK h q.2) mM
structure oR (l:List (Int×aa)) (h:aa):Prop where
 le:h.Lo≤h.Hi
 lo: ∃ x∈l,x.2.Lo=h.Lo
 hi: ∃ x∈l,x.2.Hi=h.Hi
 all: ∀ x∈l,h.Lo≤x.2.Lo∧x.2.Hi≤h.Hi
def kv (l:List (Int×aa)) (h:aa):Prop:=(l=[]∧h=mM)∨oR l h
theorem oR.ne {l:List (Int×aa)} {h:aa} (hh:oR l h):h≠mM:=fun e=>by
 have:=hh.le; rw [e] at this; simp [mM] at this
theorem CE:kv [] mM:= .inl ⟨rfl,rfl⟩
theorem uv {l:List (Int×aa)} {h:aa} {q:Int×aa} (hh:kv l h) (hq:q.2.Lo≤q.2.Hi):kv (l++[q]) (mK h q.2):=by
 right
 rcases hh with ⟨rfl,rfl⟩|hh
 ·unfold mK
  rw [if_pos rfl]
  exact ⟨hq,⟨q,sm,rfl⟩,⟨q,sm,rfl⟩,fun x hx=>by simp at hx; subst hx; exact ⟨Int.le_refl _,Int.le_refl _⟩⟩
 ·unfold mK
  rw [if_neg hh.ne]
  have A:=hh.le
  obtain ⟨a,ha,ea⟩:=hh.lo
  obtain ⟨c,hc,ec⟩:=hh.hi
  refine ⟨by simp only; omega,?_,?_,fun x hx=>?_⟩
  ·rcases Int.lt_or_le q.2.Lo h.Lo with p|p
   ·exact ⟨q,sm,by simp only; omega⟩
   ·exact ⟨a,by simp [ha],by simp only; omega⟩
  ·rcases Int.lt_or_le h.Hi q.2.Hi with p|p
   ·exact ⟨q,sm,by simp only; omega⟩
   ·exact ⟨c,by simp [hc],by simp only; omega⟩
  ·rcases dJ.1 hx with hx|hx
   ·have:=hh.all x hx; simp only; omega
   ·simp at hx; subst hx; simp only; omega
theorem uB {l:List (Int×aa)} (hl: ∀ q∈l,q.2.Lo≤q.2.Hi):kv l (vp l):=by
 have key: ∀ (r d:List (Int×aa)) (h:aa),(∀ q∈r,q.2.Lo≤q.2.Hi)→kv d h→kv (d++r) (r.foldl (fun h q=>mK h q.2) h):=by
  intro r
  induction r with
  |nil=>intro d h _ hd; simpa using hd
  |cons q r ih=>
   intro d h hr hd
   have:=ih (d++[q]) (mK h q.2) (fun x hx=>hr x (cV _ hx)) (uv hd (hr q sm))
   simpa using this
 have:=key l [] mM hl CE
 rw [List.nil_append] at this
 exact this
def Ek (a b:List (Int×aa)):Prop:= ∀ x∈b,∃ y∈a,y.2.Lo≤x.2.Lo∧x.2.Hi≤y.2.Hi
theorem No {a b:List (Int×aa)} {h k:aa} (ha:kv a h) (hb:kv b k) (hab:Ek a b) (hba:Ek b a):h=k:=by
 rcases ha with ⟨rfl,rfl⟩|ha
 ·rcases hb with ⟨rfl,rfl⟩|hb
  ·rfl
  ·obtain ⟨x,hx,_⟩:=hb.lo
   obtain ⟨y,hy,_⟩:=hab x hx
   cases hy
 ·rcases hb with ⟨rfl,rfl⟩|hb
  ·obtain ⟨x,hx,_⟩:=ha.lo
   obtain ⟨y,hy,_⟩:=hba x hx
   cases hy
  ·have le: ∀ {a b:List (Int×aa)} {h k:aa},oR a h→oR b k→Ek a b→h.Lo≤k.Lo∧k.Hi≤h.Hi:=fun {a b h k} ha hb hab=>by
    obtain ⟨x,hx,ex⟩:=hb.lo
    obtain ⟨z,hz,ez⟩:=hb.hi
    obtain ⟨y,hy,ey⟩:=hab x hx
    obtain ⟨y',hy',ey'⟩:=hab z hz
    have A:=ha.all y hy
    have B:=ha.all y' hy'
    omega
   have A:=le ha hb hab
   have B:=le hb ha hba
   rw [aa.ext_iff]; omega
theorem zb {w:bR} {b:Nat} {mf mb:List (aD×Int)} {l:List (Int×aa)} {h:aa} (hf:s8 mf (fwd w b)) (hb:u9 mb (back w (b+1))) (nf:(mf.map (·.1)).Nodup) (nb:(mb.map (·.1)).Nodup)
 (hl: ∀ q∈l,q∈p5 w b mf mb) (hl2: ∀ q∈p5 w b mf mb,q∈l) (hh:kv l h):h=vp (mD w b):=
 No hh (uB fun q hq=>nc hq) (fun x hx=>by
  obtain ⟨q,hq,_,A,B⟩:=K2 hf hb nf nb hx
  exact ⟨q,hl2 q hq,A,B⟩) (fun x hx=>⟨x,OJ hf hb nf nb (hl x hx),Int.le_refl _,Int.le_refl _⟩)
def jB (w:bR) (m:List (aD×Int)):Bool:=m.any fun p=>kG w p.1
theorem CA {w:bR} {b:Nat} {m:List (aD×Int)} (h:s8 m (fwd w b)) (nf:(m.map (·.1)).Nodup):jB w m=jB w (fwd w b):=by
 unfold jB
 rw [Bool.eq_iff_iff,List.any_eq_true,List.any_eq_true]
 constructor
 ·rintro ⟨p,hp,A⟩
  exact ⟨p,h.1 _ _ ((fD nf).1 hp),A⟩
 ·rintro ⟨p,hp,A⟩
  obtain ⟨v,hv,_⟩:=h.2 p.1 p.2 hp
  exact ⟨(p.1,v),(fD nf).2 hv,A⟩
def ku (w:bR) (k:Nat):List Int:=((List.range k).filter fun i=>jB w (fwd w i)).map fun (i:Nat)=>(i:Int)
def jP (w:bR):List Int:=ku w (w.n+1)
theorem DQ {w:bR} {k:Nat} (h:jB w (fwd w k)=true):ku w (k+1)=ku w k++[(k:Int)]:=by simp [ku,List.range_succ,h]
theorem H_ {w:bR} {k:Nat} (h:jB w (fwd w k)=false):ku w (k+1)=ku w k:=by simp [ku,List.range_succ,h]
theorem xH {w:bR} {k:Nat}:(ku w k).length≤k:=by
 unfold ku
 rw [List.length_map]
 exact Nat.le_trans (List.length_filter_le _ _) sm
end
section
open Go.RowKit
theorem HA {P:Program} {t:Nat} {k:IntKind} (hu:P.underlying t=some (.int k)) (e:Bool) (n:Nat) (v:Value) (w:World):(Instr.checkKey e (n+1) t v).run P w= .ok () w:=by
 unfold Instr.checkKey
 simp only [Sem.run_bind,run_underlying hu,Result.andThen]
 cases v<;>rfl
theorem z4 {P:Program} {kt:Nat} {l:List (Nat×Nat)} (hl:fL P kt=some l) (e:Bool) (n:Nat) (cs:Array Value) (w:World)
 (hf: ∀ p∈l,(∃ v,(part p.1 cs p.2).run P w= .ok v w)∧ ∃ k,P.underlying p.1=some (.int k)):(Instr.checkKey e (n+2) kt (.agg cs)).run P w= .ok () w:=by
 unfold fL at hl
 cases hu:P.underlying kt with
 |none=>simp [hu] at hl
 |some d=>
  cases d<;>simp [hu] at hl
  rename_i fs
  obtain ⟨hn,hl⟩:=hl
  rw [show n+2=(n+1)+1 from rfl,Instr.checkKey]
  simp only [Sem.run_bind,run_underlying hu,Result.andThen_ok]
  rw [← Array.forIn_toList]
  have A: ∀ f∈fs.toList,(∃ v,(part f.type cs f.offset).run P w= .ok v w)∧ ∃ k,P.underlying f.type=some (.int k):=fun f hf'=>hf (f.type,f.offset) (by rw [← hl]; exact bX.2 ⟨f,hf',rfl⟩)
  have B: ∀ f∈fs.toList,f.name≠"_":=fun f hf'=>by
   obtain ⟨i,hi,rfl⟩:=List.getElem_of_mem hf'
   exact hn.1.1 i (by simpa using hi)
  clear hl hn hf
  generalize fs.toList=L at A B
  induction L with
  |nil=>simp
  |cons f L ih=>
   obtain ⟨⟨v,hv⟩,k,hk⟩:=A f sm
   have C:=B f sm
   simp only [List.forIn_cons,Sem.run_bind,C,ne_eq,not_false_eq_true,if_true,Result.andThen_ok,hv,HA hk,Sem.run_pure]
   exact ih (fun y hy=>A y (by simp [hy])) (fun y hy=>B y (by simp [hy]))
theorem CJ {P:Program} {kt:Nat} {K:Type} [DecidableEq K] {kV:K→Value} (hw: ∀ (k:Value) (es:List MapEntry) (w:World),(Instr.findKey kt k es).run P w=(Instr.findAsking kt k es).run P w)
 (heq: ∀ x y w,(Op.equal kt (kV x) (kV y)).run P w= .ok (decide (x=y)) w) (inj: ∀ x y,kV x=kV y→x=y) (x:K) (w:World) (es:List MapEntry) (hk: ∀ e∈es,∃ k,e.key=kV k):
 ((Instr.findKey kt (kV x) es).run P w= .ok none w∧ ∀ e∈es,e.key≠kV x)∨ ∃ j e,(Instr.findKey kt (kV x) es).run P w= .ok (some (j,e.val)) w∧es[j]? =some e∧e.key=kV x:=by
 have key: ∀ (es:List MapEntry) (i:Nat),(∀ e∈es,∃ k,e.key=kV k)→((Instr.findAsking kt (kV x) es i).run P w= .ok none w∧ ∀ e∈es,e.key≠kV x)∨ ∃ j e,(Instr.findAsking kt (kV x) es i).run P w= .ok (some (i+j,e.val)) w∧es[j]? =some e∧e.key=kV x:=by
  intro es
  induction es with
  |nil=>intro i _; exact .inl ⟨by simp [Instr.findAsking],sm⟩
  |cons e es ih=>
   intro i B
   obtain ⟨k,A⟩:=B e sm
   by_cases h:x=k
   ·refine .inr ⟨0,e,?_,U,by rw [A,h]⟩
    subst h
    simp [Instr.findAsking,A,heq]
   ·rcases ih (i+1) (fun y hy=>B y (by simp [hy])) with ⟨C,D⟩|⟨j,e',C,D,E⟩
    ·refine .inl ⟨by simp [Instr.findAsking,A,heq,h,C],fun y hy=>?_⟩
     rcases bx.1 hy with rfl|hy
     ·rw [A]; exact fun q=>h (inj _ _ q).symm
     ·exact D y hy
    ·exact .inr ⟨j+1,e',by simp [Instr.findAsking,A,heq,h,C]; omega,by simpa using D,E⟩
 rw [hw]
 rcases key es 0 hk with h|⟨j,e,C,D,E⟩
 ·exact .inl h
 ·exact .inr ⟨j,e,by simpa using C,D,E⟩
theorem Ey {P:Program} {kt:Nat} {l:List (Nat×Nat)} (hl:fL P kt=some l) (k:Value) (es:List MapEntry) (w:World):(Instr.findKey kt k es).run P w=(Instr.findAsking kt k es).run P w:=by
 refine run_findKey_eq w ?_ k es
 unfold fL at hl
 cases hu:P.underlying kt with
 |none=>simp [hu] at hl
 |some d=>cases d<;>simp [hu] at hl ⊢
theorem N4 {P:Program} {kt:Nat} {K:Type} [DecidableEq K] {kV:K→Value} {l:List (Nat×Nat)} (hl:fL P kt=some l) (heq: ∀ x y w,(Op.equal kt (kV x) (kV y)).run P w= .ok (decide (x=y)) w) (inj: ∀ x y,kV x=kV y→x=y)
 (hb: ∀ x,Instr.sameBits 10000 (kV x) (kV x)=true) (hp: ∀ x w,∃ cs,kV x= .agg cs∧ ∀ p∈l,(∃ v,(part p.1 cs p.2).run P w= .ok v w)∧ ∃ k,P.underlying p.1=some (.int k)):uz P kt kV:=
 ⟨fun e x w=>by obtain ⟨cs,A,B⟩:=hp x w; rw [A]; exact z4 hl e 9998 cs w B,fun x w es=>CJ (Ey hl) heq inj x w es,hb,inj⟩
end
section
open Go.RowKit
set_option linter.unusedSectionVars false
theorem db {P:Program} {kt:Nat} (hk:P.underlying kt=some (.int .i64)):uz P kt (Value.int .i64):=by
 refine ⟨fun e x w=>HC hk e,fun x w es A=>?_,fun x=>by simp [Instr.sameBits],fun x y h=>by injection h⟩
 have key: ∀ (es:List MapEntry) (i:Nat),(∀ e∈es,∃ k:Int,e.key= .int .i64 k)→(Instr.findNow (.int .i64) (.int .i64 x) es i=some none∧ ∀ e∈es,e.key≠ .int .i64 x)∨ ∃ j e,Instr.findNow (.int .i64) (.int .i64 x) es i=some (some (i+j,e.val))∧es[j]? =some e∧e.key= .int .i64 x:=by
  intro es
  induction es with
  |nil=>intro i _; exact .inl ⟨rfl,sm⟩
  |cons e es ih=>
   intro i A
   obtain ⟨k,B⟩:=A e sm
   by_cases h:x=k
   ·subst h
    exact .inr ⟨0,e,by simp [Instr.findNow,Instr.sameNow,B],U,B⟩
   ·have hb:(x==k)=false:=by simpa using h
    rcases ih (i+1) (fun y hy=>A y (by simp [hy])) with ⟨C,D⟩|⟨j,e',C,D,E⟩
    ·refine .inl ⟨by simp [Instr.findNow,Instr.sameNow,B,hb,C],fun y hy=>?_⟩
     rcases bx.1 hy with rfl|hy
     ·rw [B]; intro q; injection q with _ q; exact h q.symm
     ·exact D y hy
    ·refine .inr ⟨j+1,e',?_,by simpa using D,E⟩
     simp only [Instr.findNow,Instr.sameNow,B,hb,if_true,C]
     simp; omega
 rcases key es 0 A with ⟨C,D⟩|⟨j,e,C,D,E⟩
 ·exact .inl ⟨MapKept.run_findKey hk C,D⟩
 ·exact .inr ⟨j,e,MapKept.run_findKey hk (by simpa using C),D,E⟩
theorem St.Na {S:BS} {w0 w w':World} {C:List au} {A N:au} (h:St S w0 C w) (i:Nat) (hA:C[i]? =some A) (k:d_ no w w') (hN:N.holds w') (hf: ∀ b,N.eZ b→w.heap.size≤b∨A.eZ b∧ ¬ A.wf b∧ ¬ N.wf b):St S w0 (N::C) w':=by
 have h':=h.same k
 have G:=aT hA
 have hi:=(aS.1 hA).1
 have B:C[i]=A:=(aS.1 hA).2
 refine ⟨h'.keeps,fun X hX=>?_,List.Pairwise.cons (fun X hX b hb hb'=>?_) h'.sep,fun X hX b hb=>?_,fun X hX b hb=>?_⟩
 ·rcases bx.1 hX with rfl|hX
  ·exact hN
  ·exact h'.holds X hX
 ·rcases hf b hb with E|⟨E,AA,H⟩
  ·have:=X.lt w (h.holds X hX) b hb'; omega
  ·refine ⟨H,?_⟩
   obtain ⟨j,hj,D⟩:=List.mem_iff_getElem.1 hX
   by_cases e:j=i
   ·subst e; rw [← D,B]; exact AA
   ·rcases Nat.lt_or_gt_of_ne e with F|F
    ·have:=ed.1 h.sep j i hj hi F b (by rw [D]; exact hb') (by rw [B]; exact E)
     rw [← D]; exact this.1
    ·have:=ed.1 h.sep i j hi hj F b (by rw [B]; exact E) (by rw [D]; exact hb')
     rw [← D]; exact this.2
 ·rcases bx.1 hX with rfl|hX
  ·rcases hf b (X.kE b hb) with E|⟨_,_,H⟩
   ·exact .inl (Nat.le_trans h.keeps.size E)
   ·exact absurd hb H
  ·exact h'.own X hX b hb
 ·rcases bx.1 hX with rfl|hX
  ·rcases hf b hb with E|⟨E,_,_⟩
   ·exact .inl (Nat.le_trans h.keeps.size E)
   ·exact h.seen A G b E
  ·exact h'.seen X hX b hb
section
variable {K:Type} [DecidableEq K] {kV:K→Value}
/-- an iterator over a map that is read alone -/
def zT (kV:K→Value) (r b:Nat) (m left:List (K×Value)) (cur:Option (K×Value)):au where
 eZ k:=k=r∨k=b
 wf k:=k=r
 holds w:=r≠b∧ ∃ (es:Array MapEntry) (c since:Nat) (seen:Array Nat) (st:Nat),w.heap[b]? =some (.map es c)∧jg kV es c m∧w.heap[r]? =some (.mapIter (some b) since seen st)∧(∀ e∈es.toList,e.born<since)∧since≤st∧since≤c∧
  (leftOf es seen).toList.map (fun (e:MapEntry)=>(e.key,e.val))=left.map (fun p=>(kV p.1,p.2))∧
  ∀ p,cur=some p→ ∃ (e:MapEntry) (seen0:Array Nat),e∈es.toList∧seen=seen0.push e.born∧st=c∧e.key=kV p.1∧e.val=p.2
 wr:=false
 kE _ h:= .inl h
 whole h:=by cases h
 lt w h k hk:=by
  obtain ⟨_,es,c,since,seen,st,h1,_,h2,_⟩:=h
  rcases hk with rfl|rfl
  ·exact ew h2
  ·exact ew h1
 oM w w' hk h:=by
  obtain ⟨hne,es,c,since,seen,st,h1,h2,h3,h4⟩:=h
  exact ⟨hne,es,c,since,seen,st,(hk b (.inr rfl)).trans h1,h2,(hk r (.inl rfl)).trans h3,h4⟩
theorem fJ {r b:Nat} {m left:List (K×Value)} {cur:Option (K×Value)}:(∀ w,(zT kV r b m left cur).holds w→(zT kV r b m left none).holds w)∧(∀ k,(zT kV r b m left none).eZ k→(zT kV r b m left cur).eZ k)∧ ∀ k,(zT kV r b m left none).wf k→(zT kV r b m left cur).wf k:=
 ⟨fun w h=>by
  obtain ⟨A,es,c,since,seen,st,B,C,D,E,F,h5',G,_⟩:=h
  exact ⟨A,es,c,since,seen,st,B,C,D,E,F,h5',G,fun p hp=>by cases hp⟩,fun _ h=>h,fun _ h=>h⟩
section
variable {E:fh} {ops:Array Oper} {Q:cZ} {rest:List Oper} {D:List Deferred} {L:List (Nat×Value)} {C:List au}
variable {dst:Option Tmp} {d:Nat} {ty:TypeId} {ps:String} {af:Array Edge} {g:Option (Nat×Bool)}
theorem j3 {t kt et:TypeId} {xm:Operand} {b:Nat} {m:List (K×Value)} {A:au} (i:Nat) (hg:jI ops L g=true) (hm:ev L xm=some (.map (some b))) (ht:E.P.underlying t=some (.map kt et)) (hA:C[i]? =some A) (hAf:A.eZ b∧ ¬ A.wf b) (hC:jc C (g_ kV b m).holds) (hd:Nat.blt d E.n=true)
 (k: ∀ r,RJ E ops Q rest D ((d,.pointer (some ⟨r,0,none⟩))::L) (zT kV r b m m none::C)):RJ E ops Q (⟨some d,.range t xm,ty,ps,af,g⟩::rest) D L C:=by
 intro a w B hs
 have hd':d<E.n:=by rw [← Nat.blt_eq]; exact hd
 unfold rR
 rw [if_pos (eg B hg)]
 obtain ⟨es,c,he,hi⟩:=hs.has hC
 have G:b<w.heap.size:=ew he
 have F:(getObj b).run E.P w= .ok (.map es c) w:=MapKept.run_getObj_map he
 refine g3 (v:= .pointer (some ⟨w.heap.size,0,none⟩)) (w':=w.alloc (.mapIter (some b) c #[] c)) sm ?_ ?_
 ·simp [execOp,Instr.range,B.ev hm,run_underlying ht,F,newObj,Sem.run]
 ·refine k _ _ _ (B.put hd' _) (hs.Na i hA (d_.alloc no w _) ⟨I,es,c,c,#[],c,?_,hi,heap_alloc_new w _,hi.Mo,Nat.le_refl _,Nat.le_refl _,?_,fun p hp=>by cases hp⟩ (fun q hq=>?_))
  ·rw [Below.heap_alloc w _ b G]; exact he
  ·have:leftOf es #[]=es:=by unfold leftOf; exact Array.filter_eq_self.2 sm
   rw [this]; exact hi.list
  ·rcases hq with rfl|rfl
   ·exact .inl (Nat.le_refl _)
   ·refine .inr ⟨hAf.1,hAf.2,fun (e:q=w.heap.size)=>by omega⟩
theorem Ht (hinj: ∀ x y,kV x=kV y→x=y) {xi:Operand} {r b:Nat} {m left:List (K×Value)} {cur:Option (K×Value)} (i:Nat) (hg:jI ops L g=true) (hm:ev L xi=some (.pointer (some ⟨r,0,none⟩))) (hC:C[i]? =some (zT kV r b m left cur)) (hd:Nat.blt d E.n=true)
 (k0:left=[]→RJ E ops Q rest D ((d,.tuple [.bool false].toArray)::L) C)
 (k1: ∀ x v,(x,v)∈left→(left.map (·.1)).Nodup→RJ E ops Q rest D ((d,.tuple [.bool true,kV x,v].toArray)::L) (C.set i (zT kV r b m (cG left x) (some (x,v))))):
 RJ E ops Q (⟨some d,.next xi false,ty,ps,af,g⟩::rest) D L C:=by
 intro a w G hs
 have hd':d<E.n:=by rw [← Nat.blt_eq]; exact hd
 unfold rR
 rw [if_pos (eg G hg)]
 obtain ⟨R,es,c,since,seen,st,X,hi,Y,J,V,M,A,_⟩:=hs.holds _ (aT hC)
 rcases run_next_at (P:=E.P) w ty r b since st seen es c Y X J V with ⟨Z,hr⟩|⟨e,he,N,H,hr⟩
 ·refine g3 (v:= .tuple #[.bool false]) (w':=w) sm ?_ ?_
  ·simp [execOp,G.ev hm,hr]
  ·refine k0 ?_ _ _ (G.put hd' _) hs
   have:(leftOf es seen).toList=[]:=by rw [← List.length_eq_zero_iff,Array.length_toList]; exact Z
   rw [this] at A
   exact List.map_eq_nil_iff.1 A.symm
 ·have O:(e.key,e.val)∈left.map (fun p=>(kV p.1,p.2)):=by rw [← A]; exact bX.2 ⟨e,he,rfl⟩
  obtain ⟨p,hp,S⟩:=bX.1 O
  obtain ⟨x,v⟩:=p
  simp only [Prod.mk.injEq] at S
  obtain ⟨hk,hv⟩:=S
  refine g3 (v:= .tuple #[.bool true,e.key,e.val]) (w':=ChangeMaps.setBlock N r (.mapIter (some b) since (seen.push e.born) c)) sm ?_ ?_
  ·simp [execOp,G.ev hm,hr]
  ·rw [← hk,← hv]
   have AA:=wJ hinj hi A
   have F:e∈es.toList:=by unfold leftOf at he; rw [Array.toList_filter] at he; exact (List.mem_filter.1 he).1
   have f:c=c:=rfl
   have B:N.heap=w.heap:=by rcases H with rfl|rfl<;>rfl
   refine k1 x v hp AA _ _ (G.put hd' _) (hs.mv i hC ⟨⟨R,es,c,since,seen.push e.born,c,?_,hi,?_,J,M,M,?_,fun q hq=>?_⟩,?_,fun q hq=> .inl hq,fun q hq=> .inl hq⟩)
   ·show (N.heap.setIfInBounds r _)[b]? =_
    rw [Array.getElem?_setIfInBounds_ne R,B]; exact X
   ·show (N.heap.setIfInBounds r _)[r]? =_
    rw [Array.getElem?_setIfInBounds_self_of_lt (by rw [B]; exact ew Y)]
   ·have T:leftOf es (seen.push e.born)=(leftOf es seen).filter (fun z=> !(z.born==e.born)):=by
     unfold leftOf
     rw [Array.filter_filter]
     congr 1
     funext z
     simp only [Array.contains_push,Bool.not_or]
     rw [Bool.and_comm]
    rw [T,Array.toList_filter]
    have key: ∀ (l:List MapEntry) (ll:List (K×Value)),(∀ z∈l,z∈es.toList)→l.map (fun (e:MapEntry)=>(e.key,e.val))=ll.map (fun p=>(kV p.1,p.2))→
     (l.filter (fun z=> !(z.born==e.born))).map (fun (e:MapEntry)=>(e.key,e.val))=(cG ll x).map (fun p=>(kV p.1,p.2)):=by
     intro l
     induction l with
     |nil=>intro ll _ h; cases ll with
      |nil=>rfl
      |cons p ll=>simp at h
     |cons z l ih=>
      intro ll hz h
      cases ll with
      |nil=>simp at h
      |cons p ll=>
       simp only [List.map_cons,List.cons.injEq,Prod.mk.injEq] at h
       have ih':=ih ll (fun y hy=>hz y (by simp [hy])) h.2
       have AB:(z.born=e.born)↔(p.1=x):=by
        constructor
        ·intro hb
         have:z=e:=Dt hi.born (hz z sm) F hb
         rw [this] at h
         have:=h.1.1.symm.trans hk.symm
         exact hinj _ _ this
        ·intro hx
         have W:z.key=e.key:=by rw [h.1.1,hx,hk]
         rw [CY hinj hi (hz z sm) F W]
       unfold cG at ih' ⊢
       by_cases hx:p.1=x
       ·rw [List.filter_cons_of_neg (by simp [AB.2 hx]),List.filter_cons_of_neg (by simp [hx])]; exact ih'
       ·rw [List.filter_cons_of_pos (by simpa using fun hb=>hx (AB.1 hb)),List.filter_cons_of_pos (by simpa using hx)]
        simp only [List.map_cons,h.1.1,h.1.2,ih']
    exact key _ _ (fun z hz=>by unfold leftOf at hz; rw [Array.toList_filter] at hz; exact (List.mem_filter.1 hz).1) A
   ·cases hq
    exact ⟨e,seen,F,U,U,hk.symm,hv.symm⟩
   ·refine ⟨?_,?_,?_,?_,fun q hq hn=>?_⟩
    ·rcases H with rfl|rfl<;>rfl
    ·rcases H with rfl|rfl<;>rfl
    ·rcases H with rfl|rfl<;>rfl
    ·show w.heap.size≤(N.heap.setIfInBounds r _).size
     simp [B]
    ·show (N.heap.setIfInBounds r _)[q]? =_
     rw [Array.getElem?_setIfInBounds_ne (fun e=>hn e.symm),B]
theorem jq {xi:Operand} {r b:Nat} {m left:List (K×Value)} {x:K} {v:Value} (i:Nat) (hg:jI ops L g=true) (hm:ev L xi=some (.pointer (some ⟨r,0,none⟩))) (hC:C[i]? =some (zT kV r b m left (some (x,v)))):
 SD E ops ⟨dst,.entry xi,ty,ps,af,g⟩ D L C (.tuple [kV x,v].toArray):=
 dR hg sm fun a w F hs=>by
  obtain ⟨N,es,c,since,seen,st,J,hi,M,H,O,AA,G,B⟩:=hs.holds _ (aT hC)
  obtain ⟨e,A,he,rfl,rfl,hk,hv⟩:=B _ rfl
  have:=run_entry_at (P:=E.P) w r b since A es st e M J he hi.born
  simp [execOp,F.ev hm,this,hk,hv]
theorem jr (hinj: ∀ x y,kV x=kV y→x=y) {β:Type} {f:β→Value} {xi:Operand} {r b:Nat} {m:List (K×Value)} {ll:List (K×β)} {cur:Option (K×Value)} (i:Nat) (hg:jI ops L g=true) (hm:ev L xi=some (.pointer (some ⟨r,0,none⟩))) (hC:C[i]? =some (zT kV r b m (bM f ll) cur)) (hd:Nat.blt d E.n=true)
 (k0:ll=[]→RJ E ops Q rest D ((d,.tuple [.bool false].toArray)::L) C)
 (k1: ∀ x y,(x,y)∈ll→(ll.map (·.1)).Nodup→RJ E ops Q rest D ((d,.tuple [.bool true,kV x,f y].toArray)::L) (C.set i (zT kV r b m (bM f (cG ll x)) (some (x,f y))))):
 RJ E ops Q (⟨some d,.next xi false,ty,ps,af,g⟩::rest) D L C:=by
 refine Ht hinj i hg hm hC hd (fun h=>k0 (List.map_eq_nil_iff.1 h)) (fun x v B hn=>?_)
 obtain ⟨p,hp,A⟩:=bX.1 B
 simp only [Prod.mk.injEq] at A
 obtain ⟨rfl,rfl⟩:=A
 have:=k1 p.1 p.2 hp (by simpa [bM,Function.comp_def] using hn)
 rwa [l0] at this
theorem yL {t kt et:TypeId} {xm xk xv:Operand} {b:Nat} {x:K} {v:Value} {m m':List (K×Value)} {C':List au} (i:Nat) (hg:jI ops L g=true) (hm:ev L xm=some (.map (some b))) (hk:ev L xk=some (kV x)) (hv:ev L xv=some v)
 (ht:E.P.underlying t=some (.map kt et)) (hkt:uz E.P kt kV) (hC:C[i]? =some (g_ kV b m)) (hm':dW m x v=m') (hC':C.set i (g_ kV b m')=C') (k:RJ E ops Q rest D L C'):
 RJ E ops Q (⟨none,.insert t xm xk xv,ty,ps,af,g⟩::rest) D L C:=by
 subst hm' hC'
 intro a w A hs
 unfold rR
 rw [if_pos (eg A hg)]
 obtain ⟨es,c,he,hi⟩:=hs.holds _ (aT hC)
 have B:(getObj b).run E.P w= .ok (.map es c) w:=MapKept.run_getObj_map he
 rcases pg (P:=E.P) (w:=w) (x:=x) hkt hi with ⟨AA,F⟩|⟨j,N,AA,F,J⟩
 ·refine rJ (w':={w with heap:=w.heap.setIfInBounds b (.map (es.push {key:=kV x,val:=v,born:=c}) (c+1))}) sm ?_ ?_
  ·simp [execOp,A.ev hm,A.ev hk,A.ev hv,Instr.mapUpdate,run_underlying ht,B,i_ hkt,AA,MapKept.run_setObj_map _ he]
  ·refine k _ _ ⟨A.defers,A.size,A.at_⟩ (hs.Dz (b:=b) i hC U U (nj _) (fun _ h=>h) ⟨_,_,pj he,?_⟩)
   have:dW m x v=m++[(x,v)]:=by unfold dW; rw [F]; rfl
   rw [this]; exact hi.push F v
 ·have M:=hi.size
  have G:j<es.size:=by have:=(aS.1 F).1; omega
  have H:(es[j]).key=kV x:=by
   have:=congrArg (fun l=>l[j]?) hi.list
   simp [G,F] at this
   exact this.1
  refine rJ (w':={w with heap:=w.heap.setIfInBounds b (.map (es.modify j fun e=>{e with key:=kV x,val:=v}) c)}) sm ?_ ?_
  ·simp [execOp,A.ev hm,A.ev hk,A.ev hv,Instr.mapUpdate,run_underlying ht,B,i_ hkt,AA,MapKept.run_setObj_map _ he,Instr.keyThatStays,G,H,hkt.bits x]
  ·exact k _ _ ⟨A.defers,A.size,A.at_⟩ (hs.Dz (b:=b) i hC U U (nj _) (fun _ h=>h) ⟨_,_,pj he,hi.set F J v⟩)
end
end
end
section
open Go.RowKit
def VS {σ:Type} (w0:World) (P:Program) (l:Nat) (step:σ→List Value→σ→Prop) (J:σ→au→Prop) (Z:au→Prop):Prop:=
 ∀ k x k' A w,step k x k'→J k A→w0.heap.size≤w.heap.size→A.holds w→YieldAt (Fw none) 0 P l x.toArray w fun e w'=>
  (e= .returned (.bool true)∧ ∃ B,J k' B∧Mv A B w w')∨(e= .returned (.bool false)∧ ∃ B,Z B∧Mv A B w w')
def Ms {σ:Type} (J:σ→au→Prop) (Z:au→Prop) (fin:σ→Prop) (A0:au) (w0:World) (e:Ending) (w':World):Prop:=
 ∃ v,e= .returned v∧((∃ s B,fin s∧J s B∧Mv A0 B w0 w')∨ ∃ B,Z B∧Mv A0 B w0 w')
structure E2 {σ:Type} (P:Program) (f:FuncId) (fi ca:List Value) (Cp:List au) (s0:σ) (step:σ→List Value→σ→Prop) (fin:σ→Prop):Prop where
 go:rN P f=true
 run: ∀ (l:Nat) (J:σ→au→Prop) (Z:au→Prop) (A0:au) (w:World),VS w P l step J Z→J s0 A0→A0.holds w→(∀ A∈Cp,A.holds w)→(∀ A∈Cp,DC A0 A.ro)→
  Calls P f (fi++Value.func (.yield l) #[] #[]::ca).toArray w (Ms J Z fin A0 w)
theorem IN {σ:Type} {J:σ→au→Prop} {Z:au→Prop} {n:σ} {fin:σ→Prop} {A0 B:au} {w0 w:World} {C:List au} {v:Value} (i:Nat) (hC:C[i]? =some B) (hfin:fin n) (hJ:J n B) (hF:Fo A0 w0 B) (hs:St ⟨A0.wf,fun _=>True⟩ w0 C w):Ms J Z fin A0 w0 (.returned v) w:=
 ⟨v,rfl,.inl ⟨n,B,hfin,hJ,hs.holds B (aT hC),hs.keeps,fun b hb=>(hs.own B (aT hC) b hb).symm,hF⟩⟩
theorem rT {σ:Type} {J:σ→au→Prop} {Z:au→Prop} {fin:σ→Prop} {A0 B:au} {w0 w:World} {C:List au} {v:Value} (i:Nat) (hC:C[i]? =some B) (hJ:Z B) (hF:Fo A0 w0 B) (hs:St ⟨A0.wf,fun _=>True⟩ w0 C w):Ms J Z fin A0 w0 (.returned v) w:=
 ⟨v,rfl,.inr ⟨B,hJ,hs.holds B (aT hC),hs.keeps,fun b hb=>(hs.own B (aT hC) b hb).symm,hF⟩⟩
theorem uf {σ:Type} {P:Program} {f:FuncId} {fn:Func} {c:Code} {fi ca:List Value} {Cp:List au} {s0:σ} {step:σ→List Value→σ→Prop} {fin:σ→Prop} (hgo:rN P f=true) (hf:P.funcs[f]? =some fn) (hb:fn.body=some c) (hn:Nat.ble (fi.length+ca.length+1) fn.ntmps=true)
 (h: ∀ (l:Nat) (J:σ→au→Prop) (Z:au→Prop) (A0:au) (w0:World) (Q:cZ),VS w0 P l step J Z→J s0 A0→Fo A0 w0 A0→
  (∀ D L C,LJ ⟨P,none,fn.ntmps,⟨A0.wf,fun _=>True⟩,w0⟩ fn (Ms J Z fin A0 w0) D L C→KJ ⟨P,none,fn.ntmps,⟨A0.wf,fun _=>True⟩,w0⟩ (Q .ret) D L C)→
  (∀ D L C,LJ ⟨P,none,fn.ntmps,⟨A0.wf,fun _=>True⟩,w0⟩ fn (Ms J Z fin A0 w0) D L C→KJ ⟨P,none,fn.ntmps,⟨A0.wf,fun _=>True⟩,w0⟩ (Q .normal) D L C)→
  WJ ⟨P,none,fn.ntmps,⟨A0.wf,fun _=>True⟩,w0⟩ c Q [] (Qw (fi++Value.func (.yield l) #[] #[]::ca)) (A0::Cp.map au.ro)):E2 P f fi ca Cp s0 step fin:=by
 refine ⟨hgo,fun l J Z A0 w hY hJ hA F E=>?_⟩
 refine EE hf hb (by simpa [Nat.add_assoc] using hn) (h l J Z A0 w · hY hJ (fun b hb=> .inl hb)) ?_
 have G:=tQ F
 refine ⟨d_.refl _ _,fun A hA'=>?_,List.Pairwise.cons (fun B hB=>?_) G.sep,fun A hA' b hb=>?_,fun _ _ _ _=> .inr trivial⟩
 ·rcases bx.1 hA' with rfl|hA'
  ·exact hA
  ·exact G.holds A hA'
 ·obtain ⟨B',hB',rfl⟩:=bX.1 hB
  exact E B' hB'
 ·rcases bx.1 hA' with rfl|hA'
  ·exact .inr hb
  ·obtain ⟨B',hB',rfl⟩:=bX.1 hA'
   exact hb.elim
section
variable {E:fh} {ops:Array Oper} {Q:cZ} {rest:List Oper} {D:List Deferred} {L:List (Nat×Value)} {C:List au}
variable {d:Nat} {ty:TypeId} {ps:String} {af:Array Edge} {g:Option (Nat×Bool)}
/-- a call of yield -/
theorem kK {σ:Type} {fop:Operand} {xs:Array Operand} {ts:Array TypeId} {l:Nat} {k k':σ} {vs:List Value} {step:σ→List Value→σ→Prop} {J:σ→au→Prop} {Z:au→Prop} {A0 A:au} {w1:World} (i:Nat) (hw1:w1.heap.size≤E.w0.heap.size) (hY:VS w1 E.P l step J Z) (hJ:J k A) (hF:Fo A0 w1 A) (hg:jI ops L g=true) (hf:ev L fop=some (.func (.yield l) #[] #[]))
 (hx:evs L xs.toList=some vs) (hk:step k vs k') (hC:C[i]? =some A) (hd:Nat.blt d E.n=true)
 (k1: ∀ B,J k' B→Fo A0 w1 B→RJ E ops Q rest D ((d,.bool true)::L) (C.set i B))
 (k2: ∀ B,Z B→Fo A0 w1 B→RJ E ops Q rest D ((d,.bool false)::L) (C.set i B)):
 RJ E ops Q (⟨some d,.call {callee:= .value fop,args:=xs,argTypes:=ts},ty,ps,af,g⟩::rest) D L C:=by
 intro a w F hs
 have hd':d<E.n:=by rw [← Nat.blt_eq]; exact hd
 unfold rR
 rw [if_pos (eg F hg)]
 have K:xs.map a.eval=vs.toArray:=by
  have:=F.evs hx
  apply Array.ext'
  simp [this]
 obtain ⟨fn,tmps,assign,body,hy,hr⟩:=hY k vs k' A w hk hJ (Nat.le_trans hw1 hs.keeps.size) (hs.holds A (aT hC))
 have H:(execOp a.eval ⟨some d,.call {callee:= .value fop,args:=xs,argTypes:=ts},ty,ps,af,g⟩).run E.P w= .ok (.round l fn tmps assign body) w:=by
  simp [execOp,resolve,F.ev hf,Deferred.ofValue,invoke,K,hy]
 refine ⟨fun _ _=>trivial,?_⟩
 rw [Oper.semAt_eq _ _ _ sm,H]
 refine ⟨fun h=>by simp at h,?_⟩
 have G: ∀ (B:au) (w':World),Mv A B w w'→Fo A0 w1 B:=fun B w' m b hb=>by
  rcases m.eZ b hb with AA|AA
  ·exact hF b AA
  ·exact .inr (Nat.le_trans hw1 (Nat.le_trans hs.keeps.size AA))
 have hr':RoundIn (Fw E.r) 0 E.P l fn tmps assign body w _:=hr
 refine hr'.mono fun e w' he=>?_
 rcases he with ⟨rfl,B,hB,m⟩|⟨rfl,B,hB,m⟩
 ·exact k1 B hB (G B w' m) _ _ (F.put hd' _) (hs.mv i hC m)
 ·exact k2 B hB (G B w' m) _ _ (F.put hd' _) (hs.mv i hC m)
end
theorem nz {σ:Type} {E:fh} {Q:cZ} {D:gV} {L L0:di} {C F:List au} {g:Operand} {ps:Array Tmp} {assign body:Code} {f:FuncId} {fi ca:List Value} {Cp:List au} {s0:σ} {step:σ→List Value→σ→Prop} {fin_:σ→Prop} {ι κ:Type}
 (inv:σ→ι→Prop) (Ci:σ→ι→List au) (invx:Code→κ→Prop) (Cx:Code→κ→List au) (isJ isF:List Nat) (y0:ι)
 (hr:E.r=none) (hg:ev L g=some (.func (.func f) fi.toArray ca.toArray)) (hs:E2 E.P f fi ca Cp s0 step fin_)
 (hnd:decide (isJ++isF).Nodup=true) (hJ:kq C isJ=Ci s0 y0) (hF:kq C isF=F) (h0:inv s0 y0) (hCp: ∀ A∈Cp,∃ B∈F,MR B A)
 (hps: ∀ k x k',step k x k'→x.length=ps.size) (hpn:ps.toList.all (fun t=>Nat.blt t E.n)=true) (hL:du L L0)
 (round: ∀ (k:σ) (x:List Value) (k':σ) (y:ι) (l:Nat) (ra rb:Loop) (S:BS) (w0:World) (K:Act→World→Prop) (Qr:cZ),E.w0.heap.size≤w0.heap.size→step k x k'→inv k y→
  (∀ L' C',WJ ⟨E.P,some l,E.n,S,w0⟩ body Qr [] L' (lE l (.loop rb)::C')→KJ ⟨E.P,some l,E.n,S,w0⟩ K [] L' (lE l (.loop ra)::C'))→
  (∀ y' L' C',inv k' y'→(∀ w,St S w0 C' w→St S w0 (lE l (.loop rb)::Ci k' y') w)→KJ ⟨E.P,some l,E.n,S,w0⟩ (Qr .normal) [] L' C')→
  (∀ id z L' C',invx (.exit id) z→(∀ w,St S w0 C' w→St S w0 (lE l (.loop rb)::Cx (.exit id) z) w)→KJ ⟨E.P,some l,E.n,S,w0⟩ (Qr (.exit id)) [] L' C')→
  (∀ z L' C',invx .ret z→(∀ w,St S w0 C' w→St S w0 (lE l (.loop rb)::Cx .ret z) w)→KJ ⟨E.P,some l,E.n,S,w0⟩ (Qr .ret) [] L' C')→
  WJ ⟨E.P,some l,E.n,S,w0⟩ assign (Exit.then K (fun _ _ _=>False)) [] (Bq ps.toList x L0) (lE l (.loop ra)::Ci k y))
 (fin: ∀ r s y,fin_ s→inv s y→KJ E (Q .normal) (lI r::D) L0 (lE r (.deferred (some []))::(F++Ci s y)))
 (finx: ∀ r id z,invx (.exit id) z→KJ E (Q (.exit id)) (lI r::D) L0 (lE r (.deferred (some []))::(F++Cx (.exit id) z)))
 (finr: ∀ r z,invx .ret z→KJ E (Q .ret) (lI r::D) L0 (lE r (.deferred (some []))::(F++Cx .ret z))):WJ E (.rangeFunc g ps assign body) Q D L C:=by
 intro a w hf q
 refine wpIn_rangeFunc fun fn _=>?_
 show ∃ l lI w₁ d w₁' f args w₂,(Instr.enterLoop fn a.tmps ps assign body E.r).run E.P w= .ok (l,lI) w₁∧_
 rw [hr]
 obtain ⟨rec,G⟩: ∃ rec:LoopState→Option Code→Loop,rec=fun st pe=>{state:=st,pending:=pe,fn,tmps:=a.tmps,params:=ps,assign,body,defers:=w.heap.size}:=⟨_,rfl⟩
 obtain ⟨W1,R⟩: ∃ W1,(w.alloc (.deferred (some []))).alloc (.loop (rec .ready none))=W1:=⟨_,rfl⟩
 have A0:a.eval g= .func (.func f) fi.toArray ca.toArray:=hf.ev hg
 have p:(Instr.enterLoop fn a.tmps ps assign body none).run E.P w= .ok (w.heap.size+1,[lI w.heap.size]) W1:=by
  rw [← R,G]; exact run_enterLoop_outer _ _ _ _ _
 -- the state with the record and the block
 have u:St E.S E.w0 ((lE (w.heap.size+1) (.loop (rec .ready none))::Ci s0 y0)++(lE w.heap.size (.deferred (some []))::F)) W1:=by
  have X:St E.S E.w0 (Ci s0 y0++F) w:=St.kq (isJ++isF) hnd (by have X:=hJ; have j:=hF; unfold Go.Proofs.YtlajhejcfcoddaaGreatDoor.kq at X j ⊢; rw [List.filterMap_append,X,j]) q
  have hn:N7 w W1 [lE (w.heap.size+1) (.loop (rec .ready none)),lE w.heap.size (.deferred (some []))]:=by
   refine ⟨fun A hA=>?_,fun A hA b hb=>?_,?_⟩
   ·rcases bx.1 hA with rfl|hA
    ·show W1.heap[w.heap.size+1]? =_
     rw [← R]; have:=World.alloc_heap_new (w.alloc (.deferred (some []))) (.loop (rec .ready none)); rwa [World.size_alloc] at this
    ·simp only [bJ] at hA; subst hA
     show W1.heap[w.heap.size]? =_
     rw [← R]; exact (Below.heap_alloc _ _ _ sm).trans (World.alloc_heap_new w _)
   ·rcases bx.1 hA with rfl|hA
    ·have:b=w.heap.size+1:=hb
     omega
    ·simp only [bJ] at hA; subst hA
     have:b=w.heap.size:=hb
     omega
   ·refine List.Pairwise.cons (fun B hB b X j=>?_) (List.pairwise_singleton _ _)
    simp only [bJ] at hB; subst hB
    have V:b=w.heap.size+1:=X
    have O:b=w.heap.size:=j
    omega
  have hk:d_ no w W1:=by rw [← R]; exact (d_.alloc no w _).trans (d_.alloc no _ _)
  have j:=X.grow hk hn
  refine j.perm ?_
  simp only [List.cons_append,List.nil_append]
  exact List.Perm.cons _ (List.perm_middle.symm)
 have Y:=u.tied
 obtain ⟨H,A5⟩:=List.pairwise_cons.1 Y.sep
 have Ai:=Y.holds _ (cm ..)
 let J:σ→au→Prop:=fun k A=> ∃ y,inv k y∧A=bw (lE (w.heap.size+1) (.loop (rec .ready none))::Ci k y)
 let Z:au→Prop:=fun A=> ∃ c z,(c= .ret∨ ∃ id,c= .exit id)∧invx c z∧A=bw (lE (w.heap.size+1) (.loop (rec .done (some c)))::Cx c z)
 refine ⟨w.heap.size+1,[lI w.heap.size],W1,{target:= .fn (.func f) ca.toArray,args:=fi.toArray++ #[.func (.yield (w.heap.size+1)) #[] #[]]},W1,f,
  (fi++Value.func (.yield (w.heap.size+1)) #[] #[]::ca).toArray,W1,p,?_,fun _ _=>trivial,?_,fun h=>by simp at h,?_⟩
 ·simp only [resolve,A0]
  simp [Deferred.ofValue,Act.eval]
 ·have:fi.toArray++ #[Value.func (.yield (w.heap.size+1)) #[] #[]]++ca.toArray=(fi++Value.func (.yield (w.heap.size+1)) #[] #[]::ca).toArray:=by simp
  simp [invoke,pQ hs.go]
 ·refine (qI E.r (hs.run (w.heap.size+1) J Z _ W1 ?_ ⟨y0,h0,U⟩ Ai ?_ ?_)).mono ?_
  ·-- a round
   rintro k x k' A W hx ⟨y,hy,rfl⟩ As hA
   have hl:W.heap[w.heap.size+1]? =some (.loop (rec .ready none)):=hA.1 _ (cm ..)
   have AC:=run_yield (P:=E.P) (args:=x.toArray) hl (by rw [G]; simpa using hps k x k' hx)
   rw [G] at AC
   refine ⟨fn,_,assign,body,AC,roundIn_of_wpIn trivial ?_⟩
   let A:au:=bw (lE (w.heap.size+1) (.loop (rec .ready none))::Ci k y)
   have A1:Fr E.n [] (Bq ps.toList x L0) {tmps:=(ps.zip x.toArray).foldl (fun tmps (t,a)=>tmps.setIfInBounds t a) a.tmps,defers:=[]}:=by
    have X:=L7 ps.toList x L0 a.tmps (fun t ht=>by have:=cT.1 hpn t ht; rwa [Nat.blt_eq] at this) ⟨rfl,hf.size,fun t v hv=>hf.at_ t v (hL t v hv)⟩
    rw [← Array.foldl_toList]
    simpa using X
   have o: ∀ (c:Option Code) (b:Bool),({rec .busy none with state:=if b then .ready else .done,pending:=c}:Loop)=rec (if b then .ready else .done) c:=fun c b=>by rw [G]
   have T: ∀ (c:Option Code) (N:World) (C':List au) (S:BS),St S W (lE (w.heap.size+1) (.loop (rec .busy none))::C') N→
    ∃ M,(Instr.endRound (w.heap.size+1) c).run E.P N= .ok (.bool c.isNone) M∧St S W (lE (w.heap.size+1) (.loop (rec (if c.isNone then .ready else .done) c))::C') M:=fun c N C' S H=>by
    have AB:N.heap[w.heap.size+1]? =some (.loop (rec .busy none)):=H.holds _ (cm ..)
    refine ⟨_,run_endRound c AB,?_⟩
    have:=H.Dz (b:=w.heap.size+1) (A':=lE (w.heap.size+1) (.loop (rec (if c.isNone then .ready else .done) c))) 0 rfl rfl rfl (jA _) (fun _ h=>h) (World.putObj_heap_same (ew AB))
    rw [o]
    exact this
   refine round k x k' y (w.heap.size+1) (rec .ready none) (rec .busy none) ⟨A.wf,A.eZ⟩ W _ (roundPost E.P (w.heap.size+1) (fun e w'=>(e= .returned (.bool true)∧ ∃ B,J k' B∧Mv A B W w')∨(e= .returned (.bool false)∧ ∃ B,Z B∧Mv A B W w'))) (Nat.le_trans (Nat.le_trans q.keeps.size (by rw [← R]; simp; omega)) As) hx hy ?_ ?_ ?_ ?_ _ _ A1 (St.F5 hA)
   ·intro L' C' hW a1 N i H
    have AB:N.heap[w.heap.size+1]? =some (.loop (rec .ready none)):=H.holds _ (cm ..)
    refine ⟨_,run_beginRound AB (by rw [G]),hW _ _ i ?_⟩
    have:=H.Dz (b:=w.heap.size+1) (A':=lE (w.heap.size+1) (.loop (rec .busy none))) 0 rfl rfl rfl (jA _) (fun _ h=>h) (World.putObj_heap_same (ew AB))
    have e:({rec .ready none with state:= .busy}:Loop)=rec .busy none:=by rw [G]
    rw [e]; exact this
   ·intro y' L' C' hy' hC' a1 N i H
    obtain ⟨M,V,O⟩:=T none N _ _ (hC' _ H)
    exact ⟨_,M,V,.inl ⟨U,_,⟨y',hy',U⟩,Mv.of O⟩⟩
   ·intro id z L' C' hz hC' a1 N i H
    obtain ⟨M,V,O⟩:=T (some (.exit id)) N _ _ (hC' _ H)
    exact ⟨_,M,V,.inr ⟨U,_,⟨_,z,.inr ⟨id,U⟩,hz,U⟩,Mv.of O⟩⟩
   ·intro z L' C' hz hC' a1 N i H
    obtain ⟨M,V,O⟩:=T (some .ret) N _ _ (hC' _ H)
    exact ⟨_,M,V,.inr ⟨U,_,⟨_,z,.inl U,hz,U⟩,Mv.of O⟩⟩
  ·intro A hA
   obtain ⟨B,hB,hc⟩:=hCp A hA
   exact hc.holds _ (Y.holds B (cV _ (cV _ hB)))
  ·intro A hA b hb hb'
   obtain ⟨B,hB,hc⟩:=hCp A hA
   exact ⟨(H B (cV _ hB) b hb (hc.eZ b hb')).1,fun h=>h⟩
  ·rintro e w' ⟨v,rfl,hh⟩
   have AA:Fr E.n (lI w.heap.size::D) L0 {a with defers:=[lI w.heap.size]++a.defers}:=⟨by simp [hf.defers],hf.size,fun t v hv=>hf.at_ t v (hL t v hv)⟩
   have hleave: ∀ (st:LoopState) (c:Option Code) (C':List au),st≠ .busy→Mv (bw (lE (w.heap.size+1) (.loop (rec .ready none))::Ci s0 y0)) (bw (lE (w.heap.size+1) (.loop (rec st c))::C')) W1 w'→
    ∃ M,(Instr.endLoop (w.heap.size+1)).run E.P w'= .ok c M∧St E.S E.w0 (lE w.heap.size (.deferred (some []))::(F++C')) M:=fun st c C' A3 m=>by
    have X:=(Y.mv 0 rfl m).ir
    have h1':St E.S E.w0 ((lE (w.heap.size+1) (.loop (rec st c))::C')++(lE w.heap.size (.deferred (some []))::F)) w':=X
    have AB:w'.heap[w.heap.size+1]? =some (.loop (rec st c)):=h1'.holds (lE (w.heap.size+1) (.loop (rec st c))) sm
    refine ⟨_,by have:=run_endLoop (P:=E.P) AB (by rw [G]; exact A3); rw [this,G],?_⟩
    have j:=h1'.Dz (b:=w.heap.size+1) (A':=lE (w.heap.size+1) (.loop {rec st c with state:= .exhausted})) 0 rfl rfl rfl (jA _) (fun _ h=>h) (World.putObj_heap_same (ew AB))
    have h3:St E.S E.w0 (C'++(lE w.heap.size (.deferred (some []))::F)) _:=j.take (List.sublist_cons_self _ _)
    rw [G] at h3
    refine h3.perm ?_
    exact (List.perm_append_comm).trans sm
   rcases hh with ⟨s,B,A2,⟨y,hy,rfl⟩,m⟩|⟨B,⟨c,z,hc,hz,rfl⟩,m⟩
   ·obtain ⟨M,V,O⟩:=hleave .ready none _ sm m
    exact ⟨none,M,V,fin w.heap.size s y A2 hy _ _ AA O⟩
   ·obtain ⟨M,V,O⟩:=hleave .done (some c) _ sm m
    refine ⟨some c,M,V,?_⟩
    rcases hc with rfl|⟨id,rfl⟩
    ·exact wpIn_ret (finr w.heap.size z hz _ _ AA O)
    ·exact wpIn_exit (finx w.heap.size id z hz _ _ AA O)
end
section
open Go.RowKit
/-- where a row lies, and its capacity -/
abbrev RA:=OA×Nat
/-- what is asked of memory by all elements -/
def aU {M A:Type} (f:M→A→List au):List M→List A→List au
 |m::ms,a::asl=>f m a++aU f ms asl
 |_,_=>[]
theorem bV {M A:Type} {f:M→A→List au}: ∀ {ms:List M} {asl:List A} {k:Nat} {m:M} {a:A} {X:au},ms[k]? =some m→asl[k]? =some a→X∈f m a→X∈aU f ms asl
 |[],_,k,m,a,X,h,_,_=>by simp at h
 |_::_,[],k,m,a,X,_,h,_=>by simp at h
 |x::ms,y::asl,0,m,a,X,h,h2,hX=>by
  simp at h h2; subst h h2
  exact List.mem_append_left _ hX
 |x::ms,y::asl,k+1,m,a,X,h,h2,hX=>List.mem_append_right _ (bV (ms:=ms) (asl:=asl) (k:=k) (by simpa using h) (by simpa using h2) hX)
theorem jX {M A:Type} {f:M→A→List au}: ∀ {ms:List M} {asl:List A} {X:au},X∈aU f ms asl→ ∃ (k:Nat) (m:M) (a:A),ms[k]? =some m∧asl[k]? =some a∧X∈f m a
 |[],_,X,h=>by cases h
 |_::_,[],X,h=>by cases h
 |x::ms,y::asl,X,h=>by
  rcases dJ.1 h with h|h
  ·exact ⟨0,x,y,U,U,h⟩
  ·obtain ⟨k,m,a,B,C,D⟩:=jX h
   exact ⟨k+1,m,a,by simpa using B,by simpa using C,D⟩
theorem iN {M A:Type} {f:M→A→List au}: ∀ {ms:List M} {asl:List A} {ns:List M} {bs:List A},ms.length=asl.length→aU f (ms++ns) (asl++bs)=aU f ms asl++aU f ns bs
 |[],[],ns,bs,_=>rfl
 |[],_::_,ns,bs,h=>by simp at h
 |_::_,[],ns,bs,h=>by simp at h
 |x::ms,y::asl,ns,bs,h=>by
  simp only [List.cons_append,aU,List.append_assoc]
  rw [iN (by simpa using h)]
theorem dG {M A β:Type} {f:M→A→β} {ms:List M} {asl:List A} {k:Nat} {m:M} {a:A} (h:ms[k]? =some m) (h2:asl[k]? =some a):(List.zipWith f ms asl)[k]? =some (f m a):=by
 rw [List.getElem?_zipWith,h,h2]
theorem dk {C L:List au} {A:au} (i:Nat) (hC:C[i]? =some (fc L).ro) (hm:A∈L):jc C A.holds:=fun w hw=>hw _ (aT hC) A hm
theorem dL {M A:Type} {f g:M→A→List au} {ms:List M} {asl:List A} {C:List au} (i:Nat) (hC:C[i]? =some (bw (aU g ms asl))) (h: ∀ m a w,(∀ X∈g m a,X.holds w)→ ∀ X∈f m a,X.holds w):jc C (fc (aU f ms asl)).holds:=fun w hw X hX=>by
 have hb:=hw _ (aT hC)
 obtain ⟨k,m,a,B,D,E⟩:=jX hX
 exact h m a w (fun Y hY=>hb.1 Y (bV B D hY)) X E
/-- a row that is part of another one -/
theorem Ft {C:List au} {A:OA} {n k sz:Nat} {es:List (List Value)} (hR:jc C (rd A n sz es).holds) (hk:k≤n):jc C (rd A k sz (es.take k)).holds:=fun w hw=>by
 obtain ⟨D,E,F⟩:=hR w hw
 refine ⟨by rw [List.length_take,D]; omega,fun x hx=>E x (List.mem_of_mem_take hx),fun hp=>?_⟩
 have G:0<k:=Nat.pos_of_mul_pos_right hp
 have hs:0<sz:=Nat.pos_of_mul_pos_left hp
 obtain ⟨ad,hA,B⟩:=F (Nat.mul_pos I hs)
 refine ⟨ad,hA,fun i e j v he hv=>B i e j v ?_ hv⟩
 rw [List.getElem?_take] at he
 split at he
 ·exact he
 ·cases he
section
variable {E:fh} {ops:Array Oper} {Q:cZ} {rest:List Oper} {D:List Deferred} {L:List (Nat×Value)} {C:List au}
variable {d:Nat} {ty:TypeId} {ps:String} {af:Array Edge} {g:Option (Nat×Bool)}
/-- an element of a slice that is the head of a row -/
theorem TK (k:Nat) {x ix:Operand} {A:OA} {n n' c sz e t:Nat} {es:List (List Value)} {j:Int} (h:bF E.n ops L d g x ix=some (.slice A n' c,.int .i64 j)) (hR:jc C (rd A n sz es).holds)
 (ht:tE E.P t=some (e,sz)) (hz:0<sz) (hj:j=(k:Int)) (hk:k<n') (hn:n'≤n):SE E ops ⟨some d,.indexAddr t x ix,ty,ps,af,g⟩ D L C (.pointer (l4 A (k*sz))) d:=IA k h (Ft hR hn) ht hz hj hk
end
theorem St.tie {S:BS} {w0 w:World} {C:List au} {A:au} {L L':List au} (h:St S w0 (A::bw L::C) w) (e:L++[A]=L'):St S w0 (bw L'::C) w:=by
 subst e
 have B:St S w0 (bw L::A::C) w:=h.perm (List.Perm.swap _ _ _)
 have D:St S w0 (L++(A::C)) w:=B.ir
 have E:St S w0 ((L++[A])++C) w:=by simpa using D
 exact E.tied
theorem St.P8 {S:BS} {w0 w:World} {C:List au} (h:St S w0 C w):St S w0 (bw []::C) w:=St.tied (C1:=[]) h
section
variable {E:fh} {Q:cZ} {D:List Deferred} {L:List (Nat×Value)} {C:List au}
theorem lX {c:Code} (h:WJ E c Q D L (bw []::C)):WJ E c Q D L C:=fun a w hf hs=>h a w hf hs.P8
theorem xg {ops:Array Oper} {rest:List Oper} (h:RJ E ops Q rest D L (bw []::C)):RJ E ops Q rest D L C:=fun a w hf hs=>h a w hf hs.P8
theorem zk {K:Act→World→Prop} {C1:List au} {A:au} {X X':List au} (i j:Nat) (hn:decide (j::i::(List.range C.length).filter fun k=>k != i&&k != j).Nodup=true) (hC:kq C (j::i::(List.range C.length).filter fun k=>k != i&&k != j)=A::bw X::C1) (e:X++[A]=X')
 (h:KJ E K D L (bw X'::C1)):KJ E K D L C:=fun a w hf hs=>h a w hf ((St.kq _ hn hC hs).tie e)
theorem O_ {ops:Array Oper} {rest:List Oper} {C1:List au} {A:au} {X X':List au} (i j:Nat) (hn:decide (j::i::(List.range C.length).filter fun k=>k != i&&k != j).Nodup=true) (hC:kq C (j::i::(List.range C.length).filter fun k=>k != i&&k != j)=A::bw X::C1) (e:X++[A]=X')
 (h:RJ E ops Q rest D L (bw X'::C1)):RJ E ops Q rest D L C:=fun a w hf hs=>h a w hf ((St.kq _ hn hC hs).tie e)
end
end
section
open Go.RowKit
abbrev dD:aa→Value:=fun s=>vA (aa.cells s)
abbrev eA:aD→Value:=fun s=>vA (aD.cells s)
abbrev TM:=List (Int×aa)
abbrev FM:=List (aD×Int)
def gN {α:Type} (m:α) (b:Nat):List Value:=[Value.map (some b)]
def rK (m:TM) (b:Nat):List au:=[g_ iV b (bM dD m)]
def ob (m:FM) (b:Nat):List au:=[g_ eA b (bM iV m)]
theorem wm {M A:Type} {f:M→A→List au}: ∀ (m:M) (a:A) (w:World),(∀ X∈f m a,X.holds w)→ ∀ X∈f m a,X.holds w:=fun _ _ _ h=>h
/-- untied -/
theorem M7 {E:fh} {ops:Array Oper} {Q:cZ} {rest:List Oper} {D:gV} {L:di} {C X C1:List au} (i:Nat) (hn:decide (i::(List.range C.length).filter fun k=>k != i).Nodup=true) (hC:kq C (i::(List.range C.length).filter fun k=>k != i)=bw X::C1)
 (h:RJ E ops Q rest D L (X++C1)):RJ E ops Q rest D L C:=fun a w hf hs=>h a w hf (St.ir (St.kq _ hn hC hs))
end
section
def cP (ln:bW) (rd:dY) (e:List Int) (tms:List TM):bR:=⟨rd.Start,rd.gk,e,tms,ln.cO,ln.eh,(rd.ah.n:Int)⟩
def Pa (o:Int×aa):List Value:=[.int .i64 o.1,.agg (aa.cells o.2).toArray]
structure Il (w:bR):Prop where
 n:w.n≤6
 times:w.vu.length=w.n
 now:0≤w.Start∧w.Start≤w.gk∧w.gk≤86400000
 least: ∀ x∈w.qb,1≤x∧x≤500000000
 Fm: ∀ t∈w.vu,∀ p∈t,(0≤p.1∧p.1≤10)∧0≤p.2.Lo∧p.2.Lo≤p.2.Hi∧p.2.Hi≤86400000
theorem Il.opt {w:bR} (h:Il w) {b:Nat} {o:Int×aa} (ho:o∈iF w b):(-1≤o.1∧o.1≤10)∧0≤o.2.Lo∧o.2.Lo≤o.2.Hi∧o.2.Hi≤86400000:=by
 unfold iF ud at ho
 rcases bx.1 ho with rfl|ho
 ·have:=h.now; simp only; omega
 ·cases ht:w.vu[b]? with
  |none=>simp [ht] at ho
  |some t=>
   rw [ht] at ho
   have:=h.Fm t (aT ht) o ho
   omega
theorem Il.bU {w:bR} (h:Il w) (b:Nat):0≤bU w b∧bU w b≤500000000:=by
 unfold Go.Proofs.YtlajhejcfcoddaaGreatDoor.bU
 cases ht:w.qb[b]? with
 |none=>simp
 |some x=>have:=h.least x (aT ht); simp only [Option.getD_some]; omega
theorem uN (s:Int):(0≤(fr s).right∧0≤(fr s).eX)∧(fr s).right+(fr s).eX=1:=by unfold fr; split<;>simp
theorem I1 {w:bR} (h:Il w): ∀ (b:Nat) p,p∈fwd w b→(0≤p.2∧p.2≤86400000)∧(0≤p.1.right∧0≤p.1.eX)∧p.1.right+p.1.eX=(b:Int):=by
 intro b
 induction b with
 |zero=>
  intro p hp
  simp only [fwd,bJ] at hp
  subst hp
  have:=h.now; simp only; omega
 |succ b ih=>
  intro q hq
  obtain ⟨p,hp,o,ho,e⟩:=fU.1 hq
  have A:=ih p hp
  have B:=h.opt ho
  have C:=h.bU b
  have D:=h.now
  have E:=uN o.1
  unfold kT at e
  split at e
  ·simp only [Option.some.injEq] at e
   subst e
   simp only [dy]
   omega
  ·cases e
theorem RM {w:bR} (h:Il w): ∀ (k:Nat) p,p∈bwd w k→(-(500000000*(k:Int))≤p.2∧p.2≤86400000)∧(0≤p.1.right∧0≤p.1.eX)∧p.1.right+p.1.eX≤(k:Int):=by
 intro k
 induction k with
 |zero=>
  intro p hp
  simp only [bwd,bJ] at hp
  subst hp
  have:=h.now; simp only; omega
 |succ k ih=>
  intro q hq
  simp only [bwd,bx,List.mem_flatMap,List.mem_filterMap] at hq
  rcases hq with rfl|⟨p,hp,o,ho,e⟩
  ·have:=h.now; simp only; omega
  ·have A:=ih p hp
   have B:=h.opt ho
   have C:=h.bU (w.n-(k+1))
   have D:=h.now
   have E:=uN o.1
   unfold oc at e
   split at e
   ·simp only [Option.some.injEq] at e
    subst e
    simp only [dy]
    omega
   ·cases e
theorem Lc {w:bR} (h:Il w) {b:Nat} {p:aD×Int} (hp:p∈back w b):(-3000000000≤p.2∧p.2≤86400000)∧(0≤p.1.right∧0≤p.1.eX)∧p.1.right+p.1.eX≤6:=by
 have:=RM h _ _ hp
 have:=h.n
 omega
theorem xQ {w:bR} {b:Nat} {t:TM} (ht:w.vu[b]? =some t) {o:Int×aa}:o∈iF w b↔o=(-1,⟨w.Start,w.gk⟩)∨o∈t:=by
 unfold iF ud; rw [ht]; simp
theorem l9 {K β:Type} [DecidableEq K] {l:List (K×β)} {x:K} {y:β} (hn:(l.map (·.1)).Nodup) (hm:(x,y)∈l) {o:K×β} (h:o∈l):o∈cG l x∨o=(x,y):=by
 by_cases e:o.1=x
 ·right
  obtain ⟨k,v⟩:=o
  simp only at e
  subst e
  have B:=(jv hn).1 h
  have A:=(jv hn).1 hm
  rw [B] at A
  cases A; rfl
 ·exact .inl (ki.2 ⟨h,e⟩)
theorem H7 {K β:Type} [DecidableEq K] {t l ys:List (K×β)} {x:K} {y:β} (hn:(l.map (·.1)).Nodup) (hm:(x,y)∈l) (h: ∀ o∈t,o∈l∨o∈ys): ∀ o∈t,o∈cG l x∨o∈ys++[(x,y)]:=fun o ho=>by
 rcases h o ho with h|h
 ·rcases l9 hn hm h with h|h
  ·exact .inl h
  ·exact .inr (by simp [h])
 ·exact .inr (by simp [h])
theorem mz {K β:Type} [DecidableEq K] {t l:List (K×β)} {x:K} (h: ∀ o∈l,o∈t): ∀ o∈cG l x,o∈t:=fun o ho=>h o (ki.1 ho).1
theorem KI {w:bR} {m left:List (aD×Int)} (h: ∀ p∈m,p∈left∨kG w p.1=false) (h0:left=[]):jB w m=false:=by
 unfold jB
 rw [List.any_eq_false]
 intro p hp
 rcases h p hp with q|q
 ·rw [h0] at q; cases q
 ·simp [q]
theorem NI {w:bR} {m:List (aD×Int)} {p:aD×Int} (hp:p∈m) (h:kG w p.1=true):jB w m=true:=List.any_eq_true.2 ⟨p,hp,h⟩
theorem Ka {w:bR} {m left:List (aD×Int)} {t:aD} {v:Int} (hn:(left.map (·.1)).Nodup) (hm:(t,v)∈left) (h: ∀ p∈m,p∈left∨kG w p.1=false) (hf:kG w t=false): ∀ p∈m,p∈cG left t∨kG w p.1=false:=fun p hp=>by
 rcases h p hp with q|q
 ·rcases l9 hn hm q with q|q
  ·exact .inl q
  ·right; rw [q]; exact hf
 ·exact .inr q
/-- what the maps of a watch are -/
structure xy (w:bR) (fs:List (List (aD×Int))):Prop where
 len:fs.length=w.n+1
 min: ∀ (b:Nat) m,fs[b]? =some m→s8 m (fwd w b)
 keys: ∀ (b:Nat) m,fs[b]? =some m→(m.map (·.1)).Nodup
structure uH (w:bR) (bs:List (List (aD×Int))):Prop where
 len:bs.length=w.n+1
 max: ∀ (b:Nat) m,bs[b]? =some m→u9 m (back w b)
 keys: ∀ (b:Nat) m,bs[b]? =some m→(m.map (·.1)).Nodup
theorem xy.mem {w:bR} {fs:List (List (aD×Int))} (h:xy w fs) {b:Nat} {m:List (aD×Int)} (hm:fs[b]? =some m) {p:aD×Int} (hp:p∈m):p∈fwd w b:=(h.min b m hm).1 _ _ ((fD (h.keys b m hm)).1 hp)
theorem uH.mem {w:bR} {fs:List (List (aD×Int))} (h:uH w fs) {b:Nat} {m:List (aD×Int)} (hm:fs[b]? =some m) {p:aD×Int} (hp:p∈m):p∈back w b:=(h.max b m hm).1 _ _ ((fD (h.keys b m hm)).1 hp)
theorem Ij {w:bR} {b:Nat} {t l ys:List (Int×aa)} (ht:w.vu[b]? =some t) (h: ∀ o∈t,o∈l∨o∈ys) (h0:l=[]) (hs:(-1,(⟨w.Start,w.gk⟩:aa))∈ys): ∀ o∈iF w b,o∈ys:=fun o ho=>by
 rcases (xQ ht).1 ho with rfl|ho
 ·exact hs
 ·rcases h o ho with q|q
  ·rw [h0] at q; cases q
  ·exact q
end
section
/-- by these options all is yielded -/
def lK (w:bR) (b:Nat) (mf mb:List (aD×Int)) (os ys:List (Int×aa)):Prop:= ∀ o∈os,∀ p∈mf,∀ u∈mb,∀ q,mw w b p u o=some q→q∈ys
def nG (w:bR) (b:Nat) (mf mb:List (aD×Int)) (o:Int×aa) (left:List (aD×Int)) (ys:List (Int×aa)):Prop:= ∀ p∈mf,p∈left∨ ∀ u∈mb,∀ q,mw w b p u o=some q→q∈ys
def n8 (w:bR) (b:Nat) (mb:List (aD×Int)) (o:Int×aa) (p:aD×Int) (left:List (aD×Int)) (ys:List (Int×aa)):Prop:= ∀ u∈mb,u∈left∨ ∀ q,mw w b p u o=some q→q∈ys
variable {w:bR} {b:Nat} {mf mb left:List (aD×Int)} {o x:Int×aa} {os ys:List (Int×aa)} {p u:aD×Int}
theorem lK.nil:lK w b mf mb [] ys:=fun o ho=>by cases ho
theorem lK.app (h:lK w b mf mb os ys):lK w b mf mb os (ys++[x]):=fun o ho p hp u hu q e=>List.mem_append_left _ (h o ho p hp u hu q e)
theorem nG.app (h:nG w b mf mb o left ys):nG w b mf mb o left (ys++[x]):=fun p hp=>(h p hp).imp id fun h u hu q e=>List.mem_append_left _ (h u hu q e)
theorem nG.start:nG w b mf mb o mf ys:=fun p hp=> .inl hp
theorem n8.start:n8 w b mb o p mb ys:=fun p hp=> .inl hp
theorem n8.skip {t:aD} {v:Int} (hn:(left.map (·.1)).Nodup) (hm:(t,v)∈left) (h:n8 w b mb o p left ys) (he:mw w b p (t,v) o=none):n8 w b mb o p (cG left t) ys:=fun u hu=>by
 rcases h u hu with q|q
 ·rcases l9 hn hm q with q|q
  ·exact .inl q
  ·right; intro z hz; rw [q,he] at hz; cases hz
 ·exact .inr q
theorem n8.UZ {t:aD} {v:Int} (hn:(left.map (·.1)).Nodup) (hm:(t,v)∈left) (h:n8 w b mb o p left ys) (he:mw w b p (t,v) o=some x):n8 w b mb o p (cG left t) (ys++[x]):=fun u hu=>by
 rcases h u hu with q|q
 ·rcases l9 hn hm q with q|q
  ·exact .inl q
  ·right; intro z hz; rw [q,he] at hz; cases hz; simp
 ·right; intro z hz; exact List.mem_append_left _ (q z hz)
theorem nG.next {t:aD} {v:Int} {l2:List (aD×Int)} (hn:(left.map (·.1)).Nodup) (hm:(t,v)∈left) (h:nG w b mf mb o left ys) (hq:n8 w b mb o (t,v) l2 ys) (h0:l2=[]):nG w b mf mb o (cG left t) ys:=fun p hp=>by
 rcases h p hp with q|q
 ·rcases l9 hn hm q with q|q
  ·exact .inl q
  ·right; intro u hu z hz; subst q
   rcases hq u hu with q|q
   ·rw [h0] at q; cases q
   ·exact q z hz
 ·exact .inr q
theorem lK.next (h:lK w b mf mb os ys) (hp:nG w b mf mb o left ys) (h0:left=[]):lK w b mf mb (os++[o]) ys:=fun o' ho p hp' u hu q e=>by
 rcases dJ.1 ho with ho|ho
 ·exact h o' ho p hp' u hu q e
 ·simp only [bJ] at ho; subst ho
  rcases hp p hp' with z|z
  ·rw [h0] at z; cases z
  ·exact z u hu q e
theorem lK.fin (h:lK w b mf mb os ys) (ho: ∀ o∈iF w b,o∈os): ∀ q∈p5 w b mf mb,q∈ys:=fun q hq=>by
 obtain ⟨o,A,p,B,u,C,e⟩:=ij.1 hq
 exact h o (ho o A) p B u C q e
theorem Ip (h:max (p.2+bU w b) o.2.Lo≤min u.2 o.2.Hi) (h2:kG w (dy (dy p.1 u.1) (fr o.1))=true):mw w b p u o=some (o.1,⟨max (p.2+bU w b) o.2.Lo,min u.2 o.2.Hi⟩):=by
 unfold mw jF wU; rw [if_pos ⟨h,h2⟩]
theorem LL (h: ¬ max (p.2+bU w b) o.2.Lo≤min u.2 o.2.Hi):mw w b p u o=none:=by
 unfold mw jF; rw [if_neg (fun q=>h q.1)]
theorem H2 (h2:kG w (dy (dy p.1 u.1) (fr o.1))=false):mw w b p u o=none:=by
 unfold mw wU; rw [if_neg (fun q=>by rw [h2] at q; exact absurd q.2 dc)]
theorem nD {v:Int} (h:w.qb[b]? =some v):bU w b=v:=by unfold bU; rw [h]; rfl
theorem B8 {t q:aD} {v z y:Int} (hy:w.qb[b]? =some y) (h:max (v+y) o.2.Lo≤min z o.2.Hi) (h2:kG w (dy (dy t q) (fr o.1))=true):mw w b (t,v) (q,z) o=some (o.1,⟨max (v+y) o.2.Lo,min z o.2.Hi⟩):=by
 have e:=nD hy
 subst e
 exact Ip h h2
theorem Ik {t q:aD} {v z y:Int} (hy:w.qb[b]? =some y) (h: ¬ max (v+y) o.2.Lo≤min z o.2.Hi):mw w b (t,v) (q,z) o=none:=by
 have e:=nD hy
 subst e
 exact LL h
theorem og {m:List (aD×Int)} {k:aD} {y:Int} (h:(m.map (·.1)).Nodup):((dW m k y).map (·.1)).Nodup:=by
 unfold dW
 by_cases hx:(m.lookup k).isSome
 ·rw [if_pos hx,List.map_map]
  have e:m.map ((fun p=>p.1)∘fun p=>if p.1=k then (k,y) else p)=m.map (·.1):=by
   apply List.map_congr_left
   intro p _
   simp only [Function.comp]
   split
   ·rename_i e; exact e.symm
   ·rfl
  rw [e]; exact h
 ·rw [if_neg hx,List.map_append,List.nodup_append]
  refine ⟨h,sm,?_⟩
  intro a ha c hc
  simp only [List.map_cons,List.map_nil,bJ] at hc
  rw [hc]
  obtain ⟨p,hp,rfl⟩:=bX.1 ha
  have hn:m.lookup k=none:=by cases h0:m.lookup k with
   |none=>rfl
   |some v=>exact absurd (by rw [h0]; rfl) hx
  exact gU.1 hn p hp
theorem Co {m:List (aD×Int)} {q:aD×Int} (h:(m.map (·.1)).Nodup):((ph m q).map (·.1)).Nodup:=by
 unfold ph; split
 ·exact og h
 ·split
  ·exact og h
  ·exact h
theorem Cb {m:List (aD×Int)} {q:aD×Int} (h:(m.map (·.1)).Nodup):((oY m q).map (·.1)).Nodup:=by
 unfold oY; split
 ·exact og h
 ·split
  ·exact og h
  ·exact h
/-- a map of the first times, on its way -/
structure xh (w:bR) (b:Nat) (m:List (aD×Int)):Prop where
 snd:vo m (fwd w (b+1))
 keys:(m.map (·.1)).Nodup
structure vH (w:bR) (b:Nat) (m:List (aD×Int)):Prop where
 snd:vo m (back w b)
 keys:(m.map (·.1)).Nodup
 zero: ∃ v,m.lookup ⟨0,0⟩=some v∧w.gk≤v
theorem Ke (h:max (p.2+bU w b) o.2.Lo≤min o.2.Hi w.gk):kT w b p o=some (dy p.1 (fr o.1),max (p.2+bU w b) o.2.Lo):=by unfold kT; rw [if_pos h]
theorem Oz (h: ¬ max (p.2+bU w b) o.2.Lo≤min o.2.Hi w.gk):kT w b p o=none:=by unfold kT; rw [if_neg h]
theorem JE (h:o.2.Lo≤min p.2 o.2.Hi):oc w b p o=some (dy p.1 (fr o.1),min p.2 o.2.Hi-bU w b):=by unfold oc; rw [if_pos h]
theorem Ox (h: ¬ o.2.Lo≤min p.2 o.2.Hi):oc w b p o=none:=by unfold oc; rw [if_neg h]
theorem xh.start:xh w b []:=⟨fun t v h=>by simp at h,List.nodup_nil⟩
theorem xh.add {m:List (aD×Int)} {q:aD×Int} (h:xh w b m) (hp:p∈fwd w b) (ho:o∈iF w b) (he:kT w b p o=some q):xh w b (ph m q):=⟨Ih h.snd (fU.2 ⟨p,hp,o,ho,he⟩),Co h.keys⟩
theorem vH.start (hb:b<w.n):vH w b [(⟨0,0⟩,w.gk)]:=⟨fun t v h=>by
 obtain ⟨rfl,rfl⟩:=o9.1 h
 exact (o6 hb).2 (.inl U),sm,w.gk,o9.2 ⟨U,U⟩,Int.le_refl _⟩
theorem vH.add {m:List (aD×Int)} {q:aD×Int} (hb:b<w.n) (h:vH w b m) (hp:p∈back w (b+1)) (ho:o∈iF w b) (he:oc w b p o=some q):vH w b (oY m q):=⟨G5 h.snd ((o6 hb).2 (.inr ⟨p,hp,o,ho,he⟩)),Cb h.keys,by
 obtain ⟨v,A,C⟩:=h.zero
 obtain ⟨v',B,D⟩:=qE (q:=q) _ _ A
 exact ⟨v',B,I⟩⟩
theorem jh.none_ {m:List (aD×Int)} (h:jh w b m p os) (he:kT w b p o=none):jh w b m p (os++[o]):=h.add (xK.refl _) fun q hq=>by rw [he] at hq; cases hq
theorem jh.KM {m:List (aD×Int)} {q:aD×Int} (h:jh w b m p os) (he:kT w b p o=some q):jh w b (ph m q) p (os++[o]):=h.add vi fun q' hq=>by rw [he] at hq; cases hq; exact Iq
theorem jk.none_ {m:List (aD×Int)} (h:jk w b m p os) (he:oc w b p o=none):jk w b m p (os++[o]):=h.add (wX.refl _) fun q hq=>by rw [he] at hq; cases hq
theorem jk.KM {m:List (aD×Int)} {q:aD×Int} (h:jk w b m p os) (he:oc w b p o=some q):jk w b (oY m q) p (os++[o]):=h.add qE fun q' hq=>by rw [he] at hq; cases hq; exact HO
/-- what of a map of the beam before is used already -/
def jY (w:bR) (b:Nat) (mb m left:List (aD×Int)):Prop:= ∀ p∈mb,p∈left∨jh w b m p (iF w b)
def jK (w:bR) (b:Nat) (mb m left:List (aD×Int)):Prop:= ∀ p∈mb,p∈left∨jk w b m p (iF w b)
theorem jY.start {m:List (aD×Int)}:jY w b mb m mb:=fun p hp=> .inl hp
theorem jK.start {m:List (aD×Int)}:jK w b mb m mb:=fun p hp=> .inl hp
theorem jY.lower {m m':List (aD×Int)} (h:jY w b mb m left) (hl:xK m m'):jY w b mb m' left:=fun p hp=>(h p hp).imp id fun h=>h.lower hl
theorem jK.upper {m m':List (aD×Int)} (h:jK w b mb m left) (hl:wX m m'):jK w b mb m' left:=fun p hp=>(h p hp).imp id fun h=>h.upper hl
theorem jY.next {m:List (aD×Int)} {t:aD} {v:Int} (hn:(left.map (·.1)).Nodup) (hm:(t,v)∈left) (h:jY w b mb m left) (hd:jh w b m (t,v) os) (ho: ∀ o∈iF w b,o∈os):jY w b mb m (cG left t):=fun p hp=>by
 rcases h p hp with q|q
 ·rcases l9 hn hm q with q|q
  ·exact .inl q
  ·right; rw [q]; exact hd.sub ho
 ·exact .inr q
theorem jK.next {m:List (aD×Int)} {t:aD} {v:Int} (hn:(left.map (·.1)).Nodup) (hm:(t,v)∈left) (h:jK w b mb m left) (hd:jk w b m (t,v) os) (ho: ∀ o∈iF w b,o∈os):jK w b mb m (cG left t):=fun p hp=>by
 rcases h p hp with q|q
 ·rcases l9 hn hm q with q|q
  ·exact .inl q
  ·right; rw [q]; exact hd.sub ho
 ·exact .inr q
theorem jY.fin {m:List (aD×Int)} (h:jY w b mb m left) (h0:left=[]): ∀ p∈mb,jh w b m p (iF w b):=fun p hp=>by
 rcases h p hp with q|q
 ·rw [h0] at q; cases q
 ·exact q
theorem jK.fin {m:List (aD×Int)} (h:jK w b mb m left) (h0:left=[]): ∀ p∈mb,jk w b m p (iF w b):=fun p hp=>by
 rcases h p hp with q|q
 ·rw [h0] at q; cases q
 ·exact q
end
section
def mI (a b:aa):aa:=⟨a.Lo+b.Lo,a.Hi+b.Hi⟩
def dH:aa:=⟨0,0⟩
def kI (a:aa) (l:List aa):aa:=l.foldl mI a
def lF (z:aa):Prop:=(-1000000000≤z.Lo∧z.Lo≤1000000000)∧ -1000000000≤z.Hi∧z.Hi≤1000000000
theorem yM {a:aa} {l:List aa} {i:Nat} {z:aa} (h:l[i]? =some z):kI a (l.take (i+1))=mI (kI a (l.take i)) z:=by
 rw [List.take_add_one,h]; unfold kI; simp
theorem QZ {a:aa} {l:List aa} (ha:lF a) (hl: ∀ z∈l,lF z): ∀ i:Nat,(-1000000000-1000000000*(i:Int)≤(kI a (l.take i)).Lo∧(kI a (l.take i)).Lo≤1000000000+1000000000*(i:Int))∧ -1000000000-1000000000*(i:Int)≤(kI a (l.take i)).Hi∧(kI a (l.take i)).Hi≤1000000000+1000000000*(i:Int):=by
 intro i
 induction i with
 |zero=>unfold lF at ha; simp [kI]; omega
 |succ i ih=>
  cases h:l[i]? with
  |none=>rw [List.take_add_one,h]; simp only [Option.toList_none,List.append_nil]; omega
  |some z=>
   have hz:=hl z (aT h)
   unfold lF at hz
   rw [yM h]
   simp only [mI]
   omega
theorem K3 {a:aa} {l:List aa} {i:Nat} (h:l.length≤i):kI a (l.take i)=kI a l:=by rw [List.take_of_length_le h]
theorem nM {a z:aa}:vA (aa.cells (kI a [z]))=vA (aa.cells (mI a z)):=rfl
theorem CS {a y z:aa}:vA (aa.cells (kI a [y,z]))=vA (aa.cells (mI (mI a y) z)):=rfl
/-- how long the run is from one mark, over so many stretches; by how much it falls -/
def eK (ts:List al) (f:Nat):Nat→aa
 |0=>dH
 |k+1=>match ts[f+k]? with
  |some x=>mI (eK ts f k) x.kD
  |none=>eK ts f k
def gr (ts:List al) (f:Nat):Nat→aa
 |0=>dH
 |k+1=>match ts[f+k]? with
  |some x=>mI (gr ts f k) x.lO
  |none=>gr ts f k
theorem pM {ts:List al} {f k:Nat} {x:al} (h:ts[f+k]? =some x):eK ts f (k+1)=mI (eK ts f k) x.kD:=by simp [eK,h]
theorem pN {ts:List al} {f k:Nat} {x:al} (h:ts[f+k]? =some x):gr ts f (k+1)=mI (gr ts f k) x.lO:=by simp [gr,h]
theorem mq {ts:List al} (ht: ∀ x∈ts,bP x) (f:Nat): ∀ k:Nat,(0≤(eK ts f k).Lo∧(eK ts f k).Lo≤(eK ts f k).Hi)∧(eK ts f k).Hi≤30000*(k:Int):=by
 intro k
 induction k with
 |zero=>simp [eK,dH]
 |succ k ih=>
  simp only [eK]
  cases h:ts[f+k]? with
  |none=>simp only; omega
  |some x=>
   have hx:=(ht x (aT h)).2.1
   simp only [dZ] at hx
   simp only [mI]
   omega
theorem Gl {ts:List al} (ht: ∀ x∈ts,bP x) (f:Nat): ∀ k:Nat,(0≤(gr ts f k).Lo∧(gr ts f k).Lo≤(gr ts f k).Hi)∧(gr ts f k).Hi≤5000*(k:Int):=by
 intro k
 induction k with
 |zero=>simp [gr,dH]
 |succ k ih=>
  simp only [gr]
  cases h:ts[f+k]? with
  |none=>simp only; omega
  |some x=>
   have hx:=(ht x (aT h)).2.2.1
   simp only [dZ] at hx
   simp only [mI]
   omega
theorem qH {ts:List al} (ht: ∀ x∈ts,bP x) {f k:Nat} (hk:k≤13):lF (eK ts f k):=by
 have:=mq ht f k; unfold lF; omega
theorem wZ {ts:List al} (ht: ∀ x∈ts,bP x) {f k:Nat} (hk:k≤13):lF (gr ts f k):=by
 have:=Gl ht f k; unfold lF; omega
theorem uh {x:al} (h:bP x):lF x.kD:=by have:=h.2.1; simp only [dZ] at this; unfold lF; omega
theorem um {x:al} (h:bP x):lF x.lO:=by have:=h.2.2.1; simp only [dZ] at this; unfold lF; omega
theorem zj {ts:List al} (h: ¬ (if c_ ts=true then (0:Int) else 10)=0):c_ ts=false∧(if c_ ts=true then (0:Int) else 10)=10:=by
 cases ht:c_ ts with
 |true=>rw [ht] at h; exact absurd rfl h
 |false=>exact ⟨rfl,rfl⟩
theorem EC {ts:List al} (h:(if c_ ts=true then (0:Int) else 10)=0):c_ ts=true:=by
 cases ht:c_ ts with
 |true=>rfl
 |false=>rw [ht] at h; exact absurd h dc
/-- what the iterator of marks yields -/
def te (ts:List al) (f:Nat):List (List Value):=(List.range (ts.length-f+1)).map fun (k:Nat)=>[.agg (eK ts f k).cells.toArray,.agg (gr ts f k).cells.toArray]
theorem tw {ts:List al} {f:Nat}:(te ts f).length=ts.length-f+1:=by simp [te]
theorem yJ {ts:List al} {f k:Nat} (h:k≤ts.length-f):(te ts f)[k]? =some [.agg (eK ts f k).cells.toArray,.agg (gr ts f k).cells.toArray]:=by
 simp [te,List.getElem?_range (show k<ts.length-f+1 by omega)]
theorem Ir {ts:List al} {f k:Nat} {x:List Value} (h:(te ts f)[k]? =some x):k≤ts.length-f∧x=[.agg (eK ts f k).cells.toArray,.agg (gr ts f k).cells.toArray]:=by
 have hi:k<ts.length-f+1:=by
  have:=(aS.1 h).1
  simpa [te] using this
 rw [yJ I] at h
 exact ⟨I,(Option.some.inj h).symm⟩
theorem D1 {ts:List al} {f:Nat}: ∀ x∈te ts f,x.length=2:=fun x hx=>by
 obtain ⟨k,_,rfl⟩:=bX.1 hx; rfl
end
section
def fy (ts:List al) (s:cM):Prop:=(0≤s.a_∧s.a_<(ts.length:Int))∧ ∃ x,ts[s.a_.toNat]? =some x∧dZ s.mN 0 (x.kD.Lo-1)
noncomputable instance (ts:List al) (s:cM):Decidable (fy ts s):=Classical.propDecidable _
theorem CI {ts:List al} {s:cM} {x:al} (h:0≤s.a_∧s.a_<(ts.length:Int)) (hx:ts[s.a_.toNat]? =some x):fy ts s↔dZ s.mN 0 (x.kD.Lo-1):=
 ⟨fun A=>by obtain ⟨y,hy,B⟩:=A.2; rw [hx] at hy; cases hy; exact B,fun A=>⟨h,x,hx,A⟩⟩
theorem Bi {ts:List al} {s:cM} (h: ¬ (0≤s.a_∧s.a_<(ts.length:Int))): ¬ fy ts s:=fun A=>h A.1
theorem Az {ts:List al} {s:cM} (ht: ∀ x∈ts,bP x) (h:fy ts s):(0≤s.mN.Lo∧s.mN.Lo≤s.mN.Hi)∧s.mN.Hi≤30000:=by
 obtain ⟨x,hx,A⟩:=h.2
 have:=(ht x (aT hx)).2.1
 simp only [dZ] at A this
 omega
theorem EK {ts:List al} {a:cM}:vB (decide (∀ s∈[a],fy ts s))=vB (decide (fy ts a)):=congrArg _ (gi.2 sm)
theorem EL {ts:List al} {a b:cM}:vB (decide (∀ s∈[a,b],fy ts s))=vB (decide (fy ts a∧fy ts b)):=congrArg _ (gi.2 sm)
def ou (z:aa):aa:=⟨-z.Hi,-z.Lo⟩
def MT (ts:List al) (s:cM):aa:=mI (eK ts 0 s.a_.toNat) s.mN
noncomputable def F0 (ts:List al) (s:cM):Int:=if c_ ts=true then (if fy ts s then 0 else 12) else 10
noncomputable def Qd (ts:List al) (s:cM):aa:=if F0 ts s=0 then MT ts s else dH
theorem Me {ts:List al} {s:cM} (h:c_ ts=false):F0 ts s=10∧Qd ts s=dH:=by
 have e:F0 ts s=10:=by unfold F0; rw [h]; rfl
 exact ⟨e,by unfold Qd; rw [e]; rfl⟩
theorem KX {ts:List al} {s:cM} (h:c_ ts=true) (h2: ¬ fy ts s):F0 ts s=12∧Qd ts s=dH:=by
 have e:F0 ts s=12:=by unfold F0; rw [if_pos h,if_neg h2]
 exact ⟨e,by unfold Qd; rw [e]; rfl⟩
theorem wo {ts:List al} {s:cM} (h:c_ ts=true) (h2:fy ts s):F0 ts s=0∧Qd ts s=MT ts s:=by
 have e:F0 ts s=0:=by unfold F0; rw [if_pos h,if_pos h2]
 exact ⟨e,if_pos e⟩
theorem Fu {ts:List al} {s:cM} (h:c_ ts=true):F0 ts s=0↔fy ts s:=by
 unfold F0; rw [if_pos h]; split<;>simp [*]
def wW (ts:List al) (a b:cM):aa:=eK ts (min a.a_ b.a_).toNat (max a.a_ b.a_-min a.a_ b.a_).toNat
def j4 (ts:List al) (a b:cM):aa:=mI (mI (if b.a_<a.a_ then ou (wW ts a b) else wW ts a b) b.mN) (ou a.mN)
noncomputable def lZ (ts:List al) (a b:cM):Int:=if c_ ts=true then (if fy ts a∧fy ts b then 0 else 12) else 10
noncomputable def kR (ts:List al) (a b:cM):aa:=if lZ ts a b=0 then j4 ts a b else dH
theorem ui {ts:List al} {a b:cM} (h:c_ ts=false):lZ ts a b=10∧kR ts a b=dH:=by
 have e:lZ ts a b=10:=by unfold lZ; rw [h]; rfl
 exact ⟨e,by unfold kR; rw [e]; rfl⟩
theorem pd {ts:List al} {a b:cM} (h:c_ ts=true) (h2: ¬ (fy ts a∧fy ts b)):lZ ts a b=12∧kR ts a b=dH:=by
 have e:lZ ts a b=12:=by unfold lZ; rw [if_pos h,if_neg h2]
 exact ⟨e,by unfold kR; rw [e]; rfl⟩
theorem lg {ts:List al} {a b:cM} (h:c_ ts=true) (h2:fy ts a∧fy ts b):lZ ts a b=0∧kR ts a b=j4 ts a b:=by
 have e:lZ ts a b=0:=by unfold lZ; rw [if_pos h,if_pos h2]
 exact ⟨e,if_pos e⟩
theorem z8 {z:aa} (h:lF z):lF (ou z):=by unfold lF ou at *; simp only; omega
theorem qp {ts:List al} {s:cM} (ht: ∀ x∈ts,bP x) (h:fy ts s):lF s.mN:=by have:=Az ht h; unfold lF; omega
theorem QT {ts:List al} {a b:cM} (ht: ∀ x∈ts,bP x) (hl:ts.length≤12) (ha:fy ts a) (hb:fy ts b):(0≤(wW ts a b).Lo∧(wW ts a b).Lo≤(wW ts a b).Hi)∧(wW ts a b).Hi≤360000:=by
 have h:=mq ht (min a.a_ b.a_).toNat (max a.a_ b.a_-min a.a_ b.a_).toNat
 have A:=ha.1
 have B:=hb.1
 unfold wW
 omega
theorem x5 {ts:List al} {a b:cM} (ht: ∀ x∈ts,bP x) (hl:ts.length≤12) (ha:fy ts a) (hb:fy ts b):(-400000≤(j4 ts a b).Lo∧(j4 ts a b).Lo≤(j4 ts a b).Hi)∧(j4 ts a b).Hi≤400000:=by
 have h:=QT ht hl ha hb
 have A:=Az ht ha
 have B:=Az ht hb
 unfold j4 mI ou
 split<;>simp only <;>omega
theorem Tt {ts:List al} {s:cM} (ht: ∀ x∈ts,bP x) (hl:ts.length≤12) (h:fy ts s):(0≤(MT ts s).Lo∧(MT ts s).Lo≤(MT ts s).Hi)∧(MT ts s).Hi≤400000:=by
 have A:=mq ht 0 s.a_.toNat
 have B:=Az ht h
 have C:=h.1
 unfold MT mI
 simp only; omega
theorem GX {α:Type} {p:Nat→α→Bool} {l:List α}:((l.zipIdx.filter fun q=>p q.2 q.1).map fun q=>(q.2:Int))=[]↔ ∀ (i:Nat) x,l[i]? =some x→p i x=false:=by
 rw [List.map_eq_nil_iff,List.filter_eq_nil_iff]
 constructor
 ·intro h i x hx
  have:=h (x,i) (by rw [List.mem_zipIdx_iff_getElem?]; simpa using hx)
  simpa using this
 ·rintro h ⟨x,i⟩ hm
  rw [List.mem_zipIdx_iff_getElem?] at hm
  simpa using h i x (by simpa using hm)
/-- the places of a list at which something is so -/
def sh {α:Type} (p:Nat→α→Bool) (l:List α) (n:Nat):List Int:=(((l.take n).zipIdx.filter fun q=>p q.2 q.1).map fun q=>(q.2:Int))
theorem MF {α:Type} {p:Nat→α→Bool} {l:List α} {i:Nat} {x:α} (hx:l[i]? =some x) (h:p i x=true):sh p l (i+1)=sh p l i++[(i:Int)]:=by
 have hi:=(aS.1 hx).1
 unfold sh
 rw [List.take_add_one,hx,List.zipIdx_append,List.filter_append,List.map_append]
 simp [Nat.min_eq_left (Nat.le_of_lt hi),h]
theorem N3 {α:Type} {p:Nat→α→Bool} {l:List α} {i:Nat} {x:α} (hx:l[i]? =some x) (h:p i x=false):sh p l (i+1)=sh p l i:=by
 have hi:=(aS.1 hx).1
 unfold sh
 rw [List.take_add_one,hx,List.zipIdx_append,List.filter_append,List.map_append]
 simp [Nat.min_eq_left (Nat.le_of_lt hi),h]
theorem Cn {α:Type} {p:Nat→α→Bool} {l:List α} {n:Nat}:(sh p l n).length≤n:=by
 unfold sh
 rw [List.length_map]
 refine Nat.le_trans (List.length_filter_le _ _) ?_
 rw [List.length_zipIdx,List.length_take]; omega
def Km {α:Type} (p:Nat→α→Bool) (l:List α):List Int:=sh p l l.length
theorem OM {α:Type} {p:Nat→α→Bool} {l:List α} {n:Nat} (h:n=l.length):sh p l n=Km p l:=by rw [h]; rfl
theorem HX {α:Type} {p:Nat→α→Bool} {l:List α}:(Km p l).length=0↔ ∀ (i:Nat) x,l[i]? =some x→p i x=false:=by
 unfold Km sh
 rw [List.length_eq_zero_iff,List.take_length]
 exact GX
end
section
theorem yH (p:Int→Bool) (n:Nat): ∃ r:Int,r=((List.range n).findIdx fun (k:Nat)=>p (k:Int):Nat):=⟨_,rfl⟩
noncomputable def fz (p:Int→Bool) (n:Nat):Int:=Classical.choose (yH p n)
theorem sL (p:Int→Bool) (n:Nat):fz p n=((List.range n).findIdx fun (k:Nat)=>p (k:Int):Nat):=Classical.choose_spec (yH p n)
theorem ik {p:Int→Bool} {n:Nat}:0≤fz p n∧fz p n≤n:=by
 rw [sL]
 have:=List.findIdx_le_length (xs:=List.range n) (p:=fun (k:Nat)=>p (k:Int))
 rw [List.length_range] at this
 omega
theorem uY {p:Int→Bool} {n:Nat} {x:Int} (h0:0≤x) (h:x<fz p n):p x=false:=by
 have hb:=ik (p:=p) (n:=n)
 rw [sL] at h
 have B:x.toNat<(List.range n).findIdx fun (k:Nat)=>p (k:Int):=by omega
 have A:=List.not_of_lt_findIdx B
 simp only [List.getElem_range] at A
 rw [show (x.toNat:Int)=x by omega] at A
 simpa using A
theorem zh {p:Int→Bool} {n:Nat} (h:fz p n<n):p (fz p n)=true:=by
 rw [sL] at h ⊢
 have A:((List.range n).findIdx fun (k:Nat)=>p (k:Int))<(List.range n).length:=by rw [List.length_range]; omega
 have:=List.findIdx_getElem (w:=A)
 simpa using this
theorem zz {p:Int→Bool} {n:Nat} {r:Int} (h0:0≤r) (hn:r<n) (hr:p r=true) (hb: ∀ x,0≤x→x<r→p x=false):fz p n=r:=by
 have A:=ik (p:=p) (n:=n)
 rcases Int.lt_trichotomy (fz p n) r with h|h|h
 ·have:=hb _ A.1 h
  have e:=zh (p:=p) (n:=n) I
  rw [e] at this; cases this
 ·exact h
 ·have:=uY h0 h
  rw [hr] at this; cases this
end
section
def pk (n by_:Int):Int:=(n+by_-1)/by_
/-- by how much a sync may be off -/
def sI (c:ar) (at_:Int) (x:cz):Int:=pk (c.dw*max (at_-x.At) (x.At-at_)) 1000000
def l3 (c:ar) (at_:Int) (s:aa) (x:cz):aa:=⟨max s.Lo (x.eI.Lo-sI c at_ x),min s.Hi (x.eI.Hi+sI c at_ x)⟩
def gG (c:ar) (at_:Int) (k:Nat):aa:=(c.bq.take k).foldl (l3 c at_) ⟨-1099511627776,1099511627776⟩
def iz (c:ar) (at_:Int):aa:=c.bq.foldl (l3 c at_) ⟨-1099511627776,1099511627776⟩
theorem jW {c:ar} {at_:Int} {k:Nat} {x:cz} (h:c.bq[k]? =some x):gG c at_ (k+1)=l3 c at_ (gG c at_ k) x:=by
 unfold gG; rw [List.take_add_one,h,List.foldl_append]; rfl
theorem nS {c:ar} {at_:Int} {k:Nat} (h:c.bq.length≤k):gG c at_ k=iz c at_:=by unfold gG iz; rw [List.take_of_length_le h]
def kp (c:ar) (i:Nat):Int:=if i=0 then-1 else ((c.bq[i-1]?).map (·.At)).getD 0
def fB (c:ar) (i:Nat) (x:cz):Prop:=(kp c i<x.At∧x.At≤86400000)∧ -10000≤x.eI.Lo∧x.eI.Lo≤x.eI.Hi∧x.eI.Hi≤10000
def nP (c:ar) (x o:cz):Prop:=x.eI.Lo-o.eI.Hi≤pk (c.dw*(x.At-o.At)) 1000000∧o.eI.Lo-x.eI.Hi≤pk (c.dw*(x.At-o.At)) 1000000
structure e_ (c:ar):Prop where
 rV:0≤c.dw∧c.dw≤1000
 len:1≤c.bq.length∧c.bq.length≤5
 sync: ∀ (i:Nat) x,c.bq[i]? =some x→fB c i x
 pair: ∀ (i k:Nat) x o,c.bq[i]? =some x→k<i→c.bq[k]? =some o→nP c x o
noncomputable instance (c:ar):Decidable (e_ c):=Classical.propDecidable _
theorem gI {c:ar} {i:Nat} (h:i=0):kp c i= -1:=if_pos h
theorem xU {c:ar} {i:Nat} {y:cz} (h:0<i) (hy:c.bq[i-1]? =some y):kp c i=y.At:=by unfold kp; rw [if_neg I,hy]; rfl
theorem oE {c:ar} {i:Nat} {y:cz} (hy:c.bq[i]? =some y):kp c (i+1)=y.At:=by unfold kp; rw [if_neg I,Nat.add_sub_cancel,hy]; rfl
/-- the times of the syncs -/
theorem N8 {c:ar} (h: ∀ (i:Nat) x,c.bq[i]? =some x→fB c i x): ∀ (i:Nat) x,c.bq[i]? =some x→0≤x.At∧ ∀ (k:Nat) o,k<i→c.bq[k]? =some o→o.At<x.At:=by
 intro i
 induction i with
 |zero=>
  intro x hx
  have:=(h 0 x hx).1.1
  rw [gI rfl] at this
  exact ⟨I,fun k o hk=>by omega⟩
 |succ i ih=>
  intro x hx
  have hi:=(aS.1 hx).1
  have hy:c.bq[i]? =some (c.bq[i]'I):=eM I
  have B:=ih _ hy
  have A:=(h (i+1) x hx).1.1
  rw [oE hy] at A
  refine ⟨I,fun k o hk ho=>?_⟩
  by_cases e:k=i
  ·subst e; rw [hy] at ho; cases ho; exact A
  ·have:=B.2 k o I ho; omega
theorem e_.uq {c:ar} (h:e_ c) {i:Nat} {x:cz} (hx:c.bq[i]? =some x):(0≤x.At∧x.At≤86400000)∧ -10000≤x.eI.Lo∧x.eI.Lo≤x.eI.Hi∧x.eI.Hi≤10000:=by
 have A:=h.sync i x hx
 exact ⟨⟨(N8 h.sync i x hx).1,A.1.2⟩,A.2⟩
theorem FP {d a b:Int} (hd:0≤d∧d≤1000) (ha:0≤a∧a≤90000000) (hb:0≤b∧b≤90000000):0≤d*max (a-b) (b-a)∧d*max (a-b) (b-a)≤90000000000:=by
 have:=QM (a:=d) (b:=max (a-b) (b-a)) (A:=1000) (B:=90000000) hd.1 hd.2 I I
 omega
theorem ux {c:ar} {at_:Int} {x:cz} (hd:0≤c.dw∧c.dw≤1000) (ha:0≤at_∧at_≤90000000) (hx:0≤x.At∧x.At≤86400000):0≤sI c at_ x∧sI c at_ x≤90001:=by
 have h:=FP hd ha (show 0≤x.At∧x.At≤90000000 by omega)
 unfold sI pk; omega
theorem Bj {c:ar} {at_:Int} (h:e_ c) (ha:0≤at_∧at_≤90000000): ∀ k:Nat,(-1099511627776≤(gG c at_ k).Lo∧(gG c at_ k).Lo≤10000)∧ -10000≤(gG c at_ k).Hi∧(gG c at_ k).Hi≤1099511627776:=by
 intro k
 induction k with
 |zero=>simp [gG]
 |succ k ih=>
  cases hx:c.bq[k]? with
  |none=>unfold gG at ih ⊢; rw [List.take_add_one,hx]; simpa using ih
  |some x=>
   have hb:=h.uq hx
   have ho:=ux h.rV ha hb.1
   rw [jW hx]
   unfold l3
   simp only
   omega
theorem qL {c:ar} {at_:Int} (h:e_ c) (ha:0≤at_∧at_≤90000000):(-110000≤(iz c at_).Lo∧(iz c at_).Lo≤10000)∧ -10000≤(iz c at_).Hi∧(iz c at_).Hi≤110000:=by
 obtain ⟨n,hn⟩: ∃ n,c.bq.length=n+1:=⟨c.bq.length-1,by have:=h.len; omega⟩
 have hx:c.bq[n]? =some (c.bq[n]'I):=eM I
 have hb:=h.uq hx
 have ho:=ux h.rV ha hb.1
 have A:=Bj h ha n
 rw [← nS (k:=n+1) I,jW hx]
 unfold l3
 simp only
 omega
/-- as time goes on, time and what a clock may be ahead, together, never go back -/
theorem DP {c:ar} (h:e_ c) {a b:Int} (ha:0≤a) (hab:a≤b) (hb:b≤90000000): ∀ k:Nat,(a+(gG c a k).Lo≤b+(gG c b k).Lo∨(gG c a k).Lo= -1099511627776)∧a+(gG c a k).Hi≤b+(gG c b k).Hi:=by
 have step: ∀ (x:cz),0≤x.At∧x.At≤86400000→ ∀ a b:Int,0≤a→a≤b→b≤90000000→sI c a x≤sI c b x+(b-a)∧sI c b x≤sI c a x+(b-a):=by
  intro x hx a b ha hab hb
  have hd:=h.rV
  have e: ∀ u v:Int,u≤v+1000000*(b-a)→pk u 1000000≤pk v 1000000+(b-a):=by intro u v C; unfold pk; omega
  have m: ∀ p q:Int,p≤q+(b-a)→c.dw*p≤c.dw*q+1000000*(b-a):=by
   intro p q A
   have D:c.dw*p≤c.dw*(q+(b-a)):=Int.mul_le_mul_of_nonneg_left A hd.1
   have E:c.dw*(q+(b-a))=c.dw*q+c.dw*(b-a):=Int.mul_add _ _ _
   have F:c.dw*(b-a)≤1000*(b-a):=Int.mul_le_mul_of_nonneg_right hd.2 I
   omega
  exact ⟨e _ _ (m _ _ I),e _ _ (m _ _ I)⟩
 intro k
 induction k with
 |zero=>simp [gG]; omega
 |succ k ih=>
  cases hx:c.bq[k]? with
  |none=>
   have e: ∀ t,gG c t (k+1)=gG c t k:=fun t=>by unfold gG; rw [List.take_add_one,hx]; simp
   rw [e,e]; exact ih
  |some x=>
   have hs:=h.uq hx
   have:=step x hs.1 a b ha hab hb
   have B:=ux (at_:=a) h.rV ⟨ha,I⟩ hs.1
   rw [jW hx,jW hx]
   unfold l3
   simp only
   omega
theorem oG {c:ar} (h:e_ c) {a b:Int} (ha:0≤a) (hab:a≤b) (hb:b≤90000000):a+(iz c a).Lo≤b+(iz c b).Lo∧a+(iz c a).Hi≤b+(iz c b).Hi:=by
 have A:=DP h ha hab hb c.bq.length
 have B:=qL h (at_:=a) ⟨ha,I⟩
 rw [nS (Nat.le_refl _),nS (Nat.le_refl _)] at A
 omega
noncomputable def mg (l:aZ) (i:Nat):Int:=match l.ae[i]? with
 |some b=>if i=0 then (MT l.aM b.mR).Lo else (match l.ae[i-1]? with
  |some a=>(j4 l.aM a.mR b.mR).Lo
  |none=>0)
 |none=>0
theorem zM {l:aZ} {b:bH} (h:l.ae[0]? =some b):mg l 0=(MT l.aM b.mR).Lo:=by unfold mg; rw [h]; rfl
theorem Dl {l:aZ} {i:Nat} {a b:bH} (hi:0<i) (h:l.ae[i]? =some b) (ha:l.ae[i-1]? =some a):mg l i=(j4 l.aM a.mR b.mR).Lo:=by unfold mg; rw [h,ha]; simp only; rw [if_neg I]
def jV (l:aZ) (b:bH):Prop:=fy l.aM b.mR∧0≤b.j0∧b.j0<(l.ai.length:Int)
def gE (l:aZ):Prop:=(1≤l.gH∧l.gH≤5000)∧(1≤(l.ai.length:Int)∧(l.ai.length:Int)≤4)∧(1≤(l.ae.length:Int)∧(l.ae.length:Int)≤6)∧(0≤l.cr∧l.cr≤(l.ae.length:Int)-1)∧(0≤l.eh∧l.eh≤3)∧0≤l.cO∧l.cO≤3
structure lz (l:aZ):Prop where
 head:gE l
 clock: ∀ c∈l.ai,e_ c
 vK: ∀ b∈l.ae,jV l b
 Ry: ∀ i,i<l.ae.length→1≤mg l i
noncomputable instance (l:aZ):Decidable (lz l):=Classical.propDecidable _
noncomputable def dC (l:aZ):Int:=if c_ l.aM=true then (if lz l then 0 else 50) else 10
theorem yI {l:aZ} (h:c_ l.aM=false):dC l=10:=by unfold dC; rw [h]; rfl
theorem qN {l:aZ} (h:c_ l.aM=true) (h2: ¬ lz l):dC l=50:=by unfold dC; rw [if_pos h,if_neg h2]
theorem yh {l:aZ} (h:c_ l.aM=true) (h2:lz l):dC l=0:=by unfold dC; rw [if_pos h,if_pos h2]
theorem gR {l:aZ} (h:dC l=0):c_ l.aM=true∧lz l:=by
 unfold dC at h
 split at h
 ·split at h
  ·exact ⟨asm,asm⟩
  ·omega
 ·omega
theorem FF {l:aZ} (ht:c_ l.aM=true) (hb: ∀ b∈l.ae,jV l b) (i:Nat): -400000≤mg l i∧mg l i≤400000:=by
 have A:=kd ht
 have hl:=kN ht
 unfold mg
 cases h:l.ae[i]? with
 |none=>simp
 |some b=>
  have B:=(hb b (aT h)).1
  simp only
  split
  ·have:=Tt A hl B; omega
  ·cases h2:l.ae[i-1]? with
   |none=>simp
   |some a=>
    have C:=(hb a (aT h2)).1
    have:=x5 A hl C B
    simp only; omega
def pY (l:aZ) (s:aK):ar:=((l.ae[s.gu.toNat]?).bind fun b=>l.ai[b.j0.toNat]?).getD ⟨0,[]⟩
def gl (c:ar) (r t:Int):Bool:=decide (r≤t+(iz c t).Hi)
def gn (c:ar) (r t:Int):Bool:=decide (r<t+(iz c t).Lo)
noncomputable def qC (c:ar) (r:Int):aa:=⟨fz (gl c r) 86400001,fz (gn c r) 86400001-1⟩
noncomputable def cN (l:aZ) (s:aK):aa:=qC (pY l s) s.Read
noncomputable def ej (l:aZ) (i:Nat):Int:=pk (1000*mg l i) l.gH
end
section
open Go.RowKit
def Bg (n:Int):Int:=IntKind.i64.wrap n
theorem Ae {n:Int} (h:ql n):Bg n=n:=oi h
theorem Tx (n:Int): -9223372036854775808≤Bg n∧Bg n≤9223372036854775807:=by
 unfold Bg
 rw [IntKind.wrap_i64]
 omega
section
variable {P:Program} {t:TypeId} {x y:Operand} {a b:Int}
theorem Qy:iu P .add t x y (.int .i64 a) (.int .i64 b) (.int .i64 (Bg (a+b))):=fun w=>by simp [eqGuard_add,binOp_add,Op.intArith,Bg]
theorem JB:iu P .sub t x y (.int .i64 a) (.int .i64 b) (.int .i64 (Bg (a-b))):=fun w=>by simp [eqGuard_sub,binOp_sub,Op.intArith,Bg]
theorem PT:iu P .mul t x y (.int .i64 a) (.int .i64 b) (.int .i64 (Bg (a*b))):=fun w=>by simp [eqGuard_mul,binOp_mul,Op.intArith,Bg]
end
/-- divided, and rounded up, as it comes out -/
def Tl (n by_:Int):Int:=(Bg (Bg (n+by_)-1)).tdiv by_
theorem QY {a b:Int} (ha: -9223372036854775808≤a∧a≤9223372036854775807) (hb:2≤b):ql (a.tdiv b):=by
 have A:a.tdiv b=a/b+if a % b≠0∧a<0 then 1 else 0:=by
  rcases Int.lt_or_le a 0 with h|h
  ·rw [Int.tdiv_eq_ediv]
   have:b.sign=1:=Int.sign_eq_one_of_pos I
   rw [this]
   by_cases hd:b∣a
   ·have:a % b=0:=Int.emod_eq_zero_of_dvd hd
    simp [hd,this]
   ·have:a % b≠0:=fun e=>hd (Int.dvd_of_emod_eq_zero e)
    have hn: ¬ 0≤a:=by omega
    simp [hd,this,h,hn]
  ·rw [Int.tdiv_eq_ediv_of_nonneg h]
   have: ¬ a<0:=by omega
   simp [this]
 have B:a/b*b+a % b=a:=by rw [Int.mul_comm]; exact Int.mul_ediv_add_emod a b
 have C:0≤a % b:=Int.emod_nonneg _ I
 have D:a % b<b:=Int.emod_lt_of_pos _ I
 have E: -9223372036854775808≤a/b∧a/b≤4611686018427387904:=by
  constructor
  ·refine Int.le_ediv_of_mul_le I ?_
   have:(-9223372036854775808:Int)*b≤ -9223372036854775808*1:=Int.mul_le_mul_of_nonpos_left I I
   omega
  ·refine Int.ediv_le_of_le_mul I ?_
   have:(4611686018427387904:Int)*2≤4611686018427387904*b:=Int.mul_le_mul_of_nonneg_left hb I
   omega
 rw [A]
 unfold ql
 split<;>omega
theorem QF {n by_:Int} (h0:0≤n) (h1:n≤1000000000000000000) (hb:1≤by_∧by_≤1000000000000):Tl n by_=(n+by_-1)/by_:=by
 unfold Tl
 rw [Ae (show ql (n+by_) from ⟨I,I⟩),Ae (show ql (n+by_-1) from ⟨I,I⟩),Int.tdiv_eq_ediv_of_nonneg I]
end
section
def mj (c:ar) (i:Nat) (x:cz) (k:Nat):Prop:=fB c i x∧ ∀ (j:Nat) o,j<k→c.bq[j]? =some o→nP c x o
def su (c:ar) (n:Nat):Prop:= ∀ (i:Nat) x,i<n→c.bq[i]? =some x→mj c i x i
noncomputable instance (c:ar) (i:Nat) (x:cz) (k:Nat):Decidable (mj c i x k):=Classical.propDecidable _
instance (c:ar) (i:Nat) (x:cz):Decidable (fB c i x):=by unfold fB; infer_instance
theorem EZ {c:ar} {i:Nat} {x:cz}:mj c i x 0↔fB c i x:=⟨fun h=>h.1,fun h=>⟨h,fun j o hj=>by omega⟩⟩
theorem sN {c:ar} {i k:Nat} {x o:cz} (h:c.bq[k]? =some o):mj c i x (k+1)↔mj c i x k∧nP c x o:=by
 constructor
 ·intro hr
  exact ⟨⟨hr.1,fun j o' hj ho=>hr.2 j o' I ho⟩,hr.2 k o I h⟩
 ·rintro ⟨hr,hp⟩
  refine ⟨hr.1,fun j o' hj ho=>?_⟩
  by_cases e:j=k
  ·subst e; rw [h] at ho; cases ho; exact hp
  ·exact hr.2 j o' I ho
theorem Hy {c:ar}:su c 0:=fun i x hi=>by omega
theorem Hu {c:ar} {i:Nat} {x:cz} (h:su c i) (hx:c.bq[i]? =some x) (hr:mj c i x i):su c (i+1):=fun j y hj hy=>by
 by_cases e:j=i
 ·subst e; rw [hx] at hy; cases hy; exact hr
 ·exact h j y I hy
theorem KP {c:ar} {i:Nat} {x:cz} (hx:c.bq[i]? =some x) (h: ¬ mj c i x i): ¬ e_ c:=fun hc=>h ⟨hc.sync i x hx,fun j o hj ho=>hc.pair i j x o hx hj ho⟩
theorem GR {c:ar} (h1:0≤c.dw∧c.dw≤1000) (h2:1≤c.bq.length∧c.bq.length≤5) (h:su c c.bq.length):e_ c:=
 ⟨h1,h2,fun i x hx=>(h i x (aS.1 hx).1 hx).1,fun i k x o hx hk ho=>(h i x (aS.1 hx).1 hx).2 k o hk ho⟩
/-- syncs so far -/
theorem uk {c:ar} {n:Nat} (h: ∀ (i:Nat) x,i<n→c.bq[i]? =some x→fB c i x): ∀ (i:Nat) x,i<n→c.bq[i]? =some x→0≤x.At∧ ∀ (k:Nat) o,k<i→c.bq[k]? =some o→o.At<x.At:=by
 intro i
 induction i with
 |zero=>
  intro x hn hx
  have:=(h 0 x hn hx).1.1
  rw [gI rfl] at this
  exact ⟨I,fun k o hk=>by omega⟩
 |succ i ih=>
  intro x hn hx
  have hi:=(aS.1 hx).1
  have hy:c.bq[i]? =some (c.bq[i]'I):=eM I
  have B:=ih _ I hy
  have A:=(h (i+1) x hn hx).1.1
  rw [oE hy] at A
  refine ⟨I,fun k o hk ho=>?_⟩
  by_cases e:k=i
  ·subst e; rw [hy] at ho; cases ho; exact A
  ·have:=B.2 k o I ho; omega
theorem Mt {c:ar} {i:Nat} (hi:i≤c.bq.length) (h: ∀ (j:Nat) y,j<i→c.bq[j]? =some y→fB c j y): -1≤kp c i∧kp c i≤86400000:=by
 cases i with
 |zero=>rw [gI rfl]; omega
 |succ i=>
  have hy:c.bq[i]? =some (c.bq[i]'I):=eM I
  have A:=(uk (n:=i+1) h i _ I hy).1
  have B:=(h i _ I hy).1.2
  rw [oE hy]; omega
theorem QO {c:ar} {i:Nat} (hi:i≤c.bq.length) (h:su c i): -1≤kp c i∧kp c i≤86400000:=Mt hi fun j y hj hy=>(h j y hj hy).1
theorem uo {c:ar} {i k:Nat} {x o:cz} (hs: ∀ (j:Nat) y,j<i→c.bq[j]? =some y→fB c j y) (hx:c.bq[i]? =some x) (hok:fB c i x) (hk:k<i) (ho:c.bq[k]? =some o):
 (0≤o.At∧o.At<x.At∧x.At≤86400000)∧(-10000≤x.eI.Lo∧x.eI.Lo≤x.eI.Hi∧x.eI.Hi≤10000)∧ -10000≤o.eI.Lo∧o.eI.Lo≤o.eI.Hi∧o.eI.Hi≤10000:=by
 have h: ∀ (j:Nat) y,j<i+1→c.bq[j]? =some y→fB c j y:=fun j y hj hy=>by
  by_cases e:j=i
  ·subst e; rw [hx] at hy; cases hy; exact hok
  ·exact hs j y I hy
 have A:=(uk h i x I hx).2 k o hk ho
 have B:=(uk h k o I ho).1
 exact ⟨⟨B,A,hok.1.2⟩,hok.2,(h k o I ho).2⟩
theorem N6 {d a b:Int} (hd:0≤d∧d≤1000) (h:0≤b∧b<a∧a≤86400000):Tl (Bg (d*Bg (a-b))) 1000000=pk (d*(a-b)) 1000000:=by
 have C:0≤d*(a-b)∧d*(a-b)≤90000000000:=by
  have:=QM (a:=d) (b:=a-b) (A:=1000) (B:=90000000) hd.1 hd.2 I I
  omega
 rw [Ae (show ql (a-b) from ⟨I,I⟩),Ae (show ql (d*(a-b)) from ⟨I,I⟩),QF C.1 I I]
 rfl
/-- what is asked of a line, however wrong it is -/
structure er (l:aZ) (asl:List RA):Prop where
 sQ:l.aM.length≤1000000
 side: ∀ x∈l.aM,0≤x.jo∧x.jo≤255
 sr:l.ai.length≤1000000
 od:asl.length=l.ai.length
 sj:l.ae.length≤1000000
 RE: ∀ (k:Nat) m (a:RA),l.ai[k]? =some m→asl[k]? =some a→m.bq.length≤a.2∧m.bq.length≤1000000
noncomputable instance (l:aZ):Decidable (gE l):=by unfold gE; infer_instance
noncomputable instance (l:aZ) (b:bH):Decidable (jV l b):=Classical.propDecidable _
theorem zy {l:aZ} (h:gE l) (h2: ∀ c∈l.ai,e_ c) (h3: ∀ b∈l.ae,jV l b) (h4: ∀ i,i<l.ae.length→1≤mg l i):lz l:=⟨h,h2,h3,h4⟩
theorem En {l:aZ}:((!(l.ai.any fun m=> !decide (e_ m)))=true)↔ ∀ c∈l.ai,e_ c:=by simp
theorem G3 {l:aZ}:((!(l.ae.any fun b=> !decide (jV l b)))=true)↔ ∀ b∈l.ae,jV l b:=by simp
theorem kU {c:ar} (h:e_ c) {r x:Int} (h0:0≤x) (h1:x<86400001):
 (x<fz (gl c r) 86400001→gl c r x=false)∧(fz (gl c r) 86400001≤x→gl c r x=true)∧(x<fz (gn c r) 86400001→gn c r x=false)∧(fz (gn c r) 86400001≤x→gn c r x=true):=by
 have up: ∀ (q:Int→Bool),(∀ a b,0≤a→a≤b→b<86400001→q a=true→q b=true)→fz q 86400001≤x→q x=true:=fun q hq hx=>by
  have hb:=ik (p:=q) (n:=86400001)
  exact hq _ _ hb.1 hx h1 (zh I)
 refine ⟨uY h0,up _ fun a b ha A hb hq=>?_,uY h0,up _ fun a b ha A hb hq=>?_⟩
 ·have:=oG h ha A I
  simp only [gl,decide_eq_true_eq] at hq ⊢; omega
 ·have:=oG h ha A I
  simp only [gn,decide_eq_true_eq] at hq ⊢; omega
theorem wu {l:aZ} {s:aK} {b:bH} {c:ar} (hb:l.ae[s.gu.toNat]? =some b) (hc:l.ai[b.j0.toNat]? =some c):pY l s=c:=by
 unfold pY; rw [hb]; simp only [Option.bind_some]; rw [hc]; rfl
end
section
def mU (sg:List aK) (i:Nat):aK:=if i=0 then ⟨-1,0⟩ else (sg[i-1]?).getD ⟨-1,0⟩
theorem pW {sg:List aK} {i:Nat} {s:aK} (h:sg[i]? =some s):mU sg (i+1)=s:=by unfold mU; rw [if_neg I,Nat.add_sub_cancel,h]; rfl
def lk (l:aZ) (s:aK):Prop:=(0≤s.gu∧s.gu≤(l.ae.length:Int)-1)∧0≤s.Read∧s.Read≤86400000
def ko (l:aZ) (sg:List aK) (i:Nat) (s:aK):Prop:=lk l s∧ ¬ s.gu<(mU sg i).gu∧ ¬ (s.gu=(mU sg i).gu∧s.Read≤(mU sg i).Read)
def qJ (l:aZ) (sg:List aK) (i:Nat):Prop:= ∀ (j:Nat) s,j<i→sg[j]? =some s→ko l sg j s
structure fm (l:aZ) (r:cJ):Prop where
 time:0≤r.Start∧r.Start≤r.gk∧r.gk≤86400000
 len:r.ah.length≤10
 sig: ∀ (i:Nat) s,r.ah[i]? =some s→ko l r.ah i s
noncomputable instance (l:aZ) (r:cJ):Decidable (fm l r):=Classical.propDecidable _
theorem zm {l:aZ} {sg:List aK}:qJ l sg 0:=fun j s hj=>absurd hj (Nat.not_lt_zero _)
theorem l_ {l:aZ} {sg:List aK} {i:Nat} {s:aK} (h:qJ l sg i) (hs:sg[i]? =some s) (ho:ko l sg i s):qJ l sg (i+1):=fun j z hj hz=>by
 rcases Nat.lt_or_ge j i with q|q
 ·exact h j z q hz
 ·obtain rfl:j=i:=by omega
  rw [hs] at hz; cases hz; exact ho
theorem BC {l:aZ} {r:cJ} {i:Nat} (h1:0≤r.Start∧r.Start≤r.gk∧r.gk≤86400000) (h2:r.ah.length≤10) (h:qJ l r.ah i) (hi:r.ah.length≤i):fm l r:=
 ⟨h1,h2,fun j s hs=>h j s (by have:=(aS.1 hs).1; omega) hs⟩
noncomputable def n_ (l:aZ) (sg:List aK) (b k:Nat):Option (Int×aa):=(sg[k]?).bind fun s=>if s.gu=(b:Int)∧(cN l s).Lo≤(cN l s).Hi then some ((k:Int),cN l s) else none
noncomputable def kO (l:aZ) (sg:List aK) (i b:Nat):TM:=(List.range i).filterMap (n_ l sg b)
noncomputable def eo (l:aZ) (sg:List aK) (i:Nat):List TM:=(List.range l.ae.length).map (kO l sg i)
noncomputable def cQ (l:aZ) (n:Nat):List Int:=(List.range n).map (ej l)
theorem vj {l:aZ} {n:Nat}:cQ l (n+1)=cQ l n++[ej l n]:=by simp [cQ,List.range_succ]
theorem eC {l:aZ} {n:Nat}:(cQ l n).length=n:=by simp [cQ]
theorem jD {l:aZ} {sg:List aK} {i:Nat}:(eo l sg i).length=l.ae.length:=by simp [eo]
theorem oU {l:aZ} {sg:List aK} {i b:Nat} (h:b<l.ae.length):(eo l sg i)[b]? =some (kO l sg i b):=by simp [eo,h]
theorem pt {l:aZ} {sg:List aK} {b k:Nat} {q:Int×aa}:n_ l sg b k=some q↔ ∃ s,sg[k]? =some s∧(s.gu=(b:Int)∧(cN l s).Lo≤(cN l s).Hi)∧q=((k:Int),cN l s):=by
 unfold n_
 cases h:sg[k]? with
 |none=>simp
 |some s=>
  simp only [Option.bind_some,Option.some.injEq]
  by_cases e:s.gu=(b:Int)∧(cN l s).Lo≤(cN l s).Hi
  ·rw [if_pos e]
   constructor
   ·intro h; cases h; exact ⟨s,rfl,e,rfl⟩
   ·rintro ⟨s',rfl,_,rfl⟩; rfl
  ·rw [if_neg e]
   constructor
   ·intro h; cases h
   ·rintro ⟨s',rfl,e',_⟩; exact absurd e' e
theorem sk {l:aZ} {sg:List aK} {i b:Nat} {q:Int×aa}:q∈kO l sg i b↔ ∃ k,k<i∧ ∃ s,sg[k]? =some s∧(s.gu=(b:Int)∧(cN l s).Lo≤(cN l s).Hi)∧q=((k:Int),cN l s):=by
 unfold kO
 simp only [List.mem_filterMap,List.mem_range,pt]
theorem k6 {l:aZ} {sg:List aK} {i b:Nat}:kO l sg (i+1) b=kO l sg i b++(n_ l sg b i).toList:=by
 unfold kO
 rw [List.range_succ,List.filterMap_append]
 congr 1
theorem ET {l:aZ} {sg:List aK}:eo l sg 0=List.replicate l.ae.length []:=by
 unfold eo
 rw [List.eq_replicate_iff]
 refine ⟨sm,fun t ht=>?_⟩
 obtain ⟨b,_,rfl⟩:=bX.1 ht
 rfl
theorem w9 {l:aZ} {sg:List aK} {i:Nat} {s:aK} (hs:sg[i]? =some s) (h: ¬ (cN l s).Lo≤(cN l s).Hi):eo l sg (i+1)=eo l sg i:=by
 unfold eo
 apply List.map_congr_left
 intro b _
 rw [k6]
 have:n_ l sg b i=none:=by
  cases e:n_ l sg b i with
  |none=>rfl
  |some q=>obtain ⟨s',A,⟨_,B⟩,_⟩:=pt.1 e; rw [hs] at A; cases A; exact absurd B h
 rw [this]; simp
theorem za {l:aZ} {sg:List aK} {i:Nat} {s:aK} (hs:sg[i]? =some s) (hb:0≤s.gu∧s.gu≤(l.ae.length:Int)-1) (h:(cN l s).Lo≤(cN l s).Hi) {x:TM} (hx:(eo l sg i)[s.gu.toNat]? =some x):
 (eo l sg i).set s.gu.toNat (dW x (i:Int) (cN l s))=eo l sg (i+1):=by
 have A:s.gu.toNat<l.ae.length:=by omega
 rw [oU A] at hx
 cases hx
 have B:dW (kO l sg i s.gu.toNat) (i:Int) (cN l s)=kO l sg (i+1) s.gu.toNat:=by
  have hn:(kO l sg i s.gu.toNat).lookup (i:Int)=none:=gU.2 fun p hp e=>by
   obtain ⟨k,hk,_,_,_,rfl⟩:=sk.1 hp
   simp only at e; omega
  have ho:n_ l sg s.gu.toNat i=some ((i:Int),cN l s):=pt.2 ⟨s,hs,⟨I,h⟩,rfl⟩
  rw [k6,ho]
  unfold dW; rw [hn]; rfl
 rw [B]
 apply List.ext_getElem?
 intro b
 rw [List.getElem?_set]
 by_cases e:s.gu.toNat=b
 ·rw [if_pos e,jD,← e,if_pos A,oU A]
 ·rw [if_neg e]
  by_cases hb':b<l.ae.length
  ·rw [oU hb',oU hb',k6]
   have:n_ l sg b i=none:=by
    cases e2:n_ l sg b i with
    |none=>rfl
    |some q=>obtain ⟨s',C,⟨D,_⟩,_⟩:=pt.1 e2; rw [hs] at C; cases C; exact absurd I e
   rw [this]; simp
  ·rw [List.getElem?_eq_none (by rw [jD]; omega),List.getElem?_eq_none (by rw [jD]; omega)]
noncomputable def cu (l:aZ) (r:cJ):bR:=⟨r.Start,r.gk,cQ l l.ae.length,eo l r.ah r.ah.length,l.cO,l.eh,(r.ah.length:Int)⟩
theorem JI {l:aZ} (ht:c_ l.aM=true) (h:lz l) {i:Nat} (hi:i<l.ae.length):1≤ej l i∧ej l i≤500000000:=by
 have A:=FF ht h.vK i
 have B:=h.Ry i hi
 have C:=h.head.1
 unfold ej pk
 refine ⟨(Int.le_ediv_iff_mul_le I).2 I,?_⟩
 have:(1000*mg l i+l.gH-1)/l.gH≤1000*mg l i+l.gH-1:=Int.ediv_le_self _ I
 omega
theorem MZ (l:aZ) (s:aK):0≤(cN l s).Lo∧(cN l s).Hi≤86400000:=by
 have A:=ik (p:=gl (pY l s) s.Read) (n:=86400001)
 have B:=ik (p:=gn (pY l s) s.Read) (n:=86400001)
 unfold cN qC
 simp only
 omega
theorem pc {l:aZ} {r:cJ} (ht:c_ l.aM=true) (h:lz l) (hr:fm l r):Il (cu l r):=by
 have hh:=h.head
 unfold gE at hh
 refine ⟨?_,by simp [cu,jD,bR.n,eC],hr.time,fun x hx=>?_,fun t A p hp=>?_⟩
 ·show (cQ l l.ae.length).length≤6
  rw [eC]; omega
 ·obtain ⟨i,hi,rfl⟩:=bX.1 hx
  exact JI ht h (List.mem_range.1 hi)
 ·obtain ⟨b,hb,rfl⟩:=bX.1 A
  obtain ⟨k,hk,s,hs,⟨_,B⟩,rfl⟩:=sk.1 hp
  have C:=MZ l s
  have D:=hr.len
  simp only
  omega
noncomputable def eJ (l:aZ) (r:cJ) (me:Int):Int:=if dC l=0 then (if fm l r then (if me=0 then (if jP (cu l r)=[] then 8 else 0) else me) else 51) else dC l
theorem ox {l:aZ} {r:cJ} {me:Int} (h: ¬ dC l=0):eJ l r me=dC l:=if_neg h
theorem jt {l:aZ} {r:cJ} {me:Int} (h:dC l=0) (h2: ¬ fm l r):eJ l r me=51:=by unfold eJ; rw [if_pos h,if_neg h2]
theorem qn {l:aZ} {r:cJ} {me:Int} (h:dC l=0) (h2:fm l r) (h3: ¬ me=0):eJ l r me=me:=by unfold eJ; rw [if_pos h,if_pos h2,if_neg h3]
theorem pI {l:aZ} {r:cJ} {me:Int} (h:dC l=0) (h2:fm l r) (h3:me=0) (h4:jP (cu l r)=[]):eJ l r me=8:=by unfold eJ; rw [if_pos h,if_pos h2,if_pos h3,if_pos h4]
theorem l7 {l:aZ} {r:cJ} {me:Int} (h:dC l=0) (h2:fm l r) (h3:me=0) (h4: ¬ jP (cu l r)=[]):eJ l r me=0:=by unfold eJ; rw [if_pos h,if_pos h2,if_pos h3,if_neg h4]
theorem kb {l:aZ} {r:cJ} {me:Int} (h:eJ l r me=0):dC l=0∧fm l r∧me=0∧ ¬ jP (cu l r)=[]:=by
 unfold eJ at h
 split at h
 ·split at h
  ·split at h
   ·split at h
    ·omega
    ·exact ⟨asm,asm,asm,asm⟩
   ·omega
  ·omega
 ·omega
end
section
def yg (l:List Int):Int:=(l.drop 1).foldl min (l.headD 0)
def D6 (l:List Int):Int:=(l.drop 1).foldl max (l.headD 0)
theorem Ct: ∀ (l:List Int) (a:Int),(l.foldl min a=a∨l.foldl min a∈l)∧l.foldl min a≤a∧ ∀ x∈l,l.foldl min a≤x
 |[],a=>⟨.inl rfl,sm,sm⟩
 |y::l,a=>by
  obtain ⟨A,C,B⟩:=Ct l (min a y)
  simp only [List.foldl_cons]
  refine ⟨?_,I,?_⟩
  ·rcases A with A|A
   ·rw [A]
    rcases Int.le_total a y with q|q
    ·left; omega
    ·right; rw [show min a y=y by omega]; simp
   ·right; exact cV _ A
  ·intro x hx
   rcases bx.1 hx with rfl|hx
   ·omega
   ·exact B x hx
theorem Bm: ∀ (l:List Int) (a:Int),(l.foldl max a=a∨l.foldl max a∈l)∧a≤l.foldl max a∧ ∀ x∈l,x≤l.foldl max a
 |[],a=>⟨.inl rfl,sm,sm⟩
 |y::l,a=>by
  obtain ⟨A,C,B⟩:=Bm l (max a y)
  simp only [List.foldl_cons]
  refine ⟨?_,I,?_⟩
  ·rcases A with A|A
   ·rw [A]
    rcases Int.le_total a y with q|q
    ·right; rw [show max a y=y by omega]; simp
    ·left; omega
   ·right; exact cV _ A
  ·intro x hx
   rcases bx.1 hx with rfl|hx
   ·omega
   ·exact B x hx
theorem GL {l:List Int} (h:l≠[]):yg l∈l∧ ∀ x∈l,yg l≤x:=by
 cases l with
 |nil=>exact absurd rfl h
 |cons y ys=>
  obtain ⟨A,B,C⟩:=Ct ys y
  refine ⟨?_,fun x hx=>?_⟩
  ·rcases A with A|A
   ·simp [yg,A]
   ·exact cV _ (by simpa [yg] using A)
  ·rcases bx.1 hx with rfl|hx
   ·simpa [yg] using B
   ·simpa [yg] using C x hx
theorem O6 {l:List Int} (h:l≠[]):D6 l∈l∧ ∀ x∈l,x≤D6 l:=by
 cases l with
 |nil=>exact absurd rfl h
 |cons y ys=>
  obtain ⟨A,B,C⟩:=Bm ys y
  refine ⟨?_,fun x hx=>?_⟩
  ·rcases A with A|A
   ·simp [D6,A]
   ·exact cV _ (by simpa [D6] using A)
  ·rcases bx.1 hx with rfl|hx
   ·simpa [D6] using B
   ·simpa [D6] using C x hx
noncomputable def lv (l:aZ) (r:cJ):List Int:=if eJ l r 0=0 then jP (cu l r) else []
theorem lY {l:aZ} {r:cJ} (h:eJ l r 0=0):lv l r=jP (cu l r):=if_pos h
theorem uJ {l:aZ} {r:cJ} (h: ¬ eJ l r 0=0):lv l r=[]:=if_neg h
theorem uZ {l:aZ} {r:cJ} (h:eJ l r 0=0):lv l r≠[]:=by rw [lY h]; exact (kb h).2.2.2
noncomputable def Eo (l:aZ) (r:cJ):Int:=if eJ l r 0=0 then (if l.cr<yg (lv l r) then 2 else if D6 (lv l r)≤l.cr then 0 else 1) else 0
noncomputable def jO (l:aZ) (b:Int):Int:=if 0≤b∧b≤(l.ae.length:Int)-1 then 0 else 2
theorem wS {l:aZ} {b:Int} (h:0≤b∧b≤(l.ae.length:Int)-1):jO l b=0:=if_pos h
theorem DK {l:aZ} {b:Int} (h:jO l b=0):0≤b∧b≤(l.ae.length:Int)-1:=by
 unfold jO at h
 split at h
 ·assumption
 ·omega
noncomputable def mG (l:aZ) (r:cJ) (b:Nat):aa:=vp (mD (cu l r) b)
noncomputable def eW (l:aZ) (r:cJ) (b:Int):Int:=if eJ l r (jO l b)=0 then (if mG l r b.toNat=mM then 6 else 0) else eJ l r (jO l b)
noncomputable def e9 (l:aZ) (r:cJ) (b:Int):aa:=if eW l r b=0 then mG l r b.toNat else dH
theorem nF {l:aZ} {r:cJ} {b:Int} (h: ¬ eJ l r (jO l b)=0):eW l r b=eJ l r (jO l b)∧e9 l r b=dH:=by
 have e:eW l r b=eJ l r (jO l b):=if_neg h
 exact ⟨e,by unfold e9; rw [if_neg (by rw [e]; exact h)]⟩
theorem qy {l:aZ} {r:cJ} {b:Nat} (h:eJ l r (jO l b)=0) (h2:mG l r b=mM):eW l r b=6∧e9 l r b=dH:=by
 have e:eW l r b=6:=by unfold eW; rw [if_pos h,Int.toNat_natCast,if_pos h2]
 exact ⟨e,by unfold e9; rw [if_neg (by rw [e]; omega)]⟩
theorem oF {l:aZ} {r:cJ} {b:Nat} (h:eJ l r (jO l b)=0) (h2: ¬ mG l r b=mM):eW l r b=0∧e9 l r b=mG l r b:=by
 have e:eW l r b=0:=by unfold eW; rw [if_pos h,Int.toNat_natCast,if_neg h2]
 exact ⟨e,by unfold e9; rw [if_pos e,Int.toNat_natCast]⟩
theorem Jy {w:bR} (h:Il w) {b:Nat} {q:Int×aa} (hq:q∈mD w b):0≤q.2.Lo∧q.2.Lo≤q.2.Hi∧q.2.Hi≤86400000:=by
 have A:=nc hq
 obtain ⟨o,ho,p,hp,u,hu,e⟩:=ij.1 hq
 obtain ⟨_,_,rfl⟩:=jw.1 e
 have B:=h.opt ho
 simp only [jF] at A ⊢
 omega
theorem xB {l:aZ} {r:cJ} {b:Int} (h:eW l r b=0):0≤(e9 l r b).Lo∧(e9 l r b).Lo≤(e9 l r b).Hi∧(e9 l r b).Hi≤86400000:=by
 have ho:eJ l r (jO l b)=0:=by
  by_cases e:eJ l r (jO l b)=0
  ·exact e
  ·rw [(nF e).1] at h; exact absurd h e
 obtain ⟨B,C,_⟩:=kb ho
 obtain ⟨ht,A⟩:=gR B
 have hw:=pc ht A C
 have hv:e9 l r b=mG l r b.toNat:=by unfold e9; rw [if_pos h]
 have hn:mG l r b.toNat≠mM:=fun e=>by unfold eW at h; rw [if_pos ho,if_pos e] at h; omega
 have hh:=uB (l:=mD (cu l r) b.toNat) fun q hq=>nc hq
 rw [hv]
 unfold mG at hn ⊢
 rcases hh with ⟨_,e⟩|hh
 ·exact absurd e hn
 ·obtain ⟨x,hx,ex⟩:=hh.lo
  obtain ⟨y,hy,ey⟩:=hh.hi
  have:=Jy hw hx
  have:=Jy hw hy
  have:=hh.le
  omega
noncomputable def Ax (l:aZ) (r:cJ):aa:=if eW l r l.cr=0 then ⟨(e9 l r l.cr).Lo-r.Start,(e9 l r l.cr).Hi-r.Start⟩ else dH
theorem z5 {l:aZ} {r:cJ} (h:eW l r l.cr=0):Ax l r=⟨(e9 l r l.cr).Lo-r.Start,(e9 l r l.cr).Hi-r.Start⟩:=if_pos h
theorem Fb {l:aZ} {r:cJ} (h: ¬ eW l r l.cr=0):Ax l r=dH:=if_neg h
theorem u_ {l:aZ} {r:cJ} {b:Int} (h:eW l r b=0):fm l r:=by
 by_cases e:eJ l r (jO l b)=0
 ·exact (kb e).2.1
 ·rw [(nF e).1] at h; exact absurd h e
theorem zi {k:List (Int×aa)} {h:aa} {q:Int×aa} {z:aa} (hh:kv k h) (hq:q.2.Lo≤q.2.Hi) (hz:mK h q.2=z):kv (k++[q]) z:=by subst hz; exact uv hh hq
end
section
set_option maxRecDepth 20000
def Un:al:=⟨1,⟨10000,10200⟩,⟨0,100⟩,⟨0,0⟩,0,0⟩
def yq:ar:=⟨100,[⟨0,⟨0,2⟩⟩,⟨100000,⟨5,6⟩⟩]⟩
def Rz (o:Int):bH:=⟨⟨0,⟨o,o⟩⟩,0⟩
def oe (f:Int):aZ:=⟨[Un],2000,[yq],[Rz 1000,Rz 4000,Rz 9000],1,f,1⟩
def mQ:cJ:=⟨10000,20000,[⟨0,10600⟩,⟨0,11000⟩,⟨1,12600⟩]⟩
theorem K7:c_ [Un]=true:=by decide
theorem xd:e_ yq:=by
 have hi: ∀ (i:Nat) (x:cz),yq.bq[i]? =some x→i=0∧x=⟨0,⟨0,2⟩⟩∨i=1∧x=⟨100000,⟨5,6⟩⟩:=fun i x h=>by
  match i with
  |0=>left; simp [yq] at h; exact ⟨rfl,h.symm⟩
  |1=>right; simp [yq] at h; exact ⟨rfl,h.symm⟩
  |n+2=>simp [yq] at h
 refine ⟨dc,dc,fun i x hx=>?_,fun i k x o hx hk ho=>?_⟩
 ·rcases hi i x hx with ⟨rfl,rfl⟩|⟨rfl,rfl⟩<;>(unfold fB; decide)
 ·rcases hi i x hx with ⟨rfl,rfl⟩|⟨rfl,rfl⟩
  ·omega
  ·rcases hi k o ho with ⟨rfl,rfl⟩|⟨rfl,rfl⟩
   ·unfold nP; decide
   ·omega
theorem Ag {o:Int} (h:0≤o∧o<10000):fy [Un] ⟨0,⟨o,o⟩⟩:=⟨sm,Un,rfl,by show o≤o∧0≤o∧o≤10000-1; omega⟩
theorem Np {f:Int} (hf:0≤f∧f≤3):lz (oe f):=by
 refine ⟨?_,fun c hc=>?_,fun b hb=>?_,fun i hi=>?_⟩
 ·unfold gE; simp [oe]; omega
 ·simp [oe] at hc; subst hc; exact xd
 ·simp [oe] at hb
  rcases hb with rfl|rfl|rfl
  ·exact ⟨Ag I,by simp [Rz,oe]⟩
  ·exact ⟨Ag I,by simp [Rz,oe]⟩
  ·exact ⟨Ag I,by simp [Rz,oe]⟩
 ·have A:i<3:=hi
  have:i=0∨i=1∨i=2:=by omega
  rcases this with rfl|rfl|rfl
  ·show (1:Int)≤mg (oe 0) 0; decide
  ·show (1:Int)≤mg (oe 0) 1; decide
  ·show (1:Int)≤mg (oe 0) 2; decide
def m_:aZ:=oe 1
theorem PH:dC m_=0:=yh K7 (Np I)
theorem Am {r x:Int} (h0:0<x) (h1:x≤86400000) (hy:gl yq r x=true) (hn:gl yq r (x-1)=false):fz (gl yq r) 86400001=x:=
 zz I I hy fun z hz A=>by
  cases e:gl yq r z with
  |false=>rfl
  |true=>
   unfold gl at e hn
   have:=(oG xd hz (show z≤x-1 by omega) I).2
   have B:=of_decide_eq_true e
   have C:=of_decide_eq_false hn
   omega
theorem Ao {r x:Int} (h0:0<x) (h1:x≤86400000) (hy:gn yq r x=true) (hn:gn yq r (x-1)=false):fz (gn yq r) 86400001=x:=
 zz I I hy fun z hz A=>by
  cases e:gn yq r z with
  |false=>rfl
  |true=>
   unfold gn at e hn
   have:=(oG xd hz (show z≤x-1 by omega) I).1
   have B:=of_decide_eq_true e
   have C:=of_decide_eq_false hn
   omega
theorem TL:qC yq 10600=⟨10596,10602⟩:=by unfold qC; rw [Am (x:=10596) I I dc dc,Ao (x:=10603) I I dc dc]; rfl
theorem Ul:qC yq 11000=⟨10996,11002⟩:=by unfold qC; rw [Am (x:=10996) I I dc dc,Ao (x:=11003) I I dc dc]; rfl
theorem T3:qC yq 12600=⟨12596,12602⟩:=by unfold qC; rw [Am (x:=12596) I I dc dc,Ao (x:=12603) I I dc dc]; rfl
def SQ (f:Int):bR:=⟨10000,20000,[500,1500,2500],[[(0,⟨10596,10602⟩),(1,⟨10996,11002⟩)],[(2,⟨12596,12602⟩)],[]],1,f,3⟩
theorem TI (f:Int):cN (oe f) ⟨0,10600⟩=⟨10596,10602⟩:=TL
theorem Ua (f:Int):cN (oe f) ⟨0,11000⟩=⟨10996,11002⟩:=Ul
theorem RN (f:Int):cN (oe f) ⟨1,12600⟩=⟨12596,12602⟩:=T3
theorem LZ (f:Int):eo (oe f) mQ.ah 3=[[(0,⟨10596,10602⟩),(1,⟨10996,11002⟩)],[(2,⟨12596,12602⟩)],[]]:=by
 have o: ∀ b:Nat,kO (oe f) mQ.ah 3 b=(n_ (oe f) mQ.ah b 0).toList++((n_ (oe f) mQ.ah b 1).toList++(n_ (oe f) mQ.ah b 2).toList):=fun b=>by
  rw [k6,k6,k6]; simp [kO]
 have A: ∀ b:Nat,n_ (oe f) mQ.ah b 0=if (0:Int)=(b:Int) then some (0,⟨10596,10602⟩) else none:=fun b=>by
  show (if (0:Int)=(b:Int)∧(cN (oe f) ⟨0,10600⟩).Lo≤(cN (oe f) ⟨0,10600⟩).Hi then some ((0:Int),cN (oe f) ⟨0,10600⟩) else none)=_
  rw [TI]; by_cases h:(0:Int)=(b:Int)
  ·rw [if_pos h,if_pos ⟨h,dc⟩]<;>rfl
  ·rw [if_neg h,if_neg fun q=>h q.1]
 have B: ∀ b:Nat,n_ (oe f) mQ.ah b 1=if (0:Int)=(b:Int) then some (1,⟨10996,11002⟩) else none:=fun b=>by
  show (if (0:Int)=(b:Int)∧(cN (oe f) ⟨0,11000⟩).Lo≤(cN (oe f) ⟨0,11000⟩).Hi then some ((1:Int),cN (oe f) ⟨0,11000⟩) else none)=_
  rw [Ua]; by_cases h:(0:Int)=(b:Int)
  ·rw [if_pos h,if_pos ⟨h,dc⟩]<;>rfl
  ·rw [if_neg h,if_neg fun q=>h q.1]
 have C: ∀ b:Nat,n_ (oe f) mQ.ah b 2=if (1:Int)=(b:Int) then some (2,⟨12596,12602⟩) else none:=fun b=>by
  show (if (1:Int)=(b:Int)∧(cN (oe f) ⟨1,12600⟩).Lo≤(cN (oe f) ⟨1,12600⟩).Hi then some ((2:Int),cN (oe f) ⟨1,12600⟩) else none)=_
  rw [RN]; by_cases h:(1:Int)=(b:Int)
  ·rw [if_pos h,if_pos ⟨h,dc⟩]<;>rfl
  ·rw [if_neg h,if_neg fun q=>h q.1]
 show [kO (oe f) mQ.ah 3 0,kO (oe f) mQ.ah 3 1,kO (oe f) mQ.ah 3 2]=_
 rw [o,o,o,A,A,A,B,B,B,C,C,C]
 rfl
theorem C9 (f:Int):cu (oe f) mQ=SQ f:=by
 unfold cu SQ
 rw [show mQ.ah.length=3 from rfl,LZ]
 rfl
theorem OE (f:Int):fm (oe f) mQ:=by
 refine ⟨dc,dc,fun i s hs=>?_⟩
 match i with
 |0=>simp [mQ] at hs; subst hs; unfold ko lk; simp [oe,mU]
 |1=>simp [mQ] at hs; subst hs; unfold ko lk; simp [oe,mU,mQ]
 |2=>simp [mQ] at hs; subst hs; unfold ko lk; simp [oe,mU,mQ]
 |n+3=>simp [mQ] at hs
theorem Kv:jP (cu m_ mQ)=[2,3]:=by rw [show cu m_ mQ=SQ 1 from C9 1]; decide
theorem IZ:eJ m_ mQ 0=0:=l7 PH (OE 1) rfl (by rw [Kv]; decide)
theorem Lt {b:Nat} (hb:b<3):eJ m_ mQ (jO m_ b)=0:=by rw [wS (by show 0≤(b:Int)∧(b:Int)≤3-1; omega)]; exact IZ
theorem OY {b:Nat} {z:aa} (hb:b<3) (hz:vp (mD (SQ 1) b)=z) (hn:z≠mM):eW m_ mQ b=0∧e9 m_ mQ b=z:=by
 have e:mG m_ mQ b=z:=by unfold mG; rw [show cu m_ mQ=SQ 1 from C9 1]; exact hz
 have h:=oF (Lt hb) (by rw [e]; exact hn)
 exact ⟨h.1,h.2.trans e⟩
theorem w7:eW m_ mQ 1=0∧e9 m_ mQ 1=⟨12596,12602⟩:=OY (b:=1) I dc dc
theorem EN:eW m_ mQ m_.cr=0∧Ax m_ mQ=⟨2596,2602⟩:=by
 refine ⟨w7.1,?_⟩
 rw [z5 (l:=m_) (r:=mQ) w7.1]
 rw [show e9 m_ mQ m_.cr=⟨12596,12602⟩ from w7.2]
 rfl
theorem Th (f:Int) {a:OA} {c:Nat} (hc:2≤c):er (oe f) [(a,c)]:=by
 refine ⟨by simp [oe],?_,by simp [oe],U,by simp [oe],fun k m a' hm ha=>?_⟩
 ·intro x hx; simp [oe] at hx; subst hx; simp [Un]
 ·match k with
  |0=>simp [oe] at hm ha; subst hm; subst ha; simp [yq]; exact hc
  |n+1=>simp at ha
end
section
def lW (l:aZ):Prop:=(20<(l.aM.length:Int)∨8<(l.ai.length:Int)∨10<(l.ae.length:Int))∨ ∃ c∈l.ai,10<(c.bq.length:Int)
noncomputable instance (l:aZ):Decidable (lW l):=Classical.propDecidable _
/-- what is asked of a line that comes in -/
structure sY (l:aZ) (az:List RA):Prop where
 sQ:l.aM.length≤9223372036854775807
 side: ∀ x∈l.aM,0≤x.jo∧x.jo≤255
 sr:l.ai.length≤9223372036854775807
 od:az.length=l.ai.length
 sj:l.ae.length≤9223372036854775807
 RE: ∀ (k:Nat) m (a:RA),l.ai[k]? =some m→az[k]? =some a→m.bq.length≤a.2∧m.bq.length≤9223372036854775807
def Aq (l:aZ) (i:Nat):Prop:= ∀ (j:Nat) c,j<i→l.ai[j]? =some c→(c.bq.length:Int)≤10
theorem IH {l:aZ} {i:Nat} (h: ¬ (20<(l.aM.length:Int))∧ ¬ (8<(l.ai.length:Int))∧ ¬ (10<(l.ae.length:Int))) (hi:l.ai.length≤i) (hs:Aq l i): ¬ lW l:=by
 rintro (A|⟨c,hc,B⟩)
 ·omega
 ·obtain ⟨k,hk⟩:=List.getElem?_of_mem hc
  have:=hs k c (by have:=(aS.1 hk).1; omega) hk
  omega
theorem JF {l:aZ} {i:Nat} {c:ar} (hc:l.ai[i]? =some c) (h:10<(c.bq.length:Int)):lW l:= .inr ⟨c,aT hc,h⟩
theorem lP {α:Type} {l:List α} {P:Nat→α→Prop} {i:Nat} {x:α} (h: ∀ (j:Nat) y,j<i→l[j]? =some y→P j y) (hx:l[i]? =some x) (hp:P i x): ∀ (j:Nat) y,j<i+1→l[j]? =some y→P j y:=fun j y hj hy=>by
 by_cases e:j=i
 ·subst e; rw [hx] at hy; cases hy; exact hp
 ·exact h j y I hy
theorem wk {α:Type} {l:List α} {P:Nat→α→Prop} {i:Nat} (hi:l.length≤i) (h: ∀ (j:Nat) y,j<i→l[j]? =some y→P j y): ∀ (j:Nat) y,l[j]? =some y→P j y:=fun j y hy=>h j y (by have:=(aS.1 hy).1; omega) hy
theorem yi {α:Type} {l:List α} {P:α→Prop} {i:Nat} (hi:l.length≤i) (h: ∀ (j:Nat) y,j<i→l[j]? =some y→P y): ∀ y∈l,P y:=fun y hy=>by
 obtain ⟨k,hk⟩:=List.getElem?_of_mem hy
 exact wk (P:=fun _ y=>P y) hi h k y hk
theorem Cy {l:aZ} (h: ¬ lW l):(l.aM.length:Int)≤20∧(l.ai.length:Int)≤8∧(l.ae.length:Int)≤10∧ ∀ c∈l.ai,(c.bq.length:Int)≤10:=by
 unfold lW at h
 rw [not_or] at h
 refine ⟨I,I,I,fun c hc=>?_⟩
 have:=h.2
 rcases Int.lt_or_le 10 (c.bq.length:Int) with q|q
 ·exact absurd ⟨c,hc,q⟩ this
 ·exact q
theorem sY.small {l:aZ} {az:List RA} (h:sY l az) (hg: ¬ lW l):er l az:=by
 have A:=Cy hg
 exact ⟨I,h.side,I,h.od,I,fun k m a hm ha=>⟨(h.RE k m a hm ha).1,by have:=A.2.2.2 m (aT hm); omega⟩⟩
def Fy (c:ar) (x:cz) (k:Nat):Prop:= ∀ (j:Nat) o,j<k→c.bq[j]? =some o→nP c x o
def tp (c:ar) (m:Nat):Prop:= ∀ (i:Nat) x,i<m→c.bq[i]? =some x→Fy c x i
theorem Mr {c:ar} {m:Nat} (h1:0≤c.dw∧c.dw≤1000) (h2:1≤c.bq.length∧c.bq.length≤5) (hs: ∀ (i:Nat) x,c.bq[i]? =some x→fB c i x) (hm:c.bq.length≤m) (hp:tp c m):e_ c:=
 ⟨h1,h2,hs,fun i k x o hx hk ho=>hp i x (by have:=(aS.1 hx).1; omega) hx k o hk ho⟩
theorem Eg {c:ar} {m k:Nat} (h:tp c m) (hk: ∀ y,c.bq[m]? =some y→Fy c y k) (e:k=m):tp c (m+1):=by
 subst e
 intro i x hi hx
 by_cases e:i=k
 ·subst e; exact hk x hx
 ·exact h i x I hx
noncomputable def kP (c:ar) (at_:Int) (i:Nat):aa:=if i=0 then dH else gG c at_ i
theorem Fa {c:ar} {at_:Int} {i:Nat} (h:e_ c) (hi:c.bq.length≤i):kP c at_ i=iz c at_:=by
 have:=h.len
 unfold kP; rw [if_neg I,nS hi]
theorem AP {c:ar} {at_:Int} {i:Nat} {x:cz} (h:e_ c) (ha:0≤at_∧at_≤90000000) (hx:c.bq[i]? =some x) (hi:i=0):
 kP c at_ (i+1)=⟨max (x.eI.Lo-sI c at_ x) (x.eI.Lo-sI c at_ x),min (x.eI.Hi+sI c at_ x) (x.eI.Hi+sI c at_ x)⟩:=by
 subst hi
 have hb:=h.uq hx
 have ho:=ux h.rV ha hb.1
 unfold kP
 rw [if_neg I,jW hx]
 unfold l3 gG
 simp only [List.take_zero,List.foldl_nil,aa.mk.injEq]
 omega
theorem BK {c:ar} {at_:Int} {i:Nat} {x:cz} (hx:c.bq[i]? =some x) (hi: ¬ i=0):kP c at_ (i+1)=⟨max (kP c at_ i).Lo (x.eI.Lo-sI c at_ x),min (kP c at_ i).Hi (x.eI.Hi+sI c at_ x)⟩:=by
 unfold kP
 rw [if_neg I,if_neg hi,jW hx]; rfl
def hZ (ts:List al) (n:Nat):List aa:=(List.range n).map fun k=>eK ts 0 k
theorem CN {ts:List al} {n:Nat}:hZ ts (n+1)=hZ ts n++[eK ts 0 n]:=by simp [hZ,List.range_succ]
theorem oS {ts:List al} {n:Nat}:(hZ ts n).length=n:=by simp [hZ]
theorem pH {ts:List al} {n k:Nat} {x:aa} (h:(hZ ts n)[k]? =some x):x=eK ts 0 k:=by
 unfold hZ at h
 rw [fH] at h
 cases hk:(List.range n)[k]? with
 |none=>simp [hk] at h
 |some v=>
  have:=aS.1 hk
  simp at this
  simp [hk] at h
  rw [← h,← this.2]
theorem EW {ts:List al} {a b:cM} (h:b.a_<a.a_):j4 ts a b=ou (j4 ts b a):=by
 unfold j4
 rw [if_pos h,if_neg I]
 unfold wW
 rw [Int.min_comm b.a_ a.a_,Int.max_comm b.a_ a.a_]
 unfold ou mI
 simp only [aa.mk.injEq]
 omega
theorem qF {ts:List al} {a b:cM} (h: ¬ b.a_<a.a_):j4 ts a b=mI (mI (eK ts a.a_.toNat (b.a_-a.a_).toNat) b.mN) (ou a.mN):=by
 unfold j4 wW
 rw [if_neg h,Int.min_eq_left I,Int.max_eq_right I]
end
section
def iw (m:List aw) (a:cy):List au:=rd a.1.1 m.length 7 (List.zipWith aw.cells m a.2)::aU aw.g4 m a.2
structure PQ (h:List aw) (a:cy):Prop where
 len:h.length≤1000000
 od:a.2.length=h.length
 sig: ∀ d∈h,d.cv.ah.length≤1000000
structure eO (r:bT) (az:List RA) (ha:List cy):Prop where
 line:er r.ao az
 iI:r.aL.length≤1000000
 draw:r.bE.length≤12
 iH:r.an.length≤1000000
 has:ha.length=r.an.length
 nN: ∀ (k:Nat) h (a:cy),r.an[k]? =some h→ha[k]? =some a→PQ h a
structure rD (r:bT) (az:List RA) (ha:List cy):Prop where
 line:sY r.ao az
 iI:r.aL.length≤9223372036854775807
 draw:r.bE.length≤9223372036854775807
 iH:r.an.length≤9223372036854775807
 has:ha.length=r.an.length
 nN: ∀ (k:Nat) h (a:cy),r.an[k]? =some h→ha[k]? =some a→h.length≤9223372036854775807∧a.2.length=h.length∧ ∀ d∈h,d.cv.ah.length≤9223372036854775807
def oW (h:List aw):Prop:=8<(h.length:Int)∨ ∃ d∈h,15<(d.cv.ah.length:Int)
def nX (r:bT):Prop:=(lW r.ao∨8<(r.aL.length:Int)∨8<(r.bE.length:Int)∨5<(r.an.length:Int))∨ ∃ h∈r.an,oW h
noncomputable instance (r:bT):Decidable (nX r):=Classical.propDecidable _
theorem F4 {r:bT} (h: ¬ nX r): ¬ lW r.ao∧(r.aL.length:Int)≤8∧(r.bE.length:Int)≤8∧(r.an.length:Int)≤5∧ ∀ h∈r.an,(h.length:Int)≤8∧ ∀ d∈h,(d.cv.ah.length:Int)≤15:=by
 unfold nX at h
 obtain ⟨A,B⟩:=not_or.1 h
 obtain ⟨C,E⟩:=not_or.1 A
 refine ⟨C,I,I,I,fun x hx=>?_⟩
 have hn: ¬ oW x:=fun q=>B ⟨x,hx,q⟩
 obtain ⟨F,D⟩:=not_or.1 hn
 refine ⟨I,fun d hd=>?_⟩
 rcases Int.lt_or_le 15 (d.cv.ah.length:Int) with q|q
 ·exact absurd ⟨d,hd,q⟩ D
 ·exact q
theorem rD.small {r:bT} {az:List RA} {ha:List cy} (h:rD r az ha) (hg: ¬ nX r):eO r az ha:=by
 have B:=F4 hg
 refine ⟨h.line.small B.1,I,I,I,h.has,fun k x a hx A=>?_⟩
 have C:=B.2.2.2.2 x (aT hx)
 have D:=h.nN k x a hx A
 exact ⟨I,D.2.1,fun d hd=>by have:=C.2 d hd; omega⟩
def mB (r:cJ):Prop:=r.Start=0∧r.gk=0∧(r.ah.length:Int)=0
instance (r:cJ):Decidable (mB r):=by unfold mB; infer_instance
def iW (s:aa):Prop:=1≤s.Lo∧s.Lo≤s.Hi∧s.Hi≤600000
instance (s:aa):Decidable (iW s):=by unfold iW; infer_instance
def iy (l:aZ) (d:aw):Prop:=if d.Out=true then d.eU=false∧d.Time=dH∧mB d.cv else if d.eU=true then iW d.Time∧mB d.cv else eW l d.cv l.cr=0∧d.Time=dH
noncomputable instance (l:aZ) (d:aw):Decidable (iy l d):=Classical.propDecidable _
noncomputable def dI (l:aZ) (d:aw):aa:=if d.Out=true∨d.eU=true then d.Time else Ax l d.cv
/-- which kind a descent is of -/
def oP (d:aw):Int:=if d.Out=true then 0 else if d.eU=true then 1 else 2
theorem NR {w:bR} (h:Il w): ∀ (b:Nat) (p:aD×Int),p∈fwd w b→w.Start≤p.2:=by
 have hl: ∀ b,0≤bU w b:=fun b=>by
  unfold bU
  cases e:w.qb[b]? with
  |none=>simp
  |some x=>have:=h.least x (aT e); simp; omega
 intro b
 induction b with
 |zero=>intro p hp; simp only [fwd,bJ] at hp; subst hp; exact Int.le_refl _
 |succ b ih=>
  intro q hq
  obtain ⟨p,hp,o,ho,e⟩:=fU.1 hq
  unfold kT at e
  split at e
  ·simp only [Option.some.injEq] at e
   subst e
   have:=ih p hp
   have:=hl b
   simp only; omega
  ·cases e
theorem M8 {l:aZ} {r:cJ} {b:Int} (h:eW l r b=0):r.Start≤(e9 l r b).Lo:=by
 have ho:eJ l r (jO l b)=0:=by
  by_cases e:eJ l r (jO l b)=0
  ·exact e
  ·rw [(nF e).1] at h; exact absurd h e
 obtain ⟨B,C,_⟩:=kb ho
 obtain ⟨ht,A⟩:=gR B
 have hw:=pc ht A C
 have hv:e9 l r b=mG l r b.toNat:=by unfold e9; rw [if_pos h]
 have hn:mG l r b.toNat≠mM:=fun e=>by unfold eW at h; rw [if_pos ho,if_pos e] at h; omega
 have hh:=uB (l:=mD (cu l r) b.toNat) fun q hq=>nc hq
 rw [hv]
 unfold mG at hn ⊢
 rcases hh with ⟨_,e⟩|hh
 ·exact absurd e hn
 ·obtain ⟨x,hx,ex⟩:=hh.lo
  obtain ⟨o,ho,p,hp,u,hu,e⟩:=ij.1 hx
  obtain ⟨_,_,rfl⟩:=jw.1 e
  have D:r.Start≤p.2:=NR hw _ p hp
  have E:0≤bU (cu l r) b.toNat:=by
   unfold bU
   cases e:(cu l r).qb[b.toNat]? with
   |none=>simp
   |some x=>have:=hw.least x (aT e); simp; omega
  simp only [jF] at ex
  omega
theorem F1 {l:aZ} {d:aw} (h:iy l d):0≤(dI l d).Lo∧(dI l d).Lo≤(dI l d).Hi∧(dI l d).Hi≤86400000:=by
 unfold iy at h
 unfold dI
 split at h
 ·rename_i q; rw [if_pos (Or.inl q),h.2.1]; simp [dH]
 ·rename_i q
  split at h
  ·rename_i A
   rw [if_pos (Or.inr A)]
   obtain ⟨⟨B,C,D⟩,_⟩:=h
   omega
  ·rename_i A
   rw [if_neg (fun z=>z.elim q A),z5 h.1]
   have B:=xB h.1
   have C:=(u_ h.1).time
   have D:=M8 h.1
   simp only
   omega
theorem Gx {l:aZ} {d:aw} (h:d.Out=true):dI l d=d.Time:=if_pos (Or.inl h)
theorem Ab {l:aZ} {d:aw} (h:d.Out=false∧d.eU=true):dI l d=d.Time:=if_pos (Or.inr h.2)
theorem vV {l:aZ} {d:aw} (h:d.Out=false∧d.eU=false):dI l d=Ax l d.cv:=if_neg (by simp [h])
theorem qT {l:aZ} {d:aw} (h:d.Out=true):iy l d=(d.eU=false∧d.Time=dH∧mB d.cv):=if_pos h
theorem tF {l:aZ} {d:aw} (h:d.Out=false∧d.eU=true):iy l d=(iW d.Time∧mB d.cv):=by unfold iy; rw [if_neg (by simp [h]),if_pos h.2]
theorem sW {l:aZ} {d:aw} (h:d.Out=false∧d.eU=false):iy l d=(eW l d.cv l.cr=0∧d.Time=dH):=by unfold iy; rw [if_neg (by simp [h]),if_neg (by simp [h])]
structure eP (r:bT):Prop where
 num:1≤(r.aL.length:Int)∧(r.aL.length:Int)≤5
 sP:0≤r.gJ∧r.gJ≤5
 nh:1≤(r.an.length:Int)∧(r.an.length:Int)≤3
 ids: ∀ (i:Nat) x,r.aL[i]? =some x→(0≤x∧x≤9999)∧ ∀ y,0<i→r.aL[i-1]? =some y→y<x
 draw:r.bE.Perm ((List.range r.aL.length).map fun (k:Nat)=>(k:Int))
 nN: ∀ h∈r.an,h.length=r.aL.length∧ ∀ d∈h,iy r.ao d
noncomputable instance (r:bT):Decidable (eP r):=Classical.propDecidable _
noncomputable def cD (r:bT):Int:=if dC r.ao=0 then (if eP r then 0 else 60) else dC r.ao
end
section
theorem l6 {α β:Type} {f g:α→Option β}: ∀ {l:List α},(∀ x∈l,f x=g x)→l.filterMap f=l.filterMap g
 |[],_=>rfl
 |x::l,h=>by simp only [List.filterMap_cons,h x cm,l6 (l:=l) (fun y hy=>h y (cV _ hy))]
abbrev g8:=List (Int×aa)
/-- the sum of a sled in some heats, the first ones -/
noncomputable def ff (l:aZ) (hs:List (List aw)) (i:Nat):Nat→Option aa
 |0=>some ⟨0,0⟩
 |k+1=>match ff l hs i k,(hs[k]?).bind (·[i]?) with
  |some s,some d=>if d.Out=true then none else some ⟨s.Lo+(dI l d).Lo/10,s.Hi+(dI l d).Hi/10⟩
  |_,_=>none
noncomputable def eB (l:aZ) (hs:List (List aw)) (n h i:Nat):g8:=(List.range n).filterMap fun q=>(ff l hs q (if q<i then h+1 else h)).map fun s=>((q:Int),s)
noncomputable def dB (r:bT) (k:Nat):g8:=(List.range r.aL.length).filterMap fun q=>(ff r.ao r.an q k).map fun s=>((q:Int),s)
noncomputable def aG (r:bT):g8:=dB r r.an.length
section
variable {l:aZ} {hs:List (List aw)} {n h i q:Nat} {s:aa} {d:aw}
theorem Bk:eB l hs n h 0=(List.range n).filterMap fun q=>(ff l hs q h).map fun s=>((q:Int),s):=by
 unfold eB
 apply l6
 intro q _
 rw [if_neg (Nat.not_lt_zero _)]
theorem NX:eB l hs n h n=eB l hs n (h+1) 0:=by
 rw [Bk]
 unfold eB
 apply l6
 intro q hq
 rw [if_pos (List.mem_range.1 hq)]
theorem H4 {x:List aw} (hx:hs[h]? =some x) (hd:x[i]? =some d) (ho:d.Out=true):ff l hs i (h+1)=none:=by
 unfold ff
 rw [hx]
 simp only [Option.bind_some,hd]
 cases ff l hs i h with
 |none=>rfl
 |some s=>simp [ho]
theorem ED (h0:ff l hs i h=none):ff l hs i (h+1)=none:=by unfold ff; rw [h0]
theorem ES {x:List aw} (hx:hs[h]? =some x) (hd:x[i]? =some d) (ho: ¬ d.Out=true) (hs0:ff l hs i h=some s):ff l hs i (h+1)=some ⟨s.Lo+(dI l d).Lo/10,s.Hi+(dI l d).Hi/10⟩:=by
 unfold ff
 rw [hx,hs0]
 simp only [Option.bind_some,hd,if_neg ho]
end
section
variable {l:aZ} {hs:List (List aw)} {n h i q:Nat} {s t:aa}
theorem Ru {K β:Type} [DecidableEq K] {L Y:List (K×β)} {t:K}:(L++Y).lookup t=match L.lookup t with |some v=>some v|none=>Y.lookup t:=by
 induction L with
 |nil=>rfl
 |cons p L ih=>
  obtain ⟨k,u⟩:=p
  by_cases e:t==k
  ·simp [List.lookup,e]
  ·have:(t==k)=false:=by simpa using e
   simp only [List.cons_append,List.lookup,this,ih]
theorem nx {f:Nat→Option aa}: ∀ (n i:Nat),((List.range n).filterMap fun q=>(f q).map fun s=>((q:Int),s)).lookup (i:Int)=if i<n then f i else none
 |0,i=>by simp
 |n+1,i=>by
  rw [List.range_succ,List.filterMap_append,Ru,nx n i]
  by_cases c:i<n
  ·rw [if_pos c,if_pos I]
   cases e:f i with
   |some s=>rfl
   |none=>
    simp only
    cases e2:f n with
    |none=>simp [e2]
    |some u=>
     have:((i:Int)==(n:Int))=false:=by simp only [beq_eq_false_iff_ne,ne_eq]; omega
     simp [e2,List.lookup,this]
  ·rw [if_neg c]
   simp only
   by_cases A:i=n
   ·subst A
    rw [if_pos I]
    cases e2:f i with
    |none=>simp [e2]
    |some u=>simp [e2]
   ·rw [if_neg I]
    have:((i:Int)==(n:Int))=false:=by simp only [beq_eq_false_iff_ne,ne_eq]; omega
    cases e2:f n with
    |none=>simp [e2]
    |some u=>simp [e2,List.lookup,this]
theorem x3:(eB l hs n h i).lookup (q:Int)=if q<n then ff l hs q (if q<i then h+1 else h) else none:=nx n q
theorem QC {f g:Nat→Option aa} {n i:Nat} (hi:i<n) {s:aa} (hf:(f i).isSome=true) (hg:g i=some s) (hfg: ∀ q,q≠i→f q=g q):dW ((List.range n).filterMap fun q=>(f q).map fun s=>((q:Int),s)) (i:Int) s=(List.range n).filterMap fun q=>(g q).map fun s=>((q:Int),s):=by
 unfold dW
 rw [if_pos (by rw [nx,if_pos hi]; exact hf),List.map_filterMap]
 apply l6
 intro q _
 by_cases e:q=i
 ·subst e
  obtain ⟨u,hu⟩:=Option.isSome_iff_exists.1 hf
  rw [hu,hg]; simp
 ·rw [hfg q e]
  cases g q with
  |none=>rfl
  |some u=>
   have: ¬ ((q:Int)=(i:Int)):=by omega
   simp [this]
theorem Qi {f g:Nat→Option aa} {n i:Nat} (hg:g i=none) (hfg: ∀ q,q≠i→f q=g q):cG ((List.range n).filterMap fun q=>(f q).map fun s=>((q:Int),s)) (i:Int)=(List.range n).filterMap fun q=>(g q).map fun s=>((q:Int),s):=by
 unfold cG
 rw [List.filter_filterMap]
 apply l6
 intro q _
 by_cases e:q=i
 ·subst e
  rw [hg]
  cases f q with
  |none=>rfl
  |some u=>simp
 ·rw [hfg q e]
  cases g q with
  |none=>rfl
  |some u=>
   have: ¬ ((q:Int)=(i:Int)):=by omega
   simp [this]
theorem Ov (hi:i<n) (h0:(ff l hs i h).isSome=true) (h1:ff l hs i (h+1)=some s):dW (eB l hs n h i) (i:Int) s=eB l hs n h (i+1):=by
 unfold eB
 refine QC hi (by rw [if_neg (Nat.lt_irrefl i)]; exact h0) (by rw [if_pos (Nat.lt_succ_self i)]; exact h1) fun q hq=>?_
 by_cases c:q<i
 ·rw [if_pos c,if_pos I]
 ·rw [if_neg c,if_neg I]
theorem Gq (h1:ff l hs i (h+1)=none):cG (eB l hs n h i) (i:Int)=eB l hs n h (i+1):=by
 unfold eB
 refine Qi (by rw [if_pos (Nat.lt_succ_self i)]; exact h1) fun q hq=>?_
 by_cases c:q<i
 ·rw [if_pos c,if_pos I]
 ·rw [if_neg c,if_neg I]
end
theorem Ca {r:bT} {k i:Nat}:(dB r k).lookup (i:Int)=if i<r.aL.length then ff r.ao r.an i k else none:=nx _ _
def mZ (m:g8) (i:Int):g8:=m.filter fun p=> !decide (p.1=i)
def ja (m:g8) (i n:Int):Nat:=(mZ m i).countP fun p=>decide (p.2.Hi<n)
def k9 (m:g8) (i n:Int):Nat:=(mZ m i).countP fun p=>decide (p.2.Lo<n)
def jS (m:g8) (i:Int) (own:aa):List Int:=own.Lo::((mZ m i).flatMap fun p=>[p.2.Lo+1,p.2.Hi+1]).filter fun n=>decide (own.Lo≤n∧n≤own.Hi)
def se (m:g8) (i:Int) (own:aa) (k:Int):Prop:= ∃ n∈jS m i own,(ja m i n:Int)+1≤k∧k≤(k9 m i n:Int)+1
noncomputable instance (m:g8) (i:Int) (own:aa) (k:Int):Decidable (se m i own k):=Classical.propDecidable _
noncomputable def dU (m:g8) (i:Int) (own:aa):List Int:=((List.range m.length).map fun (k:Nat)=>(k:Int)+1).filter fun k=>decide (se m i own k)
section
variable {m:g8} {i:Int} {own:aa}
/-- what a point stands for -/
theorem JJ {x:Int} (h1:own.Lo≤x) (h2:x≤own.Hi): ∃ n∈jS m i own,n≤x∧ja m i n=ja m i x∧k9 m i n=k9 m i x:=by
 -- the greatest point that is no greater
 have key: ∀ (d:Nat) (x:Int),own.Lo≤x→x≤own.Hi→(x-own.Lo).toNat=d→ ∃ n∈jS m i own,n≤x∧ja m i n=ja m i x∧k9 m i n=k9 m i x:=by
  intro d
  induction d with
  |zero=>
   intro x h1 h2 hd
   have:x=own.Lo:=by omega
   exact ⟨own.Lo,cm ..,I,by rw [this],by rw [this]⟩
  |succ d ih=>
   intro x h1 h2 hd
   by_cases c:x∈jS m i own
   ·exact ⟨x,c,Int.le_refl _,U,U⟩
   ·obtain ⟨n,hn,D,B,C⟩:=ih (x-1) I I I
    have A: ∀ p∈mZ m i,p.2.Lo+1≠x∧p.2.Hi+1≠x:=fun p hp=>by
     constructor<;>intro e<;>apply c<;>refine cV _ (List.mem_filter.2 ⟨List.mem_flatMap.2 ⟨p,hp,by rw [← e]; simp⟩,fR ⟨h1,h2⟩⟩)
    refine ⟨n,hn,I,?_,?_⟩
    ·rw [B]
     unfold ja
     apply List.countP_congr
     intro p hp
     have:=(A p hp).2
     rw [decide_eq_true_eq,decide_eq_true_eq]
     omega
    ·rw [C]
     unfold k9
     apply List.countP_congr
     intro p hp
     have:=(A p hp).1
     rw [decide_eq_true_eq,decide_eq_true_eq]
     omega
 exact key _ x h1 h2 U
theorem LV {n:Int} (ho:own.Lo≤own.Hi) (h:n∈jS m i own):own.Lo≤n∧n≤own.Hi:=by
 rcases bx.1 h with rfl|h
 ·omega
 ·exact of_decide_eq_true (List.mem_filter.1 h).2
/-- a rank comes about at some sum -/
theorem Br (ho:own.Lo≤own.Hi) {k:Int}:se m i own k↔ ∃ x,own.Lo≤x∧x≤own.Hi∧(ja m i x:Int)+1≤k∧k≤(k9 m i x:Int)+1:=by
 constructor
 ·rintro ⟨n,hn,A,B⟩
  have:=LV ho hn
  exact ⟨n,this.1,this.2,A,B⟩
 ·rintro ⟨x,A,B,E,F⟩
  obtain ⟨n,hn,_,C,D⟩:=JJ (m:=m) (i:=i) A B
  exact ⟨n,hn,by rw [C]; exact E,by rw [D]; exact F⟩
theorem LQ (hi:m.lookup i≠none) {x:Int}:k9 m i x+1≤m.length:=by
 unfold k9
 refine Nat.lt_of_le_of_lt List.countP_le_length ?_
 unfold mZ
 obtain ⟨v,hv⟩:=Option.ne_none_iff_exists'.1 hi
 have hm: ∃ p∈m,p.1=i:=by
  clear hi
  induction m with
  |nil=>simp at hv
  |cons p m ih=>
   obtain ⟨a,b⟩:=p
   by_cases e:i=a
   ·exact ⟨_,cm ..,e.symm⟩
   ·have:(i==a)=false:=by simpa using e
    simp only [List.lookup,this] at hv
    obtain ⟨p,hp,e⟩:=ih hv
    exact ⟨p,cV _ hp,e⟩
 obtain ⟨p,hp,e⟩:=hm
 refine Nat.lt_of_le_of_ne (List.length_filter_le _ _) fun q=>?_
 have:=(List.filter_eq_self (p:=fun p:Int×aa=> !decide (p.1=i))).1 (List.filter_sublist.eq_of_length q) p hp
 simp [e] at this
theorem Ia (hi:m.lookup i≠none) {k:Int}:k∈dU m i own↔se m i own k:=by
 unfold dU
 rw [List.mem_filter,bX,decide_eq_true_eq]
 constructor
 ·rintro ⟨_,h⟩; exact h
 ·intro h
  refine ⟨?_,h⟩
  obtain ⟨n,_,A,B⟩:=h
  have:=LQ hi (x:=n)
  exact ⟨(k-1).toNat,List.mem_range.2 I,I⟩
end
end
section
def qw (l:List Int):List (List Value):=l.map fun x=>[vI x]
theorem sZ {l:List Int}:(qw l).length=l.length:=by simp [qw]
theorem HF {l:List Int} {k:Nat} {x:Int} (h:l[k]? =some x):(qw l)[k]? =some [vI x]:=by simp [qw,h]
theorem Hr {l:List Int} {k:Nat} {x:List Value} (h:(qw l)[k]? =some x): ∃ y,l[k]? =some y∧x=[vI y]:=by
 simp only [qw,fH,Option.map_eq_some_iff] at h
 obtain ⟨y,hy,rfl⟩:=h
 exact ⟨y,hy,U⟩
theorem E8 {l:List Int}: ∀ x∈qw l,x.length=1:=fun x hx=>by
 simp only [qw,bX] at hx
 obtain ⟨y,_,rfl⟩:=hx
 rfl
theorem yx {l:List Int}:l.take (qw l).length=l:=by rw [sZ,List.take_of_length_le (Nat.le_refl _)]
theorem j8 {l:List Int} {k:Nat} {x:Int} (h:l[k]? =some x):l.take (k+1)=l.take k++[x]:=by
 rw [List.take_add_one,h]; rfl
def dv (l:List Int):List Int:=l.mergeSort fun a b=>decide (a≤b)
theorem fK {l:List Int}:(dv l).Perm l:=List.mergeSort_perm _ _
theorem lj {l:List Int}:(dv l).Pairwise (· ≤ ·):=by
 have:=List.pairwise_mergeSort (le:=fun (a b:Int)=>decide (a≤b)) (fun a b c A B=>by simp at A B ⊢; omega) (fun a b=>by simp; omega) l
 exact this.imp fun h=>by simpa using h
@[simp] theorem gF {l:List Int}:(dv l).length=l.length:=fK.length_eq
theorem qu {l m:List Int} (h1:m.Perm l) (h2:m.Pairwise (· ≤ ·)):m=dv l:=rU (h1.trans fK.symm) h2 lj
end
section
open Go.RowKit
def sC (s:bo):List Value:=[vS s.a s.n s.c]
theorem yK: ∀ s,(sC s).length=1:=fun s=>rfl
theorem JP (l:List bo): ∀ v∈(l.map sC).flatten,v.oneCell'=true:=mE (fun s=>rfl) l
def BO (l:List aa) (a:RA):bo:=⟨a.1,l.length,a.2⟩
def Eb (l:List aa) (a:RA):List Value:=[vS a.1 l.length a.2]
def MW (l:List aa) (a:RA):List au:=[rd a.1 l.length 2 (l.map aa.cells)]
def DA (l:List aa) (a:RA):List au:=[own a.1 a.2 K1 2 (l.map aa.cells)]
theorem zl {ls:List (List aa)} {az:List RA}:(List.zipWith BO ls az).map sC=List.zipWith Eb ls az:=by
 rw [List.map_zipWith]; rfl
theorem s7: ∀ (m:List aa) (a:RA) (w:World),(∀ X∈DA m a,X.holds w)→ ∀ X∈MW m a,X.holds w:=fun m a w h X hX=>by
 simp only [MW,bJ] at hX
 subst hX
 have:=mP (h _ (bJ.2 rfl))
 simpa using this
theorem xP {l:List (List aa)} {bz:List RA}:(bw (aU DA l bz)).wr=true:=by
 show (aU DA l bz).all (·.wr)=true
 rw [cT]
 intro X hX
 obtain ⟨k,m,a,_,_,h⟩:=jX hX
 simp only [DA,bJ] at h
 subst h; rfl
theorem m7 {ls:List (List aa)} {az:List RA} (h:az.length=ls.length):(List.zipWith Eb ls az).length=ls.length:=by simp [h]
noncomputable def gL (r:bT) (i:Nat):List (List aa):=(r.an.take i).map fun h=>h.map (dI r.ao)
noncomputable def cS (r:bT):List (List aa):=gL r r.an.length
section
variable {r:bT} {i:Nat} {h:List aw} {tz:List RA} {a:RA}
theorem vy (hh:r.an[i]? =some h):gL r (i+1)=gL r i++[h.map (dI r.ao)]:=by unfold gL; rw [List.take_add_one,hh,List.map_append]; rfl
theorem kQ (hi:i≤r.an.length):(gL r i).length=i:=by unfold gL; rw [List.length_map,List.length_take]; omega
theorem dE:(cS r).length=r.an.length:=kQ (Nat.le_refl _)
theorem Ej (hh:r.an[i]? =some h):(cS r)[i]? =some (h.map (dI r.ao)):=by
 unfold cS gL
 rw [List.take_length,fH,hh]; rfl
theorem zC {m:List aa} (hh:r.an[i]? =some h) (hm:(cS r)[i]? =some m):m=h.map (dI r.ao):=by
 rw [Ej hh] at hm
 exact (Option.some.inj hm).symm
theorem th (hh:r.an[i]? =some h) (hl:tz.length=i):List.zipWith BO (gL r (i+1)) (tz++[a])=List.zipWith BO (gL r i) tz++[BO (h.map (dI r.ao)) a]:=by
 have hi:=(aS.1 hh).1
 rw [vy hh,List.zipWith_append (by rw [kQ I,hl])]
 rfl
theorem CW (hh:r.an[i]? =some h) (hl:tz.length=i):aU DA (gL r i) tz++[own a.1 a.2 K1 2 ((h.map (dI r.ao)).map aa.cells)]=aU DA (gL r (i+1)) (tz++[a]):=by
 have hi:=(aS.1 hh).1
 rw [vy hh,iN (by rw [kQ I,hl])]
 simp [aU,DA]
end
theorem zw {lo hi:Int} {l:List Int}:p8 lo hi l=true↔ ∀ x∈l,lo≤x∧x≤hi:=by
 unfold p8
 rw [Bool.not_eq_true',List.any_eq_false]
 constructor
 ·intro h x hx; have:=h x hx; simp only [decide_eq_true_eq] at this; omega
 ·intro h x hx; have:=h x hx; simp only [decide_eq_true_eq]; omega
abbrev Ha (n:Nat):List Int:=(List.range n).map fun (k:Nat)=>(k:Int)
theorem xG (n:Nat):(Ha n).Pairwise (· ≤ ·):=by
 unfold Ha
 rw [List.pairwise_map]
 exact List.pairwise_lt_range.imp fun h=>by omega
theorem vf {l:List Int} {n:Nat} (h:l.Perm (Ha n)):dv l=Ha n:=(qu h.symm (xG n)).symm
theorem Io {l:List Int} {n:Nat} (hl:l.length=n) (h: ∀ j,j<n→ ∀ x,(dv l)[j]? =some x→x=(j:Int)):l.Perm (Ha n):=by
 have e:dv l=Ha n:=by
  apply List.ext_getElem
  ·simp [hl]
  ·intro j A B
   have C:j<n:=by simpa using B
   have:=h j C _ (eM A)
   simpa using this
 rw [← e]; exact fK.symm
def rF (r:bT) (i:Nat):Prop:= ∀ j,j<i→(∀ x,(dv r.bE)[j]? =some x→x=(j:Int))∧ ∀ x y,r.aL[j]? =some x→0<j→r.aL[j-1]? =some y→y<x
def E1 (r:bT) (h:List aw):Prop:=h.length=r.aL.length∧ ∀ d∈h,iy r.ao d
def kh (r:bT) (i:Nat):Prop:= ∀ (j:Nat) h,j<i→r.an[j]? =some h→E1 r h
def oy (l:aZ) (h:List aw) (k:Nat):Prop:= ∀ (j:Nat) d,j<k→h[j]? =some d→iy l d
section
variable {r:bT} {i:Nat}
theorem EP:rF r 0:=fun j hj=>absurd hj (Nat.not_lt_zero _)
theorem wq {x:Int} (h:rF r i) (hd:(dv r.bE)[i]? =some x) (e:x=(i:Int)) (hs: ∀ x y,r.aL[i]? =some x→0<i→r.aL[i-1]? =some y→y<x):rF r (i+1):=fun j hj=>by
 rcases Nat.lt_or_ge j i with q|q
 ·exact h j q
 ·obtain rfl:j=i:=by omega
  exact ⟨fun y hy=>by rw [hd] at hy; cases hy; exact e,hs⟩
theorem xo:kh r 0:=fun j h hj=>absurd hj (Nat.not_lt_zero _)
theorem wK {h:List aw} (hh:kh r i) (hx:r.an[i]? =some h) (ho:E1 r h):kh r (i+1):=fun j y hj hy=>by
 rcases Nat.lt_or_ge j i with q|q
 ·exact hh j y q hy
 ·obtain rfl:j=i:=by omega
  rw [hx] at hy; cases hy; exact ho
theorem vz {l:aZ} {h:List aw}:oy l h 0:=fun j d hj=>absurd hj (Nat.not_lt_zero _)
theorem vm {l:aZ} {h:List aw} {d:aw} (ht:oy l h i) (hx:h[i]? =some d) (ho:iy l d):oy l h (i+1):=fun j y hj hy=>by
 rcases Nat.lt_or_ge j i with q|q
 ·exact ht j y q hy
 ·obtain rfl:j=i:=by omega
  rw [hx] at hy; cases hy; exact ho
theorem FR {h:List aw} (hl:h.length=r.aL.length) (ht:oy r.ao h i) (hi:h.length≤i):E1 r h:=⟨hl,fun d hd=>by
 obtain ⟨j,hj⟩:=List.getElem?_of_mem hd
 exact ht j d (by have:=(aS.1 hj).1; omega) hj⟩
theorem I4 {n:Nat} (hn:n=r.aL.length) (h1:1≤(r.aL.length:Int)∧(r.aL.length:Int)≤5) (h2:r.bE.length=r.aL.length) (h3:0≤r.gJ∧r.gJ≤5) (h4:1≤(r.an.length:Int)∧(r.an.length:Int)≤3) (h5:p8 0 9999 r.aL=true)
 (h6:rF r n) (h7:kh r i) (hi:r.an.length≤i):eP r:=by
 subst hn
 refine ⟨h1,h3,h4,fun k x hx=>⟨zw.1 h5 x (aT hx),fun y hk hy=>?_⟩,Io h2 fun j hj=>(h6 j hj).1,fun h hh=>?_⟩
 ·exact (h6 k (aS.1 hx).1).2 x y hx hk hy
 ·obtain ⟨j,hj⟩:=List.getElem?_of_mem hh
  exact h7 j h (by have:=(aS.1 hj).1; omega) hj
theorem eP.yA (h:eP r):r.bE.length=r.aL.length:=by have:=h.draw.length_eq; simpa using this
theorem eP.ins (h:eP r):p8 0 9999 r.aL=true:=zw.2 fun x hx=>by
 obtain ⟨j,hj⟩:=List.getElem?_of_mem hx
 exact (h.ids j x hj).1
theorem eP.drawn (h:eP r) {x:Int} (hx:(dv r.bE)[i]? =some x):x=(i:Int):=by
 rw [vf h.draw] at hx
 have hi:=(aS.1 hx).1
 simp at hi
 rw [fH,List.getElem?_range hi] at hx
 exact (Option.some.inj hx).symm
theorem eP.z3 (h:eP r):kh r i:=fun j x _ hx=>h.nN x (aT hx)
theorem zA (h: ¬ dC r.ao=0):cD r=dC r.ao:=if_neg h
theorem kH (h:dC r.ao=0) (hn: ¬ eP r):cD r=60:=by unfold cD; rw [if_pos h,if_neg hn]
theorem BE (h:dC r.ao=0) (hn:eP r):cD r=0:=by unfold cD; rw [if_pos h,if_pos hn]
theorem fM (h:cD r=0):dC r.ao=0∧eP r:=by
 unfold cD at h
 split at h
 ·split at h
  ·exact ⟨asm,asm⟩
  ·cases h
 ·exact absurd h asm
end
section
variable {r:bT} {k i n h:Nat} {s:aa} {l:aZ} {hs:List (List aw)}
theorem Aa: ∀ {k:Nat} {s:aa},kh r k→k≤r.an.length→ff r.ao r.an i k=some s→0≤s.Lo∧s.Lo≤s.Hi∧s.Hi≤8640000*(k:Int)
 |0,s,_,_,h=>by
  simp only [ff,Option.some.injEq] at h
  subst h; simp
 |k+1,s,hh,hk,h=>by
  unfold ff at h
  split at h
  ·rename_i u d hu hd
   split at h
   ·cases h
   ·cases h
    have A:=Aa (fun j x hj hx=>hh j x I hx) I hu
    obtain ⟨x,hx,hd⟩:=Option.bind_eq_some_iff.1 hd
    have B:=F1 ((hh k x I hx).2 d (aT hd))
    simp only
    push_cast
    omega
  ·cases h
theorem O2:dW (eB l hs i 0 0) (i:Int) ⟨0,0⟩=eB l hs (i+1) 0 0:=by
 have A:(eB l hs i 0 0).lookup (i:Int)=none:=by rw [x3,if_neg (Nat.lt_irrefl i)]
 unfold dW
 rw [A]
 simp only [Option.isSome_none,Bool.false_eq_true,if_false]
 unfold eB
 rw [List.range_succ,List.filterMap_append]
 simp [ff]
theorem Ki (hi:i<n):(eB l hs n h i).lookup (i:Int)=ff l hs i h:=by rw [x3,if_pos hi,if_neg (Nat.lt_irrefl i)]
theorem L5 {α β:Type} {f:α→β} {tr:List β} {ht:List α} {x:β} {d:α} (e:tr=ht.map f) (hx:tr[i]? =some x) (hd:ht[i]? =some d):x=f d:=by
 rw [e,fH,hd] at hx
 exact (Option.some.inj hx).symm
theorem Nu:eB r.ao r.an r.aL.length h 0=dB r h:=Bk
end
end
section
def uc (key:Int→Int) (l:List Int) (x:Int):List Int:=l.takeWhile (fun y=>decide (key y≤key x))++x::l.dropWhile (fun y=>decide (key y≤key x))
def ek (key:Int→Int) (l:List Int):List Int:=l.foldl (uc key) []
def C4 (key:Int→Int) (l:List Int):Prop:=l.Pairwise fun a b=>key a≤key b
section
variable {key:Int→Int} {l A B D:List Int} {x u v:Int} {i j:Nat}
theorem yS:(uc key l x).Perm (x::l):=by
 unfold uc
 refine List.perm_middle.trans ?_
 rw [List.takeWhile_append_dropWhile]
theorem Pq (hA: ∀ y∈A,key y≤key x) (hB: ∀ y∈B,key x<key y):(A++B).takeWhile (fun y=>decide (key y≤key x))=A∧(A++B).dropWhile (fun y=>decide (key y≤key x))=B:=by
 induction A with
 |nil=>
  cases B with
  |nil=>simp
  |cons b B=>
   have h:=hB b cm
   have:decide (key b≤key x)=false:=cq I
   rw [List.nil_append,List.takeWhile_cons,List.dropWhile_cons,this]
   exact ⟨U,U⟩
 |cons a A ih=>
  have h:=ih fun y hy=>hA y (cV _ hy)
  have:decide (key a≤key x)=true:=fR (hA a cm)
  simp only [List.cons_append,List.takeWhile,List.dropWhile,this]
  exact ⟨by rw [h.1],h.2⟩
theorem sK (hA: ∀ y∈A,key y≤key x) (hB: ∀ y∈B,key x<key y):uc key (A++B) x=A++x::B:=by
 unfold uc
 rw [(Pq hA hB).1,(Pq hA hB).2]
theorem w5 (x:Int): ∀ {l:List Int},C4 key l→ ∃ A B,l=A++B∧(∀ y∈A,key y≤key x)∧ ∀ y∈B,key x<key y
 |[],_=>⟨[],[],rfl,(fun y h=>by cases h),fun y h=>by cases h⟩
 |a::l,h=>by
  unfold C4 at h
  rw [List.pairwise_cons] at h
  by_cases c:key a≤key x
  ·obtain ⟨A,B,e,hA,hB⟩:=w5 x (l:=l) h.2
   refine ⟨a::A,B,by rw [e]; rfl,fun y hy=>?_,hB⟩
   rcases bx.1 hy with rfl|hy
   ·exact c
   ·exact hA y hy
  ·refine ⟨[],a::l,rfl,fun y hy=>(by cases hy),fun y hy=>?_⟩
   rcases bx.1 hy with rfl|hy
   ·omega
   ·have:=h.1 y hy; omega
theorem Ob (h:C4 key l):C4 key (uc key l x):=by
 obtain ⟨A,B,rfl,hA,hB⟩:=w5 x h
 rw [sK hA hB]
 unfold C4 at h ⊢
 rw [List.pairwise_append] at h ⊢
 refine ⟨h.1,List.pairwise_cons.2 ⟨fun y hy=>by have:=hB y hy; omega,h.2.1⟩,fun y hy z hz=>?_⟩
 rcases bx.1 hz with rfl|hz
 ·exact hA y hy
 ·exact h.2.2 y hy z hz
theorem Cm:ek key (l++[x])=uc key (ek key l) x:=by unfold ek; rw [List.foldl_append]; rfl
theorem BH (h:l[i]? =some x):ek key (l.take (i+1))=uc key (ek key (l.take i)) x:=by rw [j8 h,Cm]
theorem xS: ∀ {l m:List Int},(l.foldl (uc key) m).Perm (m++l)
 |[],m=>by simp
 |x::l,m=>(xS (l:=l) (m:=uc key m x)).trans (((yS).append_right l).trans (by
  rw [List.cons_append]
  exact List.perm_middle.symm))
theorem oH:(ek key l).Perm l:=by simpa [ek] using xS (key:=key) (l:=l) (m:=[])
theorem C8: ∀ {l m:List Int},C4 key m→C4 key (l.foldl (uc key) m)
 |[],m,h=>h
 |x::l,m,h=>C8 (l:=l) (Ob h)
theorem uD:C4 key (ek key l):=C8 List.Pairwise.nil
theorem kJ:(ek key l).length=l.length:=oH.length_eq
def CQ (key:Int→Int) (l:List Int) (i j:Nat) (D:List Int):Prop:= ∃ A B x,l[i]? =some x∧A.length=j∧ek key (l.take i)=A++B∧(∀ y∈B,key x<key y)∧D=A++x::(B++l.drop (i+1))
def tW (key:Int→Int) (l:List Int) (i:Nat) (D:List Int):Prop:=D=ek key (l.take i)++l.drop i
theorem Ju (h:0<l.length):tW key l 1 l:=by
 cases l with
 |nil=>simp at h
 |cons a l=>simp [tW,ek,uc]
theorem LO (hi:l.length≤i) (h:tW key l i D):D=ek key l:=by
 subst h; rw [List.take_of_length_le hi,List.drop_of_length_le hi,List.append_nil]
theorem D0 (hi:i<l.length) (h:tW key l i D):CQ key l i i D:=by
 have hx:l[i]? =some l[i]:=eM hi
 refine ⟨ek key (l.take i),[],l[i],hx,by rw [kJ,List.length_take]; omega,sm,fun y hy=>(by cases hy),?_⟩
 rw [h,List.nil_append,List.drop_eq_getElem_cons hi]
theorem xV: ∀ {A:List Int},0<A.length→ ∃ A' y,A=A'++[y]:=fun {A} h=>⟨A.dropLast,A.getLast (by intro e; subst e; simp at h),(List.dropLast_concat_getLast _).symm⟩
theorem Hs (hj:0<j) (h:CQ key l i j D) (hu:D[j]? =some u) (hv:D[j-1]? =some v) (hlt:key u<key v):CQ key l i (j-1) ((D.set j v).set (j-1) u):=by
 obtain ⟨A,B,x,hx,hl,he,hB,rfl⟩:=h
 obtain ⟨A',y,rfl⟩:=xV (A:=A) I
 simp only [List.length_append,List.length_cons,List.length_nil] at hl
 subst hl
 have C:(A'++[y]++x::(B++l.drop (i+1)))=A'++y::x::(B++l.drop (i+1)):=by simp
 rw [C] at hu hv ⊢
 rw [List.getElem?_append_right I,show A'.length+(0+1)-A'.length=1 by omega] at hu
 rw [show A'.length+(0+1)-1=A'.length by omega,List.getElem?_append_right (Nat.le_refl _),Nat.sub_self] at hv
 simp at hu hv
 subst hu hv
 refine ⟨A',y::B,x,hx,I,by rw [he]; simp,fun z hz=>?_,?_⟩
 ·rcases bx.1 hz with rfl|hz
  ·exact hlt
  ·exact hB z hz
 ·rw [show A'.length+(0+1)-1=A'.length by omega,List.set_append_right _ _ I,List.set_append_right _ _ (Nat.le_refl _),show A'.length+(0+1)-A'.length=1 by omega,Nat.sub_self]
  simp
theorem yZ (h:CQ key l i j D) (hc: ∀ A,A.length=j→(∃ C,D=A++C)→C4 key A→ ∀ x,l[i]? =some x→D[j]? =some x→ ∀ y∈A,key y≤key x):tW key l (i+1) D:=by
 obtain ⟨A,B,x,hx,hl,he,hB,rfl⟩:=h
 unfold tW
 have E:C4 key (A++B):=he▸uD
 rw [BH hx,he,sK (hc A hl ⟨_,rfl⟩ (by unfold C4 at E ⊢; rw [List.pairwise_append] at E; exact E.1) x hx (by rw [List.getElem?_append_right I,← hl]; simp)) hB]
 simp
theorem yT (hj: ¬ 0<j) (h:CQ key l i j D):tW key l (i+1) D:=yZ h fun A hl _ _ x _ _ y hy=>by
 have:A=[]:=jR I
 subst this; cases hy
theorem zd (hj:0<j) (h:CQ key l i j D) (hu:D[j]? =some u) (hv:D[j-1]? =some v) (hlt: ¬ key u<key v):tW key l (i+1) D:=yZ h fun A hl hC hA x hx hd y hy=>by
 obtain ⟨C,hC⟩:=hC
 obtain ⟨A',z,rfl⟩:=xV (A:=A) I
 simp only [List.length_append,List.length_cons,List.length_nil] at hl
 rw [hd] at hu; cases hu
 have e:D[j-1]? =some z:=by
  rw [hC,List.append_assoc,List.getElem?_append_right I,show j-1-A'.length=0 by omega]; simp
 rw [e] at hv; cases hv
 unfold C4 at hA
 rw [List.pairwise_append] at hA
 rcases dJ.1 hy with hy|hy
 ·have:=hA.2.2 y hy v sm; omega
 ·rw [bJ] at hy; subst hy; omega
end
end
section
def kW (k:Nat) (l:List Int):List Int:=(l.take k).reverse++l.drop k
def Is (l:List Int) (k i:Nat) (D:List Int):Prop:=D.length=l.length∧ ∀ p,p<l.length→D[p]? =l[if p<k∧(p<i∨k≤p+i) then k-1-p else p]?
section
variable {l D:List Int} {k i j:Nat} {u v:Int}
theorem iS:(kW k l).length=l.length:=by unfold kW; rw [List.length_append,List.length_reverse,List.length_take,List.length_drop]; omega
theorem MQ:Is l k 0 l:=⟨rfl,fun p hp=>by rw [if_neg I]⟩
theorem Md (hk:k≤l.length) (hij:i<j) (hj:j+i+1=k) (h:Is l k i D) (hu:D[i]? =some u) (hv:D[j]? =some v):Is l k (i+1) ((D.set i v).set j u):=by
 refine ⟨by rw [List.length_set,List.length_set]; exact h.1,fun p hp=>?_⟩
 have hl:=h.1
 have hi:=h.2 i I
 have A:=h.2 j I
 rw [hu,if_neg I] at hi
 rw [hv,if_neg I] at A
 by_cases B:p=j
 ·subst B
  rw [List.getElem?_set_self (by rw [List.length_set]; omega),if_pos I,show k-1-p=i by omega,hi]
 ·rw [List.getElem?_set_ne (fun e=>B e.symm)]
  by_cases C:p=i
  ·subst C
   rw [List.getElem?_set_self I,if_pos I,show k-1-p=j by omega,A]
  ·rw [List.getElem?_set_ne (fun e=>C e.symm),h.2 p hp]
   by_cases c:p<k∧(p<i∨k≤p+i)
   ·rw [if_pos c,if_pos I]
   ·rw [if_neg c,if_neg I]
theorem M4 (hk:k≤l.length) (hi:k≤2*i+1) (h:Is l k i D):D=kW k l:=by
 apply List.ext_getElem?
 intro p
 by_cases hp:p<l.length
 ·rw [h.2 p hp]
  unfold kW
  by_cases c:p<k
  ·rw [List.getElem?_append_left (by rw [List.length_reverse,List.length_take]; omega),List.getElem?_reverse (by rw [List.length_take]; omega),List.length_take,Nat.min_eq_left hk,List.getElem?_take]
   rw [if_pos (show k-1-p<k by omega)]
   by_cases A:p<k∧(p<i∨k≤p+i)
   ·rw [if_pos A]
   ·rw [if_neg A,show k-1-p=p by omega]
  ·rw [if_neg I,List.getElem?_append_right (by rw [List.length_reverse,List.length_take]; omega),List.length_reverse,List.length_take,Nat.min_eq_left hk,List.getElem?_drop,show k+(p-k)=p by omega]
 ·rw [List.getElem?_eq_none (by rw [h.1]; omega),List.getElem?_eq_none (by rw [iS]; omega)]
end
end
end Go.Proofs.YtlajhejcfcoddaaGreatDoor
