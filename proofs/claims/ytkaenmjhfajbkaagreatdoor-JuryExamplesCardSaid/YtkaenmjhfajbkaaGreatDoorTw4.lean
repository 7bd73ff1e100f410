/-
 The statement juryExamples_said, part 4 of 7: Short, Grow, Global, RunA, Tab, Run, Comp, Ret, LoopK, MapK, Watch, Passes, Keys, MapR, RangeG, Nest, WMaps, WBounds, PassG, Drop, Spot, First, Line, Wrap, Goes, OpenW, Wheres, ExL, LineR, Race, RaceS, Vals, RaceO, RaceV, Jury, RankP, NestS, Grp, Twin.
 Conditions: none.
-/
import Derived.Test.YtkaenmjhfajbkaaGreatDoorTw1
import Derived.Test.YtkaenmjhfajbkaaGreatDoorTw2
import Derived.Test.YtkaenmjhfajbkaaGreatDoorTw3
import Derived.Test.YtkaenmjhfajbkaaGreatDoorProg
import Derived.KernelRfl
import Derived.WideKeyRuns
namespace Go.Proofs.YtkaenmjhfajbkaaGreatDoor
set_option maxRecDepth 100000
set_option maxHeartbeats 4000000
set_option linter.unusedVariables false
section
open Go.RowKit
/-- an operation that hands v to its slot d -/
structure SE (E:dK) (ops:Array Oper) (o:Oper) (D:fu) (L:cJ) (C:List au) (v:Value) (d:Nat):Prop where
 h:SD E ops o D L C v
 o:o.dst=some d
 n:Nat.blt d E.n=true
theorem rS {E:dK} {ops:Array Oper} {Q:cv} {o:Oper} {rest:List Oper} {D:fu} {L:cJ} {C:List au} {v:Value} {d:Nat}
 (h:SE E ops o D L C v d) (k:RJ E ops Q rest D ((d,v)::L) C):RJ E ops Q (o::rest) D L C:=KZ h.h h.o h.n k
theorem dS {E:dK} {ops:Array Oper} {F:cJ→Prop} {o:Oper} {rest:List Oper} {D:fu} {L:cJ} {C:List au} {v:Value} {d:Nat}
 (h:SE E ops o D L C v d) (k:DJ E ops D C F rest ((d,v)::L)):DJ E ops D C F (o::rest) L:=Ls h.h h.o h.n k
theorem eS {E:dK} {ops:Array Oper} {D:fu} {C' C1:List au} {F:cJ→Prop} {bs:List Bool} {o:Oper} {l rest:List Oper} {L:cJ} {v:Value} {d:Nat}
 (hl:l=o::rest) (h:SE E ops o D L C' v d) (k:ny E ops D C' C1 F bs rest ((d,v)::L)):ny E ops D C' C1 F (false::bs) l L:=LK h.h hl h.o h.n k
theorem fS {E:dK} {ops:Array Oper} {D:fu} {C' C1:List au} {F:cJ→Prop} {bs:List Bool} {o:Oper} {l rest:List Oper} {L:cJ} {v:Value} {d:Nat}
 (hl:l=o::rest) (h:SE E ops o D L C1 v d) (k:ny E ops D C' C1 F bs rest ((d,v)::L)):ny E ops D C' C1 F (true::bs) l L:=Ky h.h hl h.o h.n k
def gB (n:Nat) (ops:Array Oper) (L:cJ) (d:Nat) (g:Option (Nat×Bool)):Bool:=im ops L g&&Nat.blt d n
theorem HU {n:Nat} {ops:Array Oper} {L:cJ} {d:Nat} {g:Option (Nat×Bool)} (h:gB n ops L d g=true):im ops L g=true:=by
 unfold gB at h; rw [cz] at h; exact h.1
theorem Ig {n:Nat} {ops:Array Oper} {L:cJ} {d:Nat} {g:Option (Nat×Bool)} (h:gB n ops L d g=true):Nat.blt d n=true:=by
 unfold gB at h; rw [cz] at h; exact h.2
def vF (n:Nat) (ops:Array Oper) (L:cJ) (d:Nat) (g:Option (Nat×Bool)) (x:Operand):Option Value:=match gB n ops L d g with
 |true=>ev L x
 |false=>none
def bF (n:Nat) (ops:Array Oper) (L:cJ) (d:Nat) (g:Option (Nat×Bool)) (x y:Operand):Option (Value×Value):=match gB n ops L d g with
 |true=>match ev L x,ev L y with
  |some u,some v=>some (u,v)
  |_,_=>none
 |false=>none
def pF (n:Nat) (ops:Array Oper) (L:cJ) (d:Nat) (g:Option (Nat×Bool)) (c x y:Operand):Option Value:=match gB n ops L d g with
 |true=>match ev L c with
  |some (.bool true)=>ev L x
  |some (.bool false)=>ev L y
  |_=>none
 |false=>none
def xF (n:Nat) (ops:Array Oper) (L:cJ) (d:Nat) (g:Option (Nat×Bool)) (x:Operand) (i:Nat):Option Value:=match vF n ops L d g x with
 |some (.tuple vs)=>vs.toList[i]?
 |_=>none
def uF (n:Nat) (ops:Array Oper) (L:cJ) (d:Nat) (g:Option (Nat×Bool)) (xs ys:List Operand):Option (List Value×List Value):=match gB n ops L d g with
 |true=>match evs L xs,evs L ys with
  |some u,some v=>some (u,v)
  |_,_=>none
 |false=>none
def cF (n:Nat) (ops:Array Oper) (L:cJ) (d:Nat) (g:Option (Nat×Bool)) (fop:Operand) (xs:List Operand):Option (FuncId×List Value):=match gB n ops L d g with
 |true=>match ev L fop,evs L xs with
  |some (.func (.func f) fi ca),some vs=>some (f,fi.toList++vs++ca.toList)
  |_,_=>none
 |false=>none
theorem gT {n:Nat} {ops:Array Oper} {L:cJ} {d:Nat} {g:Option (Nat×Bool)} {x:Operand} {v:Value} (h:vF n ops L d g x=some v):im ops L g=true∧Nat.blt d n=true∧ev L x=some v:=by
 unfold vF at h
 split at h
 ·rename_i hb; exact ⟨HU hb,Ig hb,h⟩
 ·cases h
theorem o2 {n:Nat} {ops:Array Oper} {L:cJ} {d:Nat} {g:Option (Nat×Bool)} {x y:Operand} {u v:Value} (h:bF n ops L d g x y=some (u,v)):im ops L g=true∧Nat.blt d n=true∧ev L x=some u∧ev L y=some v:=by
 unfold bF at h
 split at h
 ·rename_i hb
  split at h
  ·rename_i hx hy; cases h; exact ⟨HU hb,Ig hb,hx,hy⟩
  ·cases h
 ·cases h
theorem IC {n:Nat} {ops:Array Oper} {L:cJ} {d:Nat} {g:Option (Nat×Bool)} {x y:List Operand} {u v:List Value} (h:uF n ops L d g x y=some (u,v)):im ops L g=true∧Nat.blt d n=true∧evs L x=some u∧evs L y=some v:=by
 unfold uF at h
 split at h
 ·rename_i hb
  split at h
  ·rename_i hx hy; cases h; exact ⟨HU hb,Ig hb,hx,hy⟩
  ·cases h
 ·cases h
section
variable {E:dK} {ops:Array Oper} {Q:cv} {rest:List Oper} {D:List Deferred} {L:List (Nat×Value)} {C:List au}
variable {d:Nat} {ty:TypeId} {ps:String} {af:Array Edge} {g:Option (Nat×Bool)}
theorem SX {o:Oper} {v:Value} (h:SD E ops o D L C v) (ho:o.dst=some d) (hd:Nat.blt d E.n=true):SE E ops o D L C v d:=⟨h,ho,hd⟩
theorem MV {x:Operand} {v:Value} (h:vF E.n ops L d g x=some v):SE E ops ⟨some d,.move x,ty,ps,af,g⟩ D L C v d:=by
 obtain ⟨A,B,F⟩:=gT h; exact ⟨zM A F,rfl,B⟩
theorem AG {x:Operand} {v:Value} (h:vF E.n ops L d g x=some v):SE E ops ⟨some d,.assign x,ty,ps,af,g⟩ D L C v d:=by
 obtain ⟨A,B,F⟩:=gT h; exact ⟨tQ A F,rfl,B⟩
theorem OX {op:Op} (h:(x8 ops L g&&Nat.blt d E.n)=true):SE E ops ⟨some d,op,ty,ps,af,g⟩ D L C undef d:=by
 rw [cz] at h; exact ⟨D0 h.1,rfl,h.2⟩
theorem NT {xt:TypeId} {x:Operand} {b:Bool} (h:vF E.n ops L d g x=some (.bool b)):SE E ops ⟨some d,.unOp .not xt x,ty,ps,af,g⟩ D L C (.bool !b) d:=by
 obtain ⟨A,B,F⟩:=gT h; exact ⟨Dx A F,rfl,B⟩
theorem NG {xt:TypeId} {x:Operand} {n:Int} (h:vF E.n ops L d g x=some (.int .i64 n)) (hb:ph (-n)):SE E ops ⟨some d,.unOp .neg xt x,ty,ps,af,g⟩ D L C (.int .i64 (-n)) d:=by
 obtain ⟨A,B,F⟩:=gT h; exact ⟨I5 A F hb,rfl,B⟩
theorem PK {c x y:Operand} {v:Value} (h:pF E.n ops L d g c x y=some v):SE E ops ⟨some d,.pick c x y,ty,ps,af,g⟩ D L C v d:=by
 unfold pF at h
 split at h
 ·rename_i hb
  split at h
  ·rename_i hc; exact ⟨uv (HU hb) hc h,rfl,Ig hb⟩
  ·rename_i hc; exact ⟨tR (HU hb) hc h,rfl,Ig hb⟩
  ·cases h
 ·cases h
theorem EX {x:Operand} {i:Nat} {v:Value} (h:xF E.n ops L d g x i=some v):SE E ops ⟨some d,.extract x i,ty,ps,af,g⟩ D L C v d:=by
 unfold xF at h
 split at h
 ·rename_i vs hv
  obtain ⟨A,B,F⟩:=gT hv
  exact ⟨r_ (vs:=vs.toList) A (by simpa using F) h,U,B⟩
 ·cases h
theorem LN {x:Operand} {t e:TypeId} {A:OA} {n c:Nat} (h:vF E.n ops L d g x=some (.slice A n c)) (ht:E.P.underlying t=some (.slice e)):
 SE E ops ⟨some d,.call {callee:= .builtin .len,args:= #[x],argTypes:= #[t]},ty,ps,af,g⟩ D L C (.int .i64 n) d:=by
 obtain ⟨B,F,G⟩:=gT h; exact ⟨Dr B G ht,rfl,F⟩
theorem BI {op:BinOp} {xt yt:TypeId} {x y:Operand} {u v r:Value} (h:bF E.n ops L d g x y=some (u,v)) (hb:gj E.P op xt x y u v r):SE E ops ⟨some d,.binOp op xt x y yt,ty,ps,af,g⟩ D L C r d:=by
 obtain ⟨A,B,F,G⟩:=o2 h; exact ⟨ef A F G hb,rfl,B⟩
theorem MN {x y:Operand} {ts:Array TypeId} {a b:Int} {k:IntKind} (h:bF E.n ops L d g x y=some (.int k a,.int k b)):
 SE E ops ⟨some d,.call {callee:= .builtin .min,args:= #[x,y],argTypes:=ts},ty,ps,af,g⟩ D L C (.int k (min a b)) d:=by
 obtain ⟨A,B,F,G⟩:=o2 h; exact ⟨J_ A F G,rfl,B⟩
theorem MX {x y:Operand} {ts:Array TypeId} {a b:Int} {k:IntKind} (h:bF E.n ops L d g x y=some (.int k a,.int k b)):
 SE E ops ⟨some d,.call {callee:= .builtin .max,args:= #[x,y],argTypes:=ts},ty,ps,af,g⟩ D L C (.int k (max a b)) d:=by
 obtain ⟨A,B,F,G⟩:=o2 h; exact ⟨J0 A F G,rfl,B⟩
theorem FA (o':Nat) {x:Operand} {b o s f k:Nat} (h:vF E.n ops L d g x=some (.pointer (some ⟨b,o,none⟩))) (hf:qd E.P s f=some k) (ho:o+k=o'):
 SE E ops ⟨some d,.fieldAddr s x f,ty,ps,af,g⟩ D L C (.pointer (some ⟨b,o',none⟩)) d:=by
 obtain ⟨A,B,F⟩:=gT h; exact ⟨HV A F hf ho,rfl,B⟩
theorem x9 (k':Nat) {x:Operand} {A:OA} {n sz:Nat} {es:List (List Value)} {k0 s f k:Nat} (h:vF E.n ops L d g x=some (.pointer (jO A k0))) (hR:iE C (rd A n sz es).holds) (hn:0<n*sz)
 (hf:qd E.P s f=some k) (ho:k0+k=k'):SE E ops ⟨some d,.fieldAddr s x f,ty,ps,af,g⟩ D L C (.pointer (jO A k')) d:=by
 obtain ⟨B,F,G⟩:=gT h; exact ⟨E0 B G hR hn hf ho,rfl,F⟩
theorem NF (k':Nat) {x:Operand} {A:OA} {ad:Addr} {k0 s f k:Nat} (h:vF E.n ops L d g x=some (.pointer (jO A k0))) (hA:A=some ad)
 (hf:qd E.P s f=some k) (ho:k0+k=k'):SE E ops ⟨some d,.fieldAddr s x f,ty,ps,af,g⟩ D L C (.pointer (jO A k')) d:=by
 obtain ⟨B,F,G⟩:=gT h; exact ⟨Dj B G hA hf ho,rfl,F⟩
theorem IA (k:Nat) {x ix:Operand} {A:OA} {n c sz e t:Nat} {es:List (List Value)} {j:Int} (h:bF E.n ops L d g x ix=some (.slice A n c,.int .i64 j)) (hR:iE C (rd A n sz es).holds)
 (ht:tE E.P t=some (e,sz)) (hz:0<sz) (hj:j=(k:Int)) (hk:k<n):SE E ops ⟨some d,.indexAddr t x ix,ty,ps,af,g⟩ D L C (.pointer (jO A (k*sz))) d:=by
 obtain ⟨B,F,G,H⟩:=o2 h; exact ⟨Lh B G H hR ht hz hj hk,rfl,F⟩
theorem OD (k o':Nat) {x ix:Operand} {b o n c sz e t:Nat} {j:Int} (h:bF E.n ops L d g x ix=some (.slice (some ⟨b,o,none⟩) n c,.int .i64 j))
 (ht:tE E.P t=some (e,sz)) (hj:j=(k:Int)) (hk:k<n) (ho:o+k*sz=o'):SE E ops ⟨some d,.indexAddr t x ix,ty,ps,af,g⟩ D L C (.pointer (some ⟨b,o',none⟩)) d:=by
 obtain ⟨A,B,F,G⟩:=o2 h; exact ⟨F2 A F G ht hj hk ho,rfl,B⟩
/-- the whole of a block, a part of it, one cell -/
theorem LW (i:Nat) {x:Operand} {b t tt n:Nat} {cs:List Value} (h:vF E.n ops L d g x=some (.pointer (some ⟨b,0,none⟩))) (ht:tK E.P t=some (true,n)) (hC:C[i]? =some (bU b tt cs)) (hn:cs.length=n):
 SE E ops ⟨some d,.load t x,ty,ps,af,g⟩ D L C (.agg cs.toArray) d:=by
 obtain ⟨A,B,F⟩:=gT h; exact ⟨sK A F ht (mT i hC sm) hn,rfl,B⟩
theorem LP (vs:List Value) (i:Nat) {x:Operand} {b o t tt n:Nat} {cs:List Value} (h:vF E.n ops L d g x=some (.pointer (some ⟨b,o,none⟩))) (ht:tK E.P t=some (true,n)) (hC:C[i]? =some (bU b tt cs)) (hv:(cs.drop o).take vs.length=vs) (hn:vs.length=n):
 SE E ops ⟨some d,.load t x,ty,ps,af,g⟩ D L C (.agg vs.toArray) d:=by
 obtain ⟨A,B,F⟩:=gT h; exact ⟨sK A F ht (mT i hC hv) hn,rfl,B⟩
theorem Ou (vs:List Value) (i:Nat) {x:Operand} {b o t tt n:Nat} {cs:List Value} (h:vF E.n ops L d g x=some (.pointer (some ⟨b,o,none⟩))) (ht:tK E.P t=some (true,n)) (hC:C[i]? =some (bU b tt cs).ro) (hv:(cs.drop o).take vs.length=vs) (hn:vs.length=n):
 SE E ops ⟨some d,.load t x,ty,ps,af,g⟩ D L C (.agg vs.toArray) d:=by
 obtain ⟨A,B,F⟩:=gT h; exact ⟨sK A F ht (rK i hC hv) hn,rfl,B⟩
theorem L1 (v:Value) (i:Nat) {x:Operand} {b o t tt n:Nat} {cs:List Value} (h:vF E.n ops L d g x=some (.pointer (some ⟨b,o,none⟩))) (ht:tK E.P t=some (false,n)) (hC:C[i]? =some (bU b tt cs)) (hv:(cs.drop o).take 1=[v]):
 SE E ops ⟨some d,.load t x,ty,ps,af,g⟩ D L C v d:=by
 obtain ⟨A,B,F⟩:=gT h; exact ⟨qq A F ht (mT i hC hv),rfl,B⟩
theorem D_ (v:Value) (i:Nat) {x:Operand} {b o t tt n:Nat} {cs:List Value} (h:vF E.n ops L d g x=some (.pointer (some ⟨b,o,none⟩))) (ht:tK E.P t=some (false,n)) (hC:C[i]? =some (bU b tt cs).ro) (hv:(cs.drop o).take 1=[v]):
 SE E ops ⟨some d,.load t x,ty,ps,af,g⟩ D L C v d:=by
 obtain ⟨A,B,F⟩:=gT h; exact ⟨qq A F ht (rK i hC hv),rfl,B⟩
theorem yq (i:Nat) {x:Operand} {b t tt n:Nat} {v:Value} (h:vF E.n ops L d g x=some (.pointer (some ⟨b,0,none⟩))) (ht:tK E.P t=some (false,n)) (hC:C[i]? =some (bU b tt [v])):
 SE E ops ⟨some d,.load t x,ty,ps,af,g⟩ D L C v d:=by
 obtain ⟨A,B,F⟩:=gT h; exact ⟨qq A F ht (mT i hC rfl),rfl,B⟩
theorem Oj (i:Nat) {x:Operand} {b t tt n:Nat} {v:Value} (h:vF E.n ops L d g x=some (.pointer (some ⟨b,0,none⟩))) (ht:tK E.P t=some (false,n)) (hC:C[i]? =some (bU b tt [v]).ro):
 SE E ops ⟨some d,.load t x,ty,ps,af,g⟩ D L C v d:=by
 obtain ⟨A,B,F⟩:=gT h; exact ⟨qq A F ht (rK i hC rfl),rfl,B⟩
/-- what is read of a row -/
theorem iY (k o:Nat) (v:Value) {x:Operand} {A:OA} {t m n sz:Nat} {es:List (List Value)} {e:List Value} (h:vF E.n ops L d g x=some (.pointer (jO A m))) {nn:Nat} (ht:tK E.P t=some (false,nn)) (hR:iE C (rd A n sz es).holds) (he:es[k]? =some e) (hm:m=k*sz+o) (hz:0<sz) (hv:(e.drop o).take 1=[v]):
 SE E ops ⟨some d,.load t x,ty,ps,af,g⟩ D L C v d:=by
 obtain ⟨B,F,G⟩:=gT h; exact ⟨qq B G ht (HY hR he hm hz hv),rfl,F⟩
theorem nz (k o:Nat) (vs:List Value) {x:Operand} {A:OA} {t m n sz:Nat} {es:List (List Value)} {e:List Value} (h:vF E.n ops L d g x=some (.pointer (jO A m))) {nn:Nat} (ht:tK E.P t=some (true,nn)) (hR:iE C (rd A n sz es).holds) (he:es[k]? =some e) (hm:m=k*sz+o) (hz:0<sz) (hv:(e.drop o).take vs.length=vs) (hn:vs.length=nn):
 SE E ops ⟨some d,.load t x,ty,ps,af,g⟩ D L C (.agg vs.toArray) d:=by
 obtain ⟨B,F,G⟩:=gT h; exact ⟨sK B G ht (HY hR he hm hz hv) hn,rfl,F⟩
theorem CL {fop:Operand} {xs:Array Operand} {ts:Array TypeId} {f:FuncId} {args:List Value} {Cp:List au} {v:Value} (c:c_ E.P f args Cp v) (hC:iN C Cp) (h:cF E.n ops L d g fop xs.toList=some (f,args)):
 SE E ops ⟨some d,.call {callee:= .value fop,args:=xs,argTypes:=ts},ty,ps,af,g⟩ D L C v d:=by
 unfold cF at h
 split at h
 ·rename_i hb
  split at h
  ·rename_i hf hx; cases h; exact ⟨z5 (HU hb) hf hx rfl c hC,rfl,Ig hb⟩
  ·cases h
 ·cases h
theorem FU {fn:Fn} {xs ys:Array Operand} {us vs:List Value} (h:uF E.n ops L d g xs.toList ys.toList=some (us,vs)):SE E ops ⟨some d,.makeFunc fn xs ys,ty,ps,af,g⟩ D L C (.func fn us.toArray vs.toArray) d:=by
 obtain ⟨A,B,F,G⟩:=IC h; exact ⟨Gg A F G,rfl,B⟩
theorem cX {fop:Operand} {xs:Array Operand} {ts:Array TypeId} {f:FuncId} {args:List Value} {Cp:List au} {α:Type} {V:α→Value} {p:α→Prop} {N:α→List au} (c:lX E.P f args Cp V p N) (hC:iN C Cp)
 (h:cF E.n ops L d g fop xs.toList=some (f,args)) (k: ∀ x,p x→RJ E ops Q rest D ((d,V x)::L) (N x++C)):
 RJ E ops Q (⟨some d,.call {callee:= .value fop,args:=xs,argTypes:=ts},ty,ps,af,g⟩::rest) D L C:=by
 unfold cF at h
 split at h
 ·rename_i hb
  split at h
  ·rename_i hf hx; cases h; exact JP (HU hb) hf hx rfl c hC (Ig hb) k
  ·cases h
 ·cases h
/-- a box of a struct, of one cell -/
theorem e8 {t:TypeId} {x:Operand} {cs:List Value} (h:vF E.n ops L d g x=some (.agg cs.toArray)) (k: ∀ b,RJ E ops Q rest D ((d,.pointer (some ⟨b,0,none⟩))::L) (bU b t cs::C)):
 RJ E ops Q (⟨some d,.box t x,ty,ps,af,g⟩::rest) D L C:=by
 obtain ⟨A,B,F⟩:=gT h; exact H5 A F rfl B k
theorem rJ {t:TypeId} {x:Operand} {v:Value} (h:vF E.n ops L d g x=some v) (hv:v.cells.toList=[v]) (k: ∀ b,RJ E ops Q rest D ((d,.pointer (some ⟨b,0,none⟩))::L) (bU b t [v]::C)):
 RJ E ops Q (⟨some d,.box t x,ty,ps,af,g⟩::rest) D L C:=by
 obtain ⟨A,B,F⟩:=gT h; exact H5 A F hv B k
theorem AL {t:TypeId} {cs:List Value} (h:gB E.n ops L d g=true) (hz:tZ E.P t=some cs) (k: ∀ b,RJ E ops Q rest D ((d,.pointer (some ⟨b,0,none⟩))::L) (bU b t cs::C)):
 RJ E ops Q (⟨some d,.alloc t,ty,ps,af,g⟩::rest) D L C:=HL (HU h) hz (Ig h) k
/-- a store into the block at the place i of the state -/
def sF (ops:Array Oper) (L:cJ) (g:Option (Nat×Bool)) (x y:Operand):Option (Value×Value):=match im ops L g with
 |true=>match ev L x,ev L y with
  |some u,some v=>some (u,v)
  |_,_=>none
 |false=>none
theorem zw {ops:Array Oper} {L:cJ} {g:Option (Nat×Bool)} {x y:Operand} {u v:Value} (h:sF ops L g x y=some (u,v)):im ops L g=true∧ev L x=some u∧ev L y=some v:=by
 unfold sF at h
 split at h
 ·rename_i hb
  split at h
  ·rename_i hx hy; cases h; exact ⟨hb,hx,hy⟩
  ·cases h
 ·cases h
theorem Je {t n b o tt:Nat} {x y:Operand} {v:Value} {cs cs':List Value} {C':List au} (i:Nat) (h:sF ops L g x y=some (.pointer (some ⟨b,o,none⟩),v)) (ht:(tK E.P t).map (·.2)=some n) (hC:C[i]? =some (bU b tt cs))
 (hk:(v.cells.toList.length==n&&v.cells.toList.all Value.oneCell'&&Nat.ble (o+n) cs.length)=true) (hcs:cs.take o++v.cells.toList++cs.drop (o+n)=cs') (hC':C.set i (bU b tt cs')=C') (k:RJ E ops Q rest D L C'):
 RJ E ops Q (⟨none,.store t x y,ty,ps,af,g⟩::rest) D L C:=by
 obtain ⟨A,B,F⟩:=zw h
 simp only [cz,beq_iff_eq] at hk
 exact fz i A B F ht U hk.1.1 hk.1.2 hC hk.2 hcs hC' k
/-- a store of a whole block, by a struct, by one cell -/
theorem JO {t n b tt:Nat} {x y:Operand} {cs cs':List Value} {C':List au} (i:Nat) (h:sF ops L g x y=some (.pointer (some ⟨b,0,none⟩),.agg cs'.toArray)) (ht:(tK E.P t).map (·.2)=some n) (hC:C[i]? =some (bU b tt cs))
 (hk:(Nat.beq cs'.length n&&cs'.all Value.oneCell'&&Nat.beq n cs.length)=true) (hC':C.set i (bU b tt cs')=C') (k:RJ E ops Q rest D L C'):
 RJ E ops Q (⟨none,.store t x y,ty,ps,af,g⟩::rest) D L C:=by
 obtain ⟨AA,J,K⟩:=zw h
 simp only [cz] at hk
 obtain ⟨⟨A,B⟩,F⟩:=hk
 have H:=Nat.eq_of_beq_eq_true A
 have G:=Nat.eq_of_beq_eq_true F
 exact fz i AA J K ht U H B hC (by rw [Nat.zero_add,G]; exact Nat.ble_self_eq_true _) (by rw [Nat.zero_add,G,List.take_zero,List.drop_length]; show []++cs'++[]=cs'; simp) hC' k
theorem M4 {t n b tt:Nat} {x y:Operand} {v u:Value} {C':List au} (i:Nat) (h:sF ops L g x y=some (.pointer (some ⟨b,0,none⟩),v)) (ht:(tK E.P t).map (·.2)=some n) (hC:C[i]? =some (bU b tt [u]))
 (hv:v.cells.toList=[v]) (hk:(Nat.beq n 1&&v.oneCell')=true) (hC':C.set i (bU b tt [v])=C') (k:RJ E ops Q rest D L C'):
 RJ E ops Q (⟨none,.store t x y,ty,ps,af,g⟩::rest) D L C:=by
 obtain ⟨G,H,AA⟩:=zw h
 rw [cz] at hk
 obtain ⟨A,B⟩:=hk
 have F:=Nat.eq_of_beq_eq_true A
 subst F
 exact fz i G H AA ht hv U (by simp [B]) hC U U hC' k
theorem fF {t n b tt:Nat} {x y:Operand} {cs cs':List Value} (h:sF ops L g x y=some (.pointer (some ⟨b,0,none⟩),.agg cs'.toArray)) (ht:(tK E.P t).map (·.2)=some n) (hk:(Nat.beq cs'.length n&&cs'.all Value.oneCell'&&Nat.beq n cs.length)=true) (k:RJ E ops Q rest D L (bU b tt cs'::C)):RJ E ops Q (⟨none,.store t x y,ty,ps,af,g⟩::rest) D L (bU b tt cs::C):=JO 0 h ht rfl hk rfl k
theorem GA {t n b tt:Nat} {x y:Operand} {v u:Value} (h:sF ops L g x y=some (.pointer (some ⟨b,0,none⟩),v)) (ht:(tK E.P t).map (·.2)=some n) (hv:v.cells.toList=[v]) (hk:(Nat.beq n 1&&v.oneCell')=true) (k:RJ E ops Q rest D L (bU b tt [v]::C)):RJ E ops Q (⟨none,.store t x y,ty,ps,af,g⟩::rest) D L (bU b tt [u]::C):=M4 0 h ht rfl hv hk rfl k
theorem Oz (cs':List Value) {t n b o tt:Nat} {x y:Operand} {v:Value} {cs:List Value} (h:sF ops L g x y=some (.pointer (some ⟨b,o,none⟩),v)) (ht:(tK E.P t).map (·.2)=some n) (hk:(v.cells.toList.length==n&&v.cells.toList.all Value.oneCell'&&Nat.ble (o+n) cs.length)=true) (hcs:cs.take o++v.cells.toList++cs.drop (o+n)=cs') (k:RJ E ops Q rest D L (bU b tt cs'::C)):RJ E ops Q (⟨none,.store t x y,ty,ps,af,g⟩::rest) D L (bU b tt cs::C):=Je 0 h ht rfl hk hcs rfl k
theorem rL {t n b tt:Nat} {x y:Operand} {cs cs':List Value} {A0:au} (h:sF ops L g x y=some (.pointer (some ⟨b,0,none⟩),.agg cs'.toArray)) (ht:(tK E.P t).map (·.2)=some n) (hk:(Nat.beq cs'.length n&&cs'.all Value.oneCell'&&Nat.beq n cs.length)=true) (k:RJ E ops Q rest D L (A0::bU b tt cs'::C)):RJ E ops Q (⟨none,.store t x y,ty,ps,af,g⟩::rest) D L (A0::bU b tt cs::C):=JO 1 h ht rfl hk rfl k
theorem OB (cs':List Value) {t n b o tt:Nat} {x y:Operand} {v:Value} {cs:List Value} {A0:au} (h:sF ops L g x y=some (.pointer (some ⟨b,o,none⟩),v)) (ht:(tK E.P t).map (·.2)=some n) (hk:(v.cells.toList.length==n&&v.cells.toList.all Value.oneCell'&&Nat.ble (o+n) cs.length)=true) (hcs:cs.take o++v.cells.toList++cs.drop (o+n)=cs') (k:RJ E ops Q rest D L (A0::bU b tt cs'::C)):RJ E ops Q (⟨none,.store t x y,ty,ps,af,g⟩::rest) D L (A0::bU b tt cs::C):=Je 1 h ht rfl hk hcs rfl k
theorem Jl {t n b tt:Nat} {x y:Operand} {cs cs':List Value} {A0 A1:au} (h:sF ops L g x y=some (.pointer (some ⟨b,0,none⟩),.agg cs'.toArray)) (ht:(tK E.P t).map (·.2)=some n) (hk:(Nat.beq cs'.length n&&cs'.all Value.oneCell'&&Nat.beq n cs.length)=true) (k:RJ E ops Q rest D L (A0::A1::bU b tt cs'::C)):RJ E ops Q (⟨none,.store t x y,ty,ps,af,g⟩::rest) D L (A0::A1::bU b tt cs::C):=JO 2 h ht rfl hk rfl k
theorem Ot (cs':List Value) {t n b o tt:Nat} {x y:Operand} {v:Value} {cs:List Value} {A0 A1:au} (h:sF ops L g x y=some (.pointer (some ⟨b,o,none⟩),v)) (ht:(tK E.P t).map (·.2)=some n) (hk:(v.cells.toList.length==n&&v.cells.toList.all Value.oneCell'&&Nat.ble (o+n) cs.length)=true) (hcs:cs.take o++v.cells.toList++cs.drop (o+n)=cs') (k:RJ E ops Q rest D L (A0::A1::bU b tt cs'::C)):RJ E ops Q (⟨none,.store t x y,ty,ps,af,g⟩::rest) D L (A0::A1::bU b tt cs::C):=Je 2 h ht rfl hk hcs rfl k
theorem Oc {t n b tt:Nat} {x y:Operand} {cs cs':List Value} {A0 A1 A2:au} (h:sF ops L g x y=some (.pointer (some ⟨b,0,none⟩),.agg cs'.toArray)) (ht:(tK E.P t).map (·.2)=some n) (hk:(Nat.beq cs'.length n&&cs'.all Value.oneCell'&&Nat.beq n cs.length)=true) (k:RJ E ops Q rest D L (A0::A1::A2::bU b tt cs'::C)):RJ E ops Q (⟨none,.store t x y,ty,ps,af,g⟩::rest) D L (A0::A1::A2::bU b tt cs::C):=JO 3 h ht rfl hk rfl k
theorem Oy {t n b tt:Nat} {x y:Operand} {v u:Value} {A0 A1 A2:au} (h:sF ops L g x y=some (.pointer (some ⟨b,0,none⟩),v)) (ht:(tK E.P t).map (·.2)=some n) (hv:v.cells.toList=[v]) (hk:(Nat.beq n 1&&v.oneCell')=true) (k:RJ E ops Q rest D L (A0::A1::A2::bU b tt [v]::C)):RJ E ops Q (⟨none,.store t x y,ty,ps,af,g⟩::rest) D L (A0::A1::A2::bU b tt [u]::C):=M4 3 h ht rfl hv hk rfl k
theorem LF (cs':List Value) {t n b o tt:Nat} {x y:Operand} {v:Value} {cs:List Value} {A0 A1 A2:au} (h:sF ops L g x y=some (.pointer (some ⟨b,o,none⟩),v)) (ht:(tK E.P t).map (·.2)=some n) (hk:(v.cells.toList.length==n&&v.cells.toList.all Value.oneCell'&&Nat.ble (o+n) cs.length)=true) (hcs:cs.take o++v.cells.toList++cs.drop (o+n)=cs') (k:RJ E ops Q rest D L (A0::A1::A2::bU b tt cs'::C)):RJ E ops Q (⟨none,.store t x y,ty,ps,af,g⟩::rest) D L (A0::A1::A2::bU b tt cs::C):=Je 3 h ht rfl hk hcs rfl k
theorem M3 {t n b tt:Nat} {x y:Operand} {cs cs':List Value} {A0 A1 A2 A3:au} (h:sF ops L g x y=some (.pointer (some ⟨b,0,none⟩),.agg cs'.toArray)) (ht:(tK E.P t).map (·.2)=some n) (hk:(Nat.beq cs'.length n&&cs'.all Value.oneCell'&&Nat.beq n cs.length)=true) (k:RJ E ops Q rest D L (A0::A1::A2::A3::bU b tt cs'::C)):RJ E ops Q (⟨none,.store t x y,ty,ps,af,g⟩::rest) D L (A0::A1::A2::A3::bU b tt cs::C):=JO 4 h ht rfl hk rfl k
theorem OE {t n b tt:Nat} {x y:Operand} {v u:Value} {A0 A1 A2 A3:au} (h:sF ops L g x y=some (.pointer (some ⟨b,0,none⟩),v)) (ht:(tK E.P t).map (·.2)=some n) (hv:v.cells.toList=[v]) (hk:(Nat.beq n 1&&v.oneCell')=true) (k:RJ E ops Q rest D L (A0::A1::A2::A3::bU b tt [v]::C)):RJ E ops Q (⟨none,.store t x y,ty,ps,af,g⟩::rest) D L (A0::A1::A2::A3::bU b tt [u]::C):=M4 4 h ht rfl hv hk rfl k
theorem Nv (cs':List Value) {t n b o tt:Nat} {x y:Operand} {v:Value} {cs:List Value} {A0 A1 A2 A3:au} (h:sF ops L g x y=some (.pointer (some ⟨b,o,none⟩),v)) (ht:(tK E.P t).map (·.2)=some n) (hk:(v.cells.toList.length==n&&v.cells.toList.all Value.oneCell'&&Nat.ble (o+n) cs.length)=true) (hcs:cs.take o++v.cells.toList++cs.drop (o+n)=cs') (k:RJ E ops Q rest D L (A0::A1::A2::A3::bU b tt cs'::C)):RJ E ops Q (⟨none,.store t x y,ty,ps,af,g⟩::rest) D L (A0::A1::A2::A3::bU b tt cs::C):=Je 4 h ht rfl hk hcs rfl k
theorem G2 {t n b tt:Nat} {x y:Operand} {cs cs':List Value} {A0 A1 A2 A3 A4:au} (h:sF ops L g x y=some (.pointer (some ⟨b,0,none⟩),.agg cs'.toArray)) (ht:(tK E.P t).map (·.2)=some n) (hk:(Nat.beq cs'.length n&&cs'.all Value.oneCell'&&Nat.beq n cs.length)=true) (k:RJ E ops Q rest D L (A0::A1::A2::A3::A4::bU b tt cs'::C)):RJ E ops Q (⟨none,.store t x y,ty,ps,af,g⟩::rest) D L (A0::A1::A2::A3::A4::bU b tt cs::C):=JO 5 h ht rfl hk rfl k
theorem Kp {t n b tt:Nat} {x y:Operand} {cs cs':List Value} {A0 A1 A2 A3 A4 A5:au} (h:sF ops L g x y=some (.pointer (some ⟨b,0,none⟩),.agg cs'.toArray)) (ht:(tK E.P t).map (·.2)=some n) (hk:(Nat.beq cs'.length n&&cs'.all Value.oneCell'&&Nat.beq n cs.length)=true) (k:RJ E ops Q rest D L (A0::A1::A2::A3::A4::A5::bU b tt cs'::C)):RJ E ops Q (⟨none,.store t x y,ty,ps,af,g⟩::rest) D L (A0::A1::A2::A3::A4::A5::bU b tt cs::C):=JO 6 h ht rfl hk rfl k
theorem Oq {t n b tt:Nat} {x y:Operand} {v u:Value} {A0 A1 A2 A3 A4 A5:au} (h:sF ops L g x y=some (.pointer (some ⟨b,0,none⟩),v)) (ht:(tK E.P t).map (·.2)=some n) (hv:v.cells.toList=[v]) (hk:(Nat.beq n 1&&v.oneCell')=true) (k:RJ E ops Q rest D L (A0::A1::A2::A3::A4::A5::bU b tt [v]::C)):RJ E ops Q (⟨none,.store t x y,ty,ps,af,g⟩::rest) D L (A0::A1::A2::A3::A4::A5::bU b tt [u]::C):=M4 6 h ht rfl hv hk rfl k
theorem N6 (cs':List Value) {t n b o tt:Nat} {x y:Operand} {v:Value} {cs:List Value} {A0 A1 A2 A3 A4 A5:au} (h:sF ops L g x y=some (.pointer (some ⟨b,o,none⟩),v)) (ht:(tK E.P t).map (·.2)=some n) (hk:(v.cells.toList.length==n&&v.cells.toList.all Value.oneCell'&&Nat.ble (o+n) cs.length)=true) (hcs:cs.take o++v.cells.toList++cs.drop (o+n)=cs') (k:RJ E ops Q rest D L (A0::A1::A2::A3::A4::A5::bU b tt cs'::C)):RJ E ops Q (⟨none,.store t x y,ty,ps,af,g⟩::rest) D L (A0::A1::A2::A3::A4::A5::bU b tt cs::C):=Je 6 h ht rfl hk hcs rfl k
theorem Na (cs':List Value) {t n b o tt:Nat} {x y:Operand} {v:Value} {cs:List Value} {A0 A1 A2 A3 A4 A5 A6 A7 A8 A9 A10:au} (h:sF ops L g x y=some (.pointer (some ⟨b,o,none⟩),v)) (ht:(tK E.P t).map (·.2)=some n) (hk:(v.cells.toList.length==n&&v.cells.toList.all Value.oneCell'&&Nat.ble (o+n) cs.length)=true) (hcs:cs.take o++v.cells.toList++cs.drop (o+n)=cs') (k:RJ E ops Q rest D L (A0::A1::A2::A3::A4::A5::A6::A7::A8::A9::A10::bU b tt cs'::C)):RJ E ops Q (⟨none,.store t x y,ty,ps,af,g⟩::rest) D L (A0::A1::A2::A3::A4::A5::A6::A7::A8::A9::A10::bU b tt cs::C):=Je 11 h ht rfl hk hcs rfl k
end
section
variable {E:dK} {y:Code} {Q:cv} {D:List Deferred} {L:List (Nat×Value)} {C:List au}
theorem WS {id:Nat} {ops:Array Oper} (h: ∀ K:Act→World→Prop,(∀ D L C,WJ E y Q D L C→KJ E K D L C)→RJ E ops (Exit.then K Q) ops.toList D L C):WJ E (.seq (.region id ops false) y) Q D L C:=aw fun K hK=>aF (h K hK)
theorem RK {ops:Array Oper} {K:Act→World→Prop} {Q':cv} (hK: ∀ D L C,WJ E y Q D L C→KJ E K D L C) (k:WJ E y Q D L C):RJ E ops (Exit.then K Q') [] D L C:=aK (bu (hK _ _ _ k))
theorem KK {K:Act→World→Prop} {Q':cv} (hK: ∀ D L C,WJ E y Q D L C→KJ E K D L C) (k:WJ E y Q D L C):KJ E (Exit.then K Q' .normal) D L C:=bu (hK _ _ _ k)
theorem WK {K:Act→World→Prop} {Q':cv} (hK: ∀ D L C,WJ E y Q D L C→KJ E K D L C) (k:WJ E y Q D L C):WJ E .skip (Exit.then K Q') D L C:=cT (bu (hK _ _ _ k))
end
theorem DT {p:Prop} [Decidable p] (h:decide p=true):p:=of_decide_eq_true h
theorem DF {p:Prop} [Decidable p] (h:decide p=false): ¬ p:=of_decide_eq_false h
theorem XT {p:Prop} [Decidable p] (h:(!decide p)=true): ¬ p:=by simpa using h
theorem XF {p:Prop} [Decidable p] (h:(!decide p)=false):p:=by simpa using h
/-- what a function hands back: one result, two, three, that lie in slots -/
theorem Q1 {E:dK} {fn:Func} {K:Act→World→Prop} {L:cJ} {C:List au} {t:Nat} {u v:Value} (hQ: ∀ D L C,LJ E fn (vq E.w0 v) D L C→KJ E K D L C) (hS:E.S=pw) (hr:fn.results.toList=[.tmp t]) (hl:L.lookup t=some u) (e:u=v):KJ E K [] L C:=
 hQ _ _ _ (ig (vs:=[u]) (by rw [hr]; exact ⟨hl,trivial⟩) fun w hs=>wE e (by rw [hS] at hs; exact hs))
theorem Q2 {E:dK} {fn:Func} {K:Act→World→Prop} {L:cJ} {C:List au} {t s:Nat} {u x v:Value} (hQ: ∀ D L C,LJ E fn (vq E.w0 v) D L C→KJ E K D L C) (hS:E.S=pw) (hr:fn.results.toList=[.tmp t,.tmp s]) (hl:L.lookup t=some u) (hm:L.lookup s=some x) (e:vT [u,x]=v):KJ E K [] L C:=
 hQ _ _ _ (ig (vs:=[u,x]) (by rw [hr]; exact ⟨hl,hm,trivial⟩) fun w hs=>wE e (by rw [hS] at hs; exact hs))
theorem Q3 {E:dK} {fn:Func} {K:Act→World→Prop} {L:cJ} {C:List au} {t s r:Nat} {u x y v:Value} (hQ: ∀ D L C,LJ E fn (vq E.w0 v) D L C→KJ E K D L C) (hS:E.S=pw) (hr:fn.results.toList=[.tmp t,.tmp s,.tmp r]) (hl:L.lookup t=some u) (hm:L.lookup s=some x) (hn:L.lookup r=some y) (e:vT [u,x,y]=v):KJ E K [] L C:=
 hQ _ _ _ (ig (vs:=[u,x,y]) (by rw [hr]; exact ⟨hl,hm,hn,trivial⟩) fun w hs=>wE e (by rw [hS] at hs; exact hs))
theorem N1 {E:dK} {ops:Array Oper} {D:fu} {C' C1:List au} {F:cJ→List au→Prop} {tb rem:List Nat} {n:Nat} {L:cJ} {C:List au} (i:Nat)
 (h:wa E ops D C' C1 F tb n (rem.filter (· != i)) i L C) (hm:rem.filter (fun i=>rem.all fun j=> !gl (nx ops) j i)=[i]:=by kernel_rfl):TN E ops D C' C1 F tb (n+1) rem L C:=nE [i] hm (ja h re)
theorem NO {E:dK} {ops:Array Oper} {D:fu} {C' C1:List au} {F:cJ→List au→Prop} {tb rem:List Nat} {n i:Nat} {L:cJ} {C:List au} {o:Oper} (ho:ops[i]? =some o) (ht:tb.contains i=false) (rem':List Nat)
 (h: ∀ K:Act→World→Prop,(∀ L' C'',(∀ w,St E.S E.w0 C'' w→St E.S E.w0 C' w)→TN E ops D C' C1 F tb n rem' L' C''→KJ E K D L' C'')→RJ E ops (NQ K) [o] D L C) (hr:rem=rem':=by kernel_rfl):wa E ops D C' C1 F tb n rem i L C:=Ns ho hr ht h
theorem RD {E:dK} {ops:Array Oper} {K:Act→World→Prop} {D:fu} {L:cJ} {C C':List au} {X:cJ→List au→Prop} (hT: ∀ L' C'',(∀ w,St E.S E.w0 C'' w→St E.S E.w0 C' w)→X L' C''→KJ E K D L' C'')
 (k:Nat) (h2:C.drop k=C') (h:X L C):RJ E ops (NQ K) [] D L C:=aK (hT _ _ (fun w hs=>h2▸hs.take (List.drop_sublist k C)) h)
theorem bw {L L':cJ} (h:L'.map (fun p=>L.lookup p.1)=L'.map (fun p=>some p.2)):eb L L':=by
 induction L' with
 |nil=>exact eb.nil _
 |cons p t ih=>
  simp only [List.map_cons,List.cons.injEq] at h
  exact eb.cons h.1 (ih h.2)
theorem JD {C:List au} {A A' B B' D D':au} (i j k:Nat) (h1:C[i]? =some A') (e1:A'.holds=A.holds) (h2:C[j]? =some B') (e2:B'.holds=B.holds) (h3:C[k]? =some D') (e3:D'.holds=D.holds):iN C [A,B,D]:=dN i h1 e1 (dN j h2 e2 (dN k h3 e3 aH))
theorem cP {E:dK} {c:Operand} {x y:Code} {b:Bool} {Q:cv} {D:List Deferred} {L:List (Nat×Value)} {C:List au} (hc:ev L c=some (.bool b)) (h2:b=false→WJ E y Q D L C) (h1:b=true→WJ E x Q D L C):WJ E (.cond c x y) Q D L C:=cO hc h1 h2
theorem cw {E:dK} {ops:Array Oper} {Q:cv} {rest:List Oper} {D:List Deferred} {L:List (Nat×Value)} {C:List au} {t:Nat} {b:Bool} (h:L.lookup t=some (.bool b)) (h2:b=false→RJ E ops Q rest D ((t,.bool false)::L) C) (h1:b=true→RJ E ops Q rest D ((t,.bool true)::L) C):RJ E ops Q rest D L C:=cE h h1 h2
theorem f_ {E:dK} {ops:Array Oper} {Q:cv} {rest:List Oper} {D:List Deferred} {L:List (Nat×Value)} {C:List au} {t:Nat} {b:Bool} {os:List Oper} (h:L.lookup t=some (.bool b)) (h2:b=false→DJ E ops D C (fun L2=>RJ E ops Q rest D L2 C) os ((t,.bool false)::L)) (h1:b=true→DJ E ops D C (fun L2=>RJ E ops Q rest D L2 C) os ((t,.bool true)::L)):DJ E ops D C (fun L2=>RJ E ops Q rest D L2 C) os L:=vJ h h1 h2
theorem c0 {L:List (Nat×Value)}: ∀ (k:Nat) {L2:List (Nat×Value)} (q:eb L (L2.drop k)) (h:(L2.take k).map (fun p=>L.lookup p.1)=(L2.take k).map (fun p=>some p.2):=by rfl),eb L L2
 |0,_,q,_=>q
 |_+1,[],_,_=>eb.nil _
 |k+1,p::L2,q,h=>by
  obtain ⟨A,B⟩:=List.cons.inj (show L.lookup p.1::(L2.take k).map (fun p=>L.lookup p.1)=some p.2::(L2.take k).map (fun p=>some p.2) from h)
  exact eb.cons (t:=p.1) (v:=p.2) A (c0 k q B)
theorem oX {E:dK} {ops:Array Oper} {Q:cv} {rest:List Oper} {D:List Deferred} {L:List (Nat×Value)} {C:List au} {d:Nat} {ty:TypeId} {ps:String} {af:Array Edge} {g:Option (Nat×Bool)} {op:Op} (k:RJ E ops Q rest D ((d,undef)::L) C) (h:(x8 ops L g&&Nat.blt d E.n)=true:=by rfl):RJ E ops Q (⟨some d,op,ty,ps,af,g⟩::rest) D L C:=rS (OX h) k
theorem dX {E:dK} {ops:Array Oper} {F:List (Nat×Value)→Prop} {rest:List Oper} {D:List Deferred} {L:List (Nat×Value)} {C:List au} {d:Nat} {ty:TypeId} {ps:String} {af:Array Edge} {g:Option (Nat×Bool)} {op:Op} (k:DJ E ops D C F rest ((d,undef)::L)) (h:(x8 ops L g&&Nat.blt d E.n)=true:=by rfl):DJ E ops D C F (⟨some d,op,ty,ps,af,g⟩::rest) L:=dS (OX h) k
end
section
open Go.RowKit
section
variable {E:dK} {ops:Array Oper} {Q:cv} {rest:List Oper} {D:List Deferred} {L:List (Nat×Value)} {C:List au}
variable {d:Nat} {ty:TypeId} {ps:String} {af:Array Edge} {g:Option (Nat×Bool)}
theorem HC {P:Program} {t e sz:Nat} (h:tE P t=some (e,sz)) (w:World):P.underlying t=some (.slice e)∧(sizeOf e).run P w= .ok sz w:=by
 unfold tE at h
 split at h
 ·rename_i e' hu
  split at h
  ·rename_i i hi
   cases h
   exact ⟨hu,by simp [sizeOf,typeInfo,hi]⟩
  ·cases h
 ·cases h
theorem Aw {P:Program} {t e:Nat} (h:P.underlying t=some (.slice e)):P.underlying t=some (.slice (P.elem t)):=by
 rw [h]; simp [Program.elem,h]
theorem Gu {P:Program} {t e:Nat} (h:P.underlying t=some (.slice e)):P.elem t=e:=by simp [Program.elem,h]
/-- s[:k] -/
theorem OF (k:Nat) {x hi:Operand} {t e sz n c:Nat} {A:OA} {j:Int} (h:bF E.n ops L d g x hi=some (.slice A n c,.int .i64 j)) (ht:tE E.P t=some (e,sz)) (hj:j=(k:Int)) (hk:k≤c):
 SE E ops ⟨some d,.slice t x none (some hi) none,ty,ps,af,g⟩ D L C (.slice A k c) d:=by
 obtain ⟨H,AA,J,K⟩:=o2 h
 subst hj
 refine ⟨dk H sm fun a w B hs=>?_,U,AA⟩
 obtain ⟨hu,hz⟩:=HC ht w
 have hr:=run_slice_h (P:=E.P) w t A n c (Aw hu) .i64 (k:Int) om om
 rw [Gu hu,hz] at hr
 have G:(if c=0 then A else A.map (·.add (0*sz)))=A:=by
  split
  ·rfl
  ·cases A with
   |none=>rfl
   |some ad=>simp [Addr.add]
 simp only [Result.andThen,Int.toNat_natCast,sliced,G,Nat.sub_zero] at hr
 have F:=run_sliceAt_slice (P:=E.P) w t (.slice A n c) none (some (.int .i64 (k:Int))) none (Aw hu)
 simp [execOp,B.ev J,B.ev K,F,hr]
/-- an element of a row whose place is known -/
theorem Ok (k:Nat) {x ix:Operand} {A:OA} {ad:Addr} {n c sz e t:Nat} {j:Int} (h:bF E.n ops L d g x ix=some (.slice A n c,.int .i64 j)) (hA:A=some ad) (ht:tE E.P t=some (e,sz)) (hj:j=(k:Int)) (hk:k<n):
 SE E ops ⟨some d,.indexAddr t x ix,ty,ps,af,g⟩ D L C (.pointer (jO A (k*sz))) d:=by
 obtain ⟨F,G,H,AA⟩:=o2 h
 refine ⟨dk F sm fun a w B hs=>?_,U,G⟩
 subst hA hj
 simp [execOp,B.ev H,B.ev AA,jO,nP ht hk]
end
theorem Gn {w:World} {a:OA} {c e sz:Nat} {es:List (List Value)} (h:(own a c e sz es).holds w):es.length≤c:=by
 rcases h.2.2 with ⟨A,B⟩|⟨g,cap,cur,hv,_,_,C,_⟩
 ·omega
 ·injection hv with _ _ hc; omega
end
section
open Go.RowKit
/-- an array's length, its elements' type and their size -/
def aE (P:Program) (t:TypeId):Option (Nat×TypeId×Nat):=
 match P.underlying t with
 |some (.array n e)=>match P.info? e with
  |some i=>some (n,e,i.size)
  |none=>none
 |_=>none
theorem As {P:Program} {t n e sz:Nat} (h:aE P t=some (n,e,sz)) (w:World):P.underlying t=some (.array n e)∧(sizeOf e).run P w= .ok sz w:=by
 unfold aE at h
 split at h
 ·rename_i n' e' hu
  split at h
  ·rename_i i hi
   cases h
   exact ⟨hu,by simp [sizeOf,typeInfo,hi]⟩
  ·cases h
 ·cases h
theorem rq {P:Program} {t n e sz:Nat} (h:aE P t=some (n,e,sz)) (a:Addr) (w:World):
 (Instr.sliceAt t (.pointer (some a)) none none none).run P w= .ok (.slice (some a) n n) w:=by
 obtain ⟨hu,hz⟩:=As h w
 have A:a.add 0=a:=by simp [Addr.add]
 simp [Instr.sliceAt,underlying,hu,Instr.sureAddr,Instr.sliceBounds,hz,A]
theorem ry {P:Program} {t n e sz:Nat} (h:aE P t=some (n,e,sz)) (a:Addr) {k:Nat} (hk:k<n) (w:World):
 (Instr.indexAt t (.pointer (some a)) (.int .i64 (k:Int))).run P w= .ok (.pointer (some (a.add (k*sz)))) w:=by
 obtain ⟨hu,hz⟩:=As h w
 have A: ¬ n≤k:=by omega
 simp [Instr.indexAt,underlying,hu,Instr.sureAddr,asIntOf,hz,A]
 try exact fun h=>absurd h A
 try omega
section
variable {E:dK} {ops:Array Oper} {Q:cv} {rest:List Oper} {D:List Deferred} {L:List (Nat×Value)} {C:List au}
variable {dst:Option Nat} {ty:TypeId} {ps:String} {af:Array Edge} {g:Option (Nat×Bool)}
theorem yQ {x:Operand} {a:Addr} {t n e sz:Nat} (hg:im ops L g=true) (hx:ev L x=some (.pointer (some a))) (ht:aE E.P t=some (n,e,sz)):
 SD E ops ⟨dst,.slice t x none none none,ty,ps,af,g⟩ D L C (.slice (some a) n n):=
 dk hg sm fun b w A hs=>by
  simp [execOp,A.ev hx,rq ht]
theorem yz {x ix:Operand} {a:Addr} {t n e sz k:Nat} {j:Int} (hg:im ops L g=true) (hx:ev L x=some (.pointer (some a))) (hi:ev L ix=some (.int .i64 j)) (ht:aE E.P t=some (n,e,sz)) (hj:j=(k:Int)) (hk:k<n):
 SD E ops ⟨dst,.indexAddr t x ix,ty,ps,af,g⟩ D L C (.pointer (jO (some a) (k*sz))):=
 dk hg sm fun b w A hs=>by
  subst hj
  simp [execOp,A.ev hx,A.ev hi,jO,ry ht a hk]
end
end
section
open Go.RowKit
/-- a table of facts on the program's types -/
structure yc where
 tk:List (Nat×Bool×Nat)
 fo:List (Nat×List (Option Nat))
 sl:List Nat
def Kw {α:Type}:List (Nat×α)→Nat→Option α
 |[],_=>none
 |(k,v)::l,t=>match Nat.beq k t with
  |true=>some v
  |false=>Kw l t
theorem vu {α:Type}: ∀ {l:List (Nat×α)} {t:Nat} {v:α},Kw l t=some v→(t,v)∈l
 |[],t,v,h=>by simp [Kw] at h
 |(k,u)::l,t,v,h=>by
  unfold Kw at h
  split at h
  ·rename_i hb
   cases h
   rw [Nat.eq_of_beq_eq_true hb]; exact cf
  ·exact db _ (vu h)
def FQ:List Nat→Nat→Bool
 |[],_=>false
 |k::l,t=>match Nat.beq k t with
  |true=>true
  |false=>FQ l t
theorem wQ: ∀ {l:List Nat} {t:Nat},FQ l t=true→t∈l
 |[],t,h=>by simp [FQ] at h
 |k::l,t,h=>by
  unfold FQ at h
  split at h
  ·rename_i hb
   rw [Nat.eq_of_beq_eq_true hb]; exact cf
  ·exact db _ (wQ h)
def yc.Fk (T:yc) (t:Nat):Option (Bool×Nat):=Kw T.tk t
def yc.foF (T:yc) (s f:Nat):Option Nat:=match Kw T.fo s with
 |some l=>match l[f]? with
  |some (some k)=>some k
  |_=>none
 |none=>none
structure jw (P:Program) (T:yc):Prop where
 tk: ∀ p∈T.tk,tK P p.1=some p.2
 fo: ∀ p∈T.fo,∀ f k,p.2[f]? =some (some k)→qd P p.1 f=some k
 sl: ∀ t∈T.sl,∃ e,P.underlying t=some (.slice e)
theorem jw.Fk {P:Program} {T:yc} (h:jw P T) {t:Nat} {r:Bool×Nat} (e:T.Fk t=some r):tK P t=some r:=h.tk _ (vu e)
theorem jw.foF {P:Program} {T:yc} (h:jw P T) {s f k:Nat} (e:T.foF s f=some k):qd P s f=some k:=by
 unfold yc.foF at e
 split at e
 ·rename_i l hl
  split at e
  ·rename_i k' hk
   cases e
   exact h.fo _ (vu hl) f k hk
  ·cases e
 ·cases e
def MR (P:Program) (T:yc):Bool:=(T.tk.all fun p=>decide (tK P p.1=some p.2))&&(T.fo.all fun p=>(List.range p.2.length).all fun f=>match p.2[f]? with
 |some (some k)=>decide (qd P p.1 f=some k)
 |_=>true)&&T.sl.all fun t=>match P.underlying t with
 |some (.slice _)=>true
 |_=>false
theorem JZ {P:Program} {T:yc} (h:MR P T=true):jw P T:=by
 unfold MR at h
 rw [cz,cz] at h
 obtain ⟨⟨B,C⟩,D⟩:=h
 refine ⟨fun p hp=>by simpa using cm.1 B p hp,fun p hp f k hk=>?_,fun t ht=>?_⟩
 ·have A:=cm.1 (cm.1 C p hp) f (List.mem_range.2 (bg.1 hk).1)
  rw [hk] at A
  simpa using A
 ·have A:=cm.1 D t ht
  split at A
  ·rename_i e he; exact ⟨e,he⟩
  ·cases A
end
section
theorem yK:tK Tryz.prog 3=some (false,1):=by kernel_rfl
theorem Oi:tK Tryz.prog 5=some (false,1):=by kernel_rfl
theorem N7:tK Tryz.prog 22=some (false,1):=by kernel_rfl
theorem N3:tK Tryz.prog 25=some (false,1):=by kernel_rfl
theorem Nw:tK Tryz.prog 26=some (false,1):=by kernel_rfl
theorem NM:tK Tryz.prog 28=some (true,7):=by kernel_rfl
theorem NR:tK Tryz.prog 29=some (false,1):=by kernel_rfl
theorem Np:tK Tryz.prog 30=some (false,1):=by kernel_rfl
theorem Nd:tK Tryz.prog 32=some (true,11):=by kernel_rfl
theorem NI:tK Tryz.prog 36=some (true,15):=by kernel_rfl
theorem M6:tK Tryz.prog 38=some (true,2):=by kernel_rfl
theorem N5:tK Tryz.prog 39=some (false,1):=by kernel_rfl
theorem N0:tK Tryz.prog 41=some (true,3):=by kernel_rfl
theorem Nb:tK Tryz.prog 43=some (true,7):=by kernel_rfl
theorem NX:tK Tryz.prog 51=some (false,1):=by kernel_rfl
theorem N8:tK Tryz.prog 75=some (false,1):=by kernel_rfl
theorem Ni:tK Tryz.prog 86=some (true,4):=by kernel_rfl
theorem NW:tK Tryz.prog 97=some (true,15):=by kernel_rfl
theorem MD:tK Tryz.prog 102=some (true,5):=by kernel_rfl
theorem K_:tK Tryz.prog 113=some (true,2):=by kernel_rfl
theorem MK:tK Tryz.prog 122=some (false,1):=by kernel_rfl
theorem Ml:tK Tryz.prog 123=some (false,1):=by kernel_rfl
theorem L_:tK Tryz.prog 128=some (true,9):=by kernel_rfl
theorem MG:tK Tryz.prog 130=some (true,3):=by kernel_rfl
theorem Lz:tK Tryz.prog 131=some (false,1):=by kernel_rfl
theorem MJ:tK Tryz.prog 133=some (true,2):=by kernel_rfl
theorem Ms:tK Tryz.prog 135=some (true,3):=by kernel_rfl
theorem KF:tK Tryz.prog 179=some (true,2):=by kernel_rfl
theorem Mh:tK Tryz.prog 180=some (true,8):=by kernel_rfl
theorem Mk:tK Tryz.prog 183=some (true,4):=by kernel_rfl
theorem Ll:tK Tryz.prog 199=some (true,1):=by kernel_rfl
theorem MA:tK Tryz.prog 200=some (true,4):=by kernel_rfl
theorem Lw:tK Tryz.prog 251=some (true,1):=by kernel_rfl
theorem Mq:tK Tryz.prog 274=some (false,1):=by kernel_rfl
theorem Ma:tK Tryz.prog 279=some (false,1):=by kernel_rfl
theorem LQ:tK Tryz.prog 281=some (true,2):=by kernel_rfl
theorem Cr:(tK Tryz.prog 3).map (·.2)=some 1:=by rw [yK]; rfl
theorem NH:(tK Tryz.prog 22).map (·.2)=some 1:=by rw [N7]; rfl
theorem Nu:(tK Tryz.prog 25).map (·.2)=some 1:=by rw [N3]; rfl
theorem N2:(tK Tryz.prog 26).map (·.2)=some 1:=by rw [Nw]; rfl
theorem NL:(tK Tryz.prog 28).map (·.2)=some 7:=by rw [NM]; rfl
theorem Bh:(tK Tryz.prog 29).map (·.2)=some 1:=by rw [NR]; rfl
theorem NY:(tK Tryz.prog 30).map (·.2)=some 1:=by rw [Np]; rfl
theorem rm:(tK Tryz.prog 32).map (·.2)=some 11:=by rw [Nd]; rfl
theorem JX:(tK Tryz.prog 36).map (·.2)=some 15:=by rw [NI]; rfl
theorem dC:(tK Tryz.prog 38).map (·.2)=some 2:=by rw [M6]; rfl
theorem K7:(tK Tryz.prog 39).map (·.2)=some 1:=by rw [N5]; rfl
theorem NN:(tK Tryz.prog 41).map (·.2)=some 3:=by rw [N0]; rfl
theorem E_:(tK Tryz.prog 43).map (·.2)=some 7:=by rw [Nb]; rfl
theorem M8:(tK Tryz.prog 51).map (·.2)=some 1:=by rw [NX]; rfl
theorem NU:(tK Tryz.prog 75).map (·.2)=some 1:=by rw [N8]; rfl
theorem M_:(tK Tryz.prog 86).map (·.2)=some 4:=by rw [Ni]; rfl
theorem wk:(tK Tryz.prog 97).map (·.2)=some 15:=by rw [NW]; rfl
theorem H3:(tK Tryz.prog 102).map (·.2)=some 5:=by rw [MD]; rfl
theorem nc:(tK Tryz.prog 113).map (·.2)=some 2:=by rw [K_]; rfl
theorem LS:(tK Tryz.prog 122).map (·.2)=some 1:=by rw [MK]; rfl
theorem Ar:(tK Tryz.prog 123).map (·.2)=some 1:=by rw [Ml]; rfl
theorem KO:(tK Tryz.prog 128).map (·.2)=some 9:=by rw [L_]; rfl
theorem FB:(tK Tryz.prog 130).map (·.2)=some 3:=by rw [MG]; rfl
theorem KQ:(tK Tryz.prog 131).map (·.2)=some 1:=by rw [Lz]; rfl
theorem Ld:(tK Tryz.prog 133).map (·.2)=some 2:=by rw [MJ]; rfl
theorem Ib:(tK Tryz.prog 135).map (·.2)=some 3:=by rw [Ms]; rfl
theorem Eb:(tK Tryz.prog 179).map (·.2)=some 2:=by rw [KF]; rfl
theorem KI:(tK Tryz.prog 180).map (·.2)=some 8:=by rw [Mh]; rfl
theorem j2:(tK Tryz.prog 183).map (·.2)=some 4:=by rw [Mk]; rfl
theorem Ak:(tK Tryz.prog 199).map (·.2)=some 1:=by rw [Ll]; rfl
theorem K1:(tK Tryz.prog 200).map (·.2)=some 4:=by rw [MA]; rfl
theorem Dt:(tK Tryz.prog 251).map (·.2)=some 1:=by rw [Lw]; rfl
theorem uo:(tK Tryz.prog 274).map (·.2)=some 1:=by rw [Mq]; rfl
theorem DO:(tK Tryz.prog 279).map (·.2)=some 1:=by rw [Ma]; rfl
theorem oR:(tK Tryz.prog 281).map (·.2)=some 2:=by rw [LQ]; rfl
theorem uB:aE Tryz.prog 207=some (3,206,2):=by kernel_rfl
theorem rr (l:List ab): ∀ v∈(l.map ab.cells).flatten,v.oneCell'=true:=lj (fun _=>rfl) l
theorem pB (l:List aG): ∀ v∈(l.map aG.cells).flatten,v.oneCell'=true:=lj (fun _=>rfl) l
theorem oV (l:List av): ∀ v∈(l.map av.cells).flatten,v.oneCell'=true:=lj (fun _=>rfl) l
theorem rl (l:List cV): ∀ v∈(l.map cV.cells).flatten,v.oneCell'=true:=lj (fun _=>rfl) l
theorem rp (l:List bD): ∀ v∈(l.map bD.cells).flatten,v.oneCell'=true:=lj (fun _=>rfl) l
theorem Nr:tA Tryz.prog 22=some (128,9,72,(Value.agg [(vI 0),(vI 0),(vI 0),(vI 0),(vI 0),(vI 0),(vI 0),(Value.int .u8 0),(vI 0)].toArray)):=by kernel_rfl
theorem Od:tA Tryz.prog 25=some (133,2,32,(Value.agg [(vI 0),(vS none 0 0)].toArray)):=by kernel_rfl
theorem Nl:tA Tryz.prog 26=some (137,4,32,(Value.agg [(vI 0),(vI 0),(vI 0),(vI 0)].toArray)):=by kernel_rfl
theorem ve:tA Tryz.prog 29=some (3,1,8,(vI 0)):=by kernel_rfl
theorem N4:tA Tryz.prog 30=some (75,1,24,(vS none 0 0)):=by kernel_rfl
theorem Nj:tA Tryz.prog 39=some (113,2,16,(Value.agg [(vI 0),(vI 0)].toArray)):=by kernel_rfl
theorem Of:tA Tryz.prog 51=some (29,1,24,(vS none 0 0)):=by kernel_rfl
theorem M9:tA Tryz.prog 75=some (43,7,64,(Value.agg [(vB false),(vB false),(vI 0),(vI 0),(vI 0),(vI 0),(vS none 0 0)].toArray)):=by kernel_rfl
theorem Lm:tA Tryz.prog 121=some (38,2,16,(Value.agg [(vI 0),(vI 0)].toArray)):=by kernel_rfl
theorem KD:tA Tryz.prog 122=some (121,1,24,(vS none 0 0)):=by kernel_rfl
theorem L4:tA Tryz.prog 131=some (130,3,24,(Value.agg [(vI 0),(vI 0),(vI 0)].toArray)):=by kernel_rfl
theorem Ik:tA Tryz.prog 273=some (123,1,8,(Value.map none)):=by kernel_rfl
theorem wX:tA Tryz.prog 274=some (279,1,8,(Value.map none)):=by kernel_rfl
theorem Nh:tB Tryz.prog 24=some ([(vS none 0 0)],[(0,1)]):=by kernel_rfl
theorem Nk:tB Tryz.prog 28=some ([(vS none 0 0),(vI 0),(vS none 0 0),(vS none 0 0),(vI 0),(vI 0),(vI 0)],[(0,1),(1,1),(2,1),(3,1),(4,1),(5,1),(6,1)]):=by kernel_rfl
theorem Co:tB Tryz.prog 32=some ([(vS none 0 0),(vI 0),(vS none 0 0),(vS none 0 0),(vI 0),(vI 0),(vI 0),(vS none 0 0),(vS none 0 0),(vI 0),(vS none 0 0)],[(0,7),(7,1),(8,1),(9,1),(10,1)]):=by kernel_rfl
theorem NB:tB Tryz.prog 36=some ([(vS none 0 0),(vI 0),(vS none 0 0),(vS none 0 0),(vI 0),(vI 0),(vI 0),(vS none 0 0),(vS none 0 0),(vI 0),(vS none 0 0),(vS none 0 0),(vS none 0 0),(vI 0),(vI 0)],[(0,11),(11,1),(12,1),(13,1),(14,1)]):=by kernel_rfl
theorem jr:tB Tryz.prog 38=some ([(vI 0),(vI 0)],[(0,1),(1,1)]):=by kernel_rfl
theorem NK:tB Tryz.prog 41=some ([(vI 0),(vI 0),(vS none 0 0)],[(0,1),(1,1),(2,1)]):=by kernel_rfl
theorem MF:tB Tryz.prog 43=some ([(vB false),(vB false),(vI 0),(vI 0),(vI 0),(vI 0),(vS none 0 0)],[(0,1),(1,1),(2,2),(4,3)]):=by kernel_rfl
theorem G3:tB Tryz.prog 86=some ([(Value.int .u8 0),(vI 0),(vI 0),(vI 0)],[(0,1),(1,1),(2,1),(3,1)]):=by kernel_rfl
theorem Nm:tB Tryz.prog 97=some ([(vS none 0 0),(vI 0),(vS none 0 0),(vS none 0 0),(vI 0),(vI 0),(vI 0),(vS none 0 0),(vS none 0 0),(vI 0),(vS none 0 0),(vS none 0 0),(vS none 0 0),(vI 0),(vI 0)],[(0,15)]):=by kernel_rfl
theorem CE:tB Tryz.prog 102=some ([(vI 0),(vI 0),(vI 0),(vI 0),(vI 0)],[(0,1),(1,1),(2,1),(3,1),(4,1)]):=by kernel_rfl
theorem w5:tB Tryz.prog 113=some ([(vI 0),(vI 0)],[(0,1),(1,1)]):=by kernel_rfl
theorem Lg:tB Tryz.prog 125=some ([(vS none 0 0),(vI 0),(vS none 0 0),(vS none 0 0),(vI 0),(vI 0),(vI 0),(vS none 0 0),(vS none 0 0),(vI 0),(vS none 0 0),(vS none 0 0),(Value.map none)],[(0,11),(11,1),(12,1)]):=by kernel_rfl
theorem Lp:tB Tryz.prog 128=some ([(vI 0),(vI 0),(vI 0),(vI 0),(vI 0),(vI 0),(vI 0),(Value.int .u8 0),(vI 0)],[(0,1),(1,2),(3,2),(5,2),(7,1),(8,1)]):=by kernel_rfl
theorem HS:tB Tryz.prog 130=some ([(vI 0),(vI 0),(vI 0)],[(0,1),(1,2)]):=by kernel_rfl
theorem Kx:tB Tryz.prog 133=some ([(vI 0),(vS none 0 0)],[(0,1),(1,1)]):=by kernel_rfl
theorem Fb:tB Tryz.prog 135=some ([(vI 0),(vI 0),(vI 0)],[(0,1),(1,2)]):=by kernel_rfl
theorem Es:tB Tryz.prog 137=some ([(vI 0),(vI 0),(vI 0),(vI 0)],[(0,3),(3,1)]):=by kernel_rfl
theorem EG:tB Tryz.prog 179=some ([Value.nilFunc,Value.nilFunc],[(0,1),(1,1)]):=by kernel_rfl
theorem My:tB Tryz.prog 180=some ([Value.nilFunc,Value.nilFunc,Value.nilFunc,Value.nilFunc,Value.nilFunc,Value.nilFunc,Value.nilFunc,Value.nilFunc],[(0,2),(2,2),(4,2),(6,2)]):=by kernel_rfl
theorem z8:tB Tryz.prog 183=some ([(vI 0),(vI 0),(vB false),(vB false)],[(0,2),(2,1),(3,1)]):=by kernel_rfl
theorem Aj:tB Tryz.prog 199=some ([Value.nilFunc],[(0,1)]):=by kernel_rfl
theorem Lb:tB Tryz.prog 200=some ([Value.nilFunc,Value.nilFunc,Value.nilFunc,Value.nilFunc],[(0,1),(1,1),(2,1),(3,1)]):=by kernel_rfl
theorem KR:tB Tryz.prog 251=some ([(vS none 0 0)],[(0,1)]):=by kernel_rfl
theorem HW:tB Tryz.prog 276=some ([(vS none 0 0),(vI 0),(vS none 0 0),(vS none 0 0),(vI 0),(vI 0),(vI 0),(vI 0),(vI 0),(vS none 0 0),(vS none 0 0),(vS none 0 0),(vS none 0 0),(vS none 0 0)],[(0,7),(7,3),(10,1),(11,1),(12,1),(13,1)]):=by kernel_rfl
theorem xg:tB Tryz.prog 281=some ([(vI 0),(vI 0)],[(0,1),(1,1)]):=by kernel_rfl
theorem Bq:tE Tryz.prog 22=some (128,9):=by kernel_rfl
theorem BN:tE Tryz.prog 25=some (133,2):=by kernel_rfl
theorem B7:tE Tryz.prog 26=some (137,4):=by kernel_rfl
theorem de:tE Tryz.prog 29=some (3,1):=by kernel_rfl
theorem pk:tE Tryz.prog 30=some (75,1):=by kernel_rfl
theorem uJ:tE Tryz.prog 33=some (86,4):=by kernel_rfl
theorem CT:tE Tryz.prog 34=some (102,5):=by kernel_rfl
theorem Gz:tE Tryz.prog 39=some (113,2):=by kernel_rfl
theorem E5:tE Tryz.prog 51=some (29,1):=by kernel_rfl
theorem qB:tE Tryz.prog 75=some (43,7):=by kernel_rfl
theorem nt:tE Tryz.prog 121=some (38,2):=by kernel_rfl
theorem Dp:tE Tryz.prog 122=some (121,1):=by kernel_rfl
theorem tJ:tE Tryz.prog 131=some (130,3):=by kernel_rfl
theorem Fh:tE Tryz.prog 204=some (206,2):=by kernel_rfl
theorem H_:tE Tryz.prog 272=some (231,1):=by kernel_rfl
theorem se:tE Tryz.prog 273=some (123,1):=by kernel_rfl
theorem lB:tE Tryz.prog 274=some (279,1):=by kernel_rfl
theorem Da:tE Tryz.prog 291=some (135,3):=by kernel_rfl
theorem Kh:(match Tryz.prog.underlying 38 with |some (.struct fs)=>(fs[0]?).map (fun fl=>tK Tryz.prog fl.type)|_=>none)=some (some (false,1)):=by kernel_rfl
theorem Jo:(match Tryz.prog.underlying 38 with |some (.struct fs)=>(fs[1]?).map (fun fl=>tK Tryz.prog fl.type)|_=>none)=some (some (false,1)):=by kernel_rfl
theorem Ol:tV Tryz.prog 3=some (vI 0):=by kernel_rfl
theorem Oh:tV Tryz.prog 4=some (vB false):=by kernel_rfl
theorem Nn:tV Tryz.prog 38=some (Value.agg [(vI 0),(vI 0)].toArray):=by kernel_rfl
theorem DY:tX Tryz.prog 180=some (4,179):=by kernel_rfl
theorem Ae:tX Tryz.prog 200=some (4,199):=by kernel_rfl
theorem iy:tZ Tryz.prog 3=some [(vI 0)]:=by kernel_rfl
theorem M7:tZ Tryz.prog 28=some [(vS none 0 0),(vI 0),(vS none 0 0),(vS none 0 0),(vI 0),(vI 0),(vI 0)]:=by kernel_rfl
theorem KW:tZ Tryz.prog 29=some [(vS none 0 0)]:=by kernel_rfl
theorem ye:tZ Tryz.prog 32=some [(vS none 0 0),(vI 0),(vS none 0 0),(vS none 0 0),(vI 0),(vI 0),(vI 0),(vS none 0 0),(vS none 0 0),(vI 0),(vS none 0 0)]:=by kernel_rfl
theorem Iu:tZ Tryz.prog 36=some [(vS none 0 0),(vI 0),(vS none 0 0),(vS none 0 0),(vI 0),(vI 0),(vI 0),(vS none 0 0),(vS none 0 0),(vI 0),(vS none 0 0),(vS none 0 0),(vS none 0 0),(vI 0),(vI 0)]:=by kernel_rfl
theorem eI:tZ Tryz.prog 38=some [(vI 0),(vI 0)]:=by kernel_rfl
theorem Nx:tZ Tryz.prog 41=some [(vI 0),(vI 0),(vS none 0 0)]:=by kernel_rfl
theorem Cm:tZ Tryz.prog 43=some [(vB false),(vB false),(vI 0),(vI 0),(vI 0),(vI 0),(vS none 0 0)]:=by kernel_rfl
theorem Ny:tZ Tryz.prog 75=some [(vS none 0 0)]:=by kernel_rfl
theorem KX:tZ Tryz.prog 86=some [(Value.int .u8 0),(vI 0),(vI 0),(vI 0)]:=by kernel_rfl
theorem xU:tZ Tryz.prog 97=some [(vS none 0 0),(vI 0),(vS none 0 0),(vS none 0 0),(vI 0),(vI 0),(vI 0),(vS none 0 0),(vS none 0 0),(vI 0),(vS none 0 0),(vS none 0 0),(vS none 0 0),(vI 0),(vI 0)]:=by kernel_rfl
theorem Fu:tZ Tryz.prog 102=some [(vI 0),(vI 0),(vI 0),(vI 0),(vI 0)]:=by kernel_rfl
theorem xh:tZ Tryz.prog 113=some [(vI 0),(vI 0)]:=by kernel_rfl
theorem LC:tZ Tryz.prog 121=some [(vS none 0 0)]:=by kernel_rfl
theorem Lr:tZ Tryz.prog 123=some [(Value.map none)]:=by kernel_rfl
theorem H8:tZ Tryz.prog 128=some [(vI 0),(vI 0),(vI 0),(vI 0),(vI 0),(vI 0),(vI 0),(Value.int .u8 0),(vI 0)]:=by kernel_rfl
theorem AH:tZ Tryz.prog 130=some [(vI 0),(vI 0),(vI 0)]:=by kernel_rfl
theorem Ia:tZ Tryz.prog 133=some [(vI 0),(vS none 0 0)]:=by kernel_rfl
theorem Ax:tZ Tryz.prog 135=some [(vI 0),(vI 0),(vI 0)]:=by kernel_rfl
theorem LV:tZ Tryz.prog 137=some [(vI 0),(vI 0),(vI 0),(vI 0)]:=by kernel_rfl
theorem DQ:tZ Tryz.prog 179=some [Value.nilFunc,Value.nilFunc]:=by kernel_rfl
theorem MB:tZ Tryz.prog 180=some [Value.nilFunc,Value.nilFunc,Value.nilFunc,Value.nilFunc,Value.nilFunc,Value.nilFunc,Value.nilFunc,Value.nilFunc]:=by kernel_rfl
theorem lL:tZ Tryz.prog 183=some [(vI 0),(vI 0),(vB false),(vB false)]:=by kernel_rfl
theorem Av:tZ Tryz.prog 199=some [Value.nilFunc]:=by kernel_rfl
theorem KA:tZ Tryz.prog 200=some [Value.nilFunc,Value.nilFunc,Value.nilFunc,Value.nilFunc]:=by kernel_rfl
theorem Mp:tZ Tryz.prog 231=some [Value.nilFunc]:=by kernel_rfl
theorem ET:tZ Tryz.prog 251=some [(vS none 0 0)]:=by kernel_rfl
theorem pE:tZ Tryz.prog 281=some [(vI 0),(vI 0)]:=by kernel_rfl
theorem pq:Tryz.prog.underlying 3=some (.int .i64):=by kernel_rfl
theorem Ox:Tryz.prog.underlying 4=some .bool:=by kernel_rfl
theorem Kv:Tryz.prog.underlying 5=some (.int .u8):=by kernel_rfl
theorem Ov:Tryz.prog.underlying 9=some .string:=by kernel_rfl
theorem Md:Tryz.prog.underlying 22=some (.slice 128):=by kernel_rfl
theorem NA:Tryz.prog.underlying 25=some (.slice 133):=by kernel_rfl
theorem JE:Tryz.prog.underlying 26=some (.slice 137):=by kernel_rfl
theorem NZ:Tryz.prog.underlying 29=some (.slice 3):=by kernel_rfl
theorem ND:Tryz.prog.underlying 30=some (.slice 75):=by kernel_rfl
theorem Oe:Tryz.prog.underlying 39=some (.slice 113):=by kernel_rfl
theorem NC:Tryz.prog.underlying 75=some (.slice 43):=by kernel_rfl
theorem oO:Tryz.prog.underlying 123=some (.map 3 38):=by kernel_rfl
theorem Lj:Tryz.prog.underlying 131=some (.slice 130):=by kernel_rfl
theorem ud:Tryz.prog.underlying 144=some (.map 3 4):=by kernel_rfl
theorem L8:Tryz.prog.underlying 227=some (.int .u64):=by kernel_rfl
theorem KN:Tryz.prog.underlying 271=some (.int .u64):=by kernel_rfl
theorem mu:Tryz.prog.underlying 279=some (.map 281 3):=by kernel_rfl
theorem Iw:fL Tryz.prog 38=some [(3,0),(3,1)]:=by kernel_rfl
theorem HQ (d:Nat) (s z:ab) (w:World):(Op.equalIn (d+2) 38 (.agg s.cells.toArray) (.agg z.cells.toArray)).run Tryz.prog w= .ok (decide (s=z)) w:=by
 have hc:(decide (s.Lo=z.Lo)&&(decide (s.Hi=z.Hi)&&true))=decide (s=z):=by rw [Bool.eq_iff_iff]; simp [ab.ext_iff]
 rw [← hc]
 exact pd (d+1) Iw w (j9 w (eW yK U w) (eW yK U w) (lP _ pq w) (j9 w (eW yK U w) (eW yK U w) (lP _ pq w) (vr w)))
theorem uz (x y:Operand) (s z:ab):gj Tryz.prog .eql 38 x y (.agg s.cells.toArray) (.agg z.cells.toArray) (.bool (decide (s=z))):=uD x y (sI Iw) fun w=>HQ 9998 s z w
theorem KB (x y:Operand) (s z:ab):gj Tryz.prog .neq 38 x y (.agg s.cells.toArray) (.agg z.cells.toArray) (.bool (!decide (s=z))):=BV x y (sI Iw) fun w=>HQ 9998 s z w
theorem HR:fL Tryz.prog 281=some [(3,0),(3,1)]:=by kernel_rfl
theorem JY (d:Nat) (s z:aA) (w:World):(Op.equalIn (d+2) 281 (.agg s.cells.toArray) (.agg z.cells.toArray)).run Tryz.prog w= .ok (decide (s=z)) w:=by
 have hc:(decide (s.right=z.right)&&(decide (s.eO=z.eO)&&true))=decide (s=z):=by rw [Bool.eq_iff_iff]; simp [aA.ext_iff]
 rw [← hc]
 exact pd (d+1) HR w (j9 w (eW yK U w) (eW yK U w) (lP _ pq w) (j9 w (eW yK U w) (eW yK U w) (lP _ pq w) (vr w)))
theorem L7:fL Tryz.prog 86=some [(5,0),(3,1),(3,2),(3,3)]:=by kernel_rfl
theorem LH (d:Nat) (s z:aI) (w:World):(Op.equalIn (d+2) 86 (.agg s.cells.toArray) (.agg z.cells.toArray)).run Tryz.prog w= .ok (decide (s=z)) w:=by
 have hc:(decide (s.Kind=z.Kind)&&(decide (s.gh=z.gh)&&(decide (s.ke=z.ke)&&(decide (s.To=z.To)&&true))))=decide (s=z):=by rw [Bool.eq_iff_iff]; simp [aI.ext_iff]
 rw [← hc]
 exact pd (d+1) L7 w (j9 w (eW Oi U w) (eW Oi U w) (lP _ Kv w) (j9 w (eW yK U w) (eW yK U w) (lP _ pq w) (j9 w (eW yK U w) (eW yK U w) (lP _ pq w) (j9 w (eW yK U w) (eW yK U w) (lP _ pq w) (vr w)))))
theorem MC (x y:Operand) (s z:aI):gj Tryz.prog .eql 86 x y (.agg s.cells.toArray) (.agg z.cells.toArray) (.bool (decide (s=z))):=uD x y (sI L7) fun w=>LH 9998 s z w
theorem cu:Tryz.prog.follows .mixedOrders=true:=by kernel_rfl
def TT:yc:=⟨[(1,false,1),(2,false,1),(3,false,1),(4,false,1),(5,false,1),(6,false,1),(7,true,4),(8,true,4),(12,false,1),(15,false,1),(16,false,1),(17,false,1),(18,true,1),(19,true,1),(21,false,1),(22,false,1),(23,true,1),(24,true,1),(25,false,1),(26,false,1),(27,true,7),(28,true,7),(29,false,1),(30,false,1),(31,true,11),(32,true,11),(33,false,1),(34,false,1),(35,true,15),(36,true,15),(37,true,2),(38,true,2),(39,false,1),(40,true,3),(41,true,3),(42,true,7),(43,true,7),(44,false,1),(45,false,1),(46,false,1),(48,false,1),(50,false,1),(51,false,1),(53,false,1),(55,false,1),(56,false,1),(57,false,1),(59,false,1),(61,false,1),(63,false,1),(65,false,1),(67,false,1),(69,false,1),(70,false,1),(71,false,1),(72,false,1),(73,false,1),(74,false,1),(75,false,1),(76,false,1),(78,false,1),(79,false,1),(80,false,1),(81,false,1),(82,false,1),(83,false,1),(84,false,1),(85,true,4),(86,true,4),(88,false,1),(89,false,1),(90,false,1),(91,false,1),(92,false,1),(93,false,1),(94,false,1),(95,false,1),(96,true,15),(97,true,15),(99,false,1),(100,false,1),(101,true,5),(102,true,5),(103,false,1),(104,false,1),(105,false,1),(106,false,1),(107,false,1),(108,false,1),(109,false,1),(110,false,1),(111,false,1),(112,true,2),(113,true,2),(114,false,1),(115,false,1),(116,false,1),(117,false,1),(119,false,1),(120,false,1),(121,false,1),(122,false,1),(123,false,1),(124,true,13),(125,true,13),(126,false,1),(127,true,9),(128,true,9),(129,true,3),(130,true,3),(131,false,1),(132,true,2),(133,true,2),(134,true,3),(135,true,3),(136,true,4),(137,true,4),(138,false,1),(139,false,1),(140,false,1),(141,false,1),(142,false,1),(143,false,1),(144,false,1),(145,false,1),(146,false,1),(147,false,1),(148,false,1),(149,false,1),(150,false,1),(151,false,1),(152,false,1),(153,false,1),(154,false,1),(155,false,1),(156,false,1),(157,false,1),(158,false,1),(159,false,1),(160,false,1),(161,false,1),(162,false,1),(163,false,1),(164,false,1),(166,false,1),(167,false,1),(168,false,1),(169,false,1),(170,false,1),(171,false,1),(172,false,1),(174,false,1),(175,false,1),(176,false,1),(177,false,1),(178,true,2),(179,true,2),(180,true,8),(181,false,1),(182,true,4),(183,true,4),(184,false,1),(185,false,1),(186,false,1),(187,false,1),(188,false,1),(189,false,1),(190,false,1),(191,true,4),(192,true,4),(193,false,1),(194,false,1),(195,false,1),(197,false,1),(198,false,1),(199,true,1),(200,true,4),(201,false,1),(202,false,1),(203,false,1),(204,false,1),(205,true,2),(206,true,2),(207,true,6),(208,false,1),(209,false,1),(210,false,1),(211,false,1),(212,false,1),(213,false,1),(214,false,1),(216,false,1),(217,false,1),(218,false,1),(219,false,1),(220,false,1),(221,false,1),(222,false,1),(223,false,1),(224,false,1),(225,false,1),(226,false,1),(227,false,1),(228,false,1),(230,false,1),(231,false,1),(232,false,1),(233,false,1),(234,false,1),(235,false,1),(236,false,1),(238,false,1),(239,true,3),(240,true,3),(241,false,1),(242,false,1),(243,false,1),(244,false,1),(245,false,1),(246,false,1),(247,false,1),(248,false,1),(249,false,1),(250,true,1),(251,true,1),(253,false,1),(254,false,1),(256,false,1),(257,false,1),(258,false,1),(259,false,1),(260,false,1),(262,false,1),(263,false,1),(264,false,1),(265,false,1),(267,false,1),(268,false,1),(269,false,1),(270,false,1),(271,false,1),(272,false,1),(273,false,1),(274,false,1),(275,true,14),(276,true,14),(277,false,1),(278,false,1),(279,false,1),(280,true,2),(281,true,2),(282,false,1),(283,false,1),(284,false,1),(285,false,1),(286,true,3),(287,true,3),(288,false,1),(289,false,1),(290,false,1),(291,false,1),(292,false,1),(293,false,1),(294,false,1),(295,false,1),(296,false,1),(297,false,1),(298,false,1),(299,false,1),(300,false,1),(301,false,1),(302,false,1),(303,false,1),(304,false,1),(305,false,1),(306,false,1),(307,false,1),(308,false,1),(309,false,1),(310,false,1),(311,false,1),(312,false,1),(313,false,1),(316,true,0),(317,true,0),(318,true,0),(319,false,1),(320,false,1),(321,false,1),(322,false,1),(323,false,1),(324,false,1),(325,false,1),(326,true,11),(327,true,11),(328,false,1),(330,false,1)],[(7,[some 0,some 1,some 2,some 3]),(8,[some 0,some 1,some 2,some 3]),(18,[some 0]),(19,[some 0]),(23,[some 0]),(24,[some 0]),(27,[some 0,some 1,some 2,some 3,some 4,some 5,some 6]),(28,[some 0,some 1,some 2,some 3,some 4,some 5,some 6]),(31,[some 0,some 7,some 8,some 9,some 10]),(32,[some 0,some 7,some 8,some 9,some 10]),(35,[some 0,some 11,some 12,some 13,some 14]),(36,[some 0,some 11,some 12,some 13,some 14]),(37,[some 0,some 1]),(38,[some 0,some 1]),(40,[some 0,some 1,some 2]),(41,[some 0,some 1,some 2]),(42,[some 0,some 1,some 2,some 4]),(43,[some 0,some 1,some 2,some 4]),(85,[some 0,some 1,some 2,some 3]),(86,[some 0,some 1,some 2,some 3]),(96,[some 0]),(97,[some 0]),(101,[some 0,some 1,some 2,some 3,some 4]),(102,[some 0,some 1,some 2,some 3,some 4]),(112,[some 0,some 1]),(113,[some 0,some 1]),(124,[some 0,some 11,some 12]),(125,[some 0,some 11,some 12]),(127,[some 0,some 1,some 3,some 5,some 7,some 8]),(128,[some 0,some 1,some 3,some 5,some 7,some 8]),(129,[some 0,some 1]),(130,[some 0,some 1]),(132,[some 0,some 1]),(133,[some 0,some 1]),(134,[some 0,some 1]),(135,[some 0,some 1]),(136,[some 0,some 3]),(137,[some 0,some 3]),(178,[some 0,some 1]),(179,[some 0,some 1]),(182,[some 0,some 2,some 3]),(183,[some 0,some 2,some 3]),(191,[some 0,some 1,some 2,some 3]),(192,[some 0,some 1,some 2,some 3]),(199,[some 0]),(205,[some 0,some 1]),(206,[some 0,some 1]),(239,[some 0,some 1,some 2]),(240,[some 0,some 1,some 2]),(250,[some 0]),(251,[some 0]),(275,[some 0,some 7,some 10,some 11,some 12,some 13]),(276,[some 0,some 7,some 10,some 11,some 12,some 13]),(280,[some 0,some 1]),(281,[some 0,some 1]),(286,[some 0,some 1,some 2]),(287,[some 0,some 1,some 2]),(326,[some 0,some 1,some 2,some 3,some 4,some 5,some 6,some 7,some 8,some 9,some 10]),(327,[some 0,some 1,some 2,some 3,some 4,some 5,some 6,some 7,some 8,some 9,some 10])],[22,25,26,29,30,33,34,39,51,75,105,121,122,131,204,236,272,273,274,291]⟩
theorem nk:jw Tryz.prog TT:=JZ kr
theorem ct {t:TypeId} {x:Bool×Nat} (h:TT.Fk t=some x:=by rfl):tK Tryz.prog t=some x:=nk.Fk h
theorem fc {s f k:Nat} (h:TT.foF s f=some k:=by rfl):qd Tryz.prog s f=some k:=nk.foF h
end
section
open Go.RowKit
/-- blocks that are read -/
def MM (C:List au) (M:List (Nat×List Value)):Prop:= ∀ p∈M,∀ o vs,(p.2.drop o).take vs.length=vs→At C (some ⟨p.1,o,none⟩) vs
theorem I {C:List au}:MM C []:=fun p h=>by cases h
theorem mc {C:List au} {b t:Nat} {cs:List Value} {M:List (Nat×List Value)} (i:Nat) (hC:C[i]? =some (bU b t cs)) (h:MM C M):MM C ((b,cs)::M):=fun p hp o vs hv=>by
 rcases bB.1 hp with rfl|hp
 ·exact mT i hC hv
 ·exact h p hp o vs hv
theorem mr {C:List au} {b t:Nat} {cs:List Value} {M:List (Nat×List Value)} (i:Nat) (hC:C[i]? =some (bU b t cs).ro) (h:MM C M):MM C ((b,cs)::M):=fun p hp o vs hv=>by
 rcases bB.1 hp with rfl|hp
 ·exact rK i hC hv
 ·exact h p hp o vs hv
def mO:List Prop→Prop
 |[]=>True
 |p::l=>p∧mO l
theorem iI {p:Prop} {l:List Prop} (h:p) (h2:mO l):mO (p::l):=⟨h,h2⟩
/-- the value of an operation, what it asks for, and what is left of the list of places -/
def pv (T:yc) (ops:Array Oper) (M:List (Nat×List Value)) (L:cJ) (hs:List Nat) (g:Option (Nat×Bool)) (op:Op):Option (Value×List Prop×List Nat):=
 match x8 ops L g with
 |true=>some (undef,[],hs)
 |false=>match im ops L g with
  |false=>none
  |true=>match op with
   | .move x=>match ev L x with
    |some v=>some (v,[],hs)
    |none=>none
   | .assign x=>match ev L x with
    |some v=>some (v,[],hs)
    |none=>none
   | .pick c x y=>match ev L c with
    |some (.bool true)=>match ev L x with
     |some v=>some (v,[],hs)
     |none=>none
    |some (.bool false)=>match ev L y with
     |some v=>some (v,[],hs)
     |none=>none
    |_=>none
   | .unOp .not _ x=>match ev L x with
    |some (.bool b)=>some (.bool !b,[],hs)
    |_=>none
   | .extract x i=>match ev L x with
    |some (.tuple vs)=>match vs.toList[i]? with
     |some v=>some (v,[],hs)
     |none=>none
    |_=>none
   | .fieldAddr s x f=>match ev L x with
    |some (.pointer (some ⟨b,o,none⟩))=>match T.foF s f with
     |some k=>some (.pointer (some ⟨b,o+k,none⟩),[],hs)
     |none=>none
    |_=>none
   | .binOp op _ x y _=>match ev L x with
    |some (.int .i64 a)=>match ev L y with
     |some (.int .i64 b)=>match op with
      | .lss=>some (.bool (decide (a<b)),[],hs)
      | .leq=>some (.bool (decide (a≤b)),[],hs)
      | .gtr=>some (.bool (decide (b<a)),[],hs)
      | .geq=>some (.bool (decide (b≤a)),[],hs)
      | .eql=>some (.bool (decide (a=b)),[],hs)
      | .neq=>some (.bool (!decide (a=b)),[],hs)
      | .add=>some (.int .i64 (a+b),[-9223372036854775808≤a+b,a+b≤9223372036854775807],hs)
      | .sub=>some (.int .i64 (a-b),[-9223372036854775808≤a-b,a-b≤9223372036854775807],hs)
      |_=>none
     |_=>none
    |_=>none
   | .load t x=>match ev L x with
    |some (.pointer (some ⟨b,o,none⟩))=>match M[hs.headD 0]? with
     |some (b',cs)=>match T.Fk t with
      |some (false,_)=>match cs[o]? with
       |some v=>some (v,[b'=b],hs.tail)
       |none=>none
      |some (true,n)=>match Nat.beq o 0 with
       |true=>match Nat.beq cs.length n with
        |true=>some (.agg cs.toArray,[b'=b],hs.tail)
        |false=>none
       |false=>none
      |none=>none
     |none=>none
    |_=>none
   | .call c=>match c with
    |{callee:= .builtin .len,args:=xs,argTypes:=ts}=>match xs.toList with
     |[x]=>match ts.toList with
      |[t]=>match ev L x with
       |some (.slice A n c)=>match FQ T.sl t with
        |true=>some (.int .i64 n,[],hs)
        |false=>none
       |_=>none
      |_=>none
     |_=>none
    |_=>none
   |_=>none
section
variable {E:dK} {T:yc} {ops:Array Oper} {M:List (Nat×List Value)} {D:List Deferred} {L:List (Nat×Value)} {C:List au} {hs hs':List Nat}
theorem qZ {cs:List Value} {o:Nat} {v:Value} (h:cs[o]? =some v):(cs.drop o).take [v].length=[v]:=by
 obtain ⟨hl,rfl⟩:=bg.1 h
 rw [List.drop_eq_getElem_cons hl]; rfl
theorem Lu {o:Oper} {v:Value} {S:List Prop} (hT:jw E.P T) (hM:MM C M) (h:pv T ops M L hs o.guard o.op=some (v,S,hs')) (hS:mO S):SD E ops o D L C v:=by
 obtain ⟨dst,op,ty,ps,af,g⟩:=o
 unfold pv at h
 simp only at h
 split at h
 ·rename_i hg
  cases h
  exact D0 hg
 ·split at h
  ·cases h
  ·rename_i hg
   split at h
   ·split at h
    ·rename_i hx; cases h; exact zM hg hx
    ·cases h
   ·split at h
    ·rename_i hx; cases h; exact tQ hg hx
    ·cases h
   ·split at h
    ·rename_i hc
     split at h
     ·rename_i hx; cases h; exact uv hg hc hx
     ·cases h
    ·rename_i hc
     split at h
     ·rename_i hx; cases h; exact tR hg hc hx
     ·cases h
    ·cases h
   ·split at h
    ·rename_i hx; cases h; exact Dx hg hx
    ·cases h
   ·split at h
    ·rename_i vs hx
     split at h
     ·rename_i v' hv; cases h; exact r_ (vs:=vs.toList) hg (by simpa using hx) hv
     ·cases h
    ·cases h
   ·split at h
    ·rename_i hx
     split at h
     ·rename_i hk; cases h; exact HV hg hx (hT.foF hk) rfl
     ·cases h
    ·cases h
   ·split at h
    ·rename_i hx
     split at h
     ·rename_i hy
      split at h
      ·cases h; exact ef hg hx hy nv
      ·cases h; exact ef hg hx hy Mo
      ·cases h; exact ef hg hx hy L6
      ·cases h; exact ef hg hx hy z4
      ·cases h; exact ef hg hx hy s_
      ·cases h; exact ef hg hx hy su
      ·cases h; exact ef hg hx hy (ly ⟨hS.1,hS.2.1⟩)
      ·cases h; exact ef hg hx hy (uw ⟨hS.1,hS.2.1⟩)
      ·cases h
     ·cases h
    ·cases h
   ·split at h
    ·rename_i hx
     split at h
     ·rename_i b' cs hm
      have A:=aP hm
      split at h
      ·rename_i hk
       split at h
       ·rename_i hv
        cases h
        obtain rfl:=hS.1
        exact qq hg hx (hT.Fk hk) (hM _ A _ _ (qZ hv))
       ·cases h
      ·rename_i n hk
       split at h
       ·rename_i ho
        split at h
        ·rename_i hn
         cases h
         obtain rfl:=hS.1
         have H:=Nat.eq_of_beq_eq_true ho
         subst H
         exact sK hg hx (hT.Fk hk) (hM _ A 0 cs sm) (Nat.eq_of_beq_eq_true hn)
        ·cases h
       ·cases h
      ·cases h
     ·cases h
    ·cases h
   ·split at h
    ·rename_i xs ts
     split at h
     ·rename_i x G
      split at h
      ·rename_i t F
       split at h
       ·rename_i hx
        split at h
        ·rename_i B
         cases h
         obtain ⟨e,he⟩:=hT.sl t (wQ B)
         have AA:xs= #[x]:=by apply Array.ext'; simpa using G
         have J:ts= #[t]:=by apply Array.ext'; simpa using F
         subst AA J
         exact Dr hg hx he
        ·cases h
       ·cases h
      ·cases h
     ·cases h
    ·cases h
   ·cases h
def pr (T:yc) (n:Nat) (ops:Array Oper) (M:List (Nat×List Value)):Nat→List Nat→cJ→List Oper→Option (cJ×List Oper×List Prop)
 |0,_,L,rest=>some (L,rest,[])
 |k+1,hs,L,[]=>none
 |k+1,hs,L,o::rest=>match o.dst with
  |none=>none
  |some d=>match Nat.blt d n with
   |false=>none
   |true=>match pv T ops M L hs o.guard o.op with
    |none=>none
    |some (v,S,hs')=>match pr T n ops M k hs' ((d,v)::L) rest with
     |none=>none
     |some (L',rest',S')=>some (L',rest',S++S')
theorem rY: ∀ {S S':List Prop},mO (S++S')→mO S∧mO S'
 |[],S',h=>⟨trivial,h⟩
 |p::S,S',h=>⟨⟨h.1,(rY h.2).1⟩,(rY h.2).2⟩
/-- whatever is closed under single steps -/
theorem Dv {J:List Oper→cJ→Prop} (hT:jw E.P T) (hM:MM C M) (hJ: ∀ o rest L d v,SD E ops o D L C v→o.dst=some d→Nat.blt d E.n=true→J rest ((d,v)::L)→J (o::rest) L):
 ∀ (k:Nat) (hs:List Nat) (L:cJ) (rest:List Oper) {L':cJ} {rest':List Oper} {S:List Prop},pr T E.n ops M k hs L rest=some (L',rest',S)→mO S→J rest' L'→J rest L
 |0,hs,L,rest,L',rest',S,h,hS,hj=>by
  unfold pr at h
  cases h
  exact hj
 |k+1,hs,L,[],L',rest',S,h,hS,hj=>by unfold pr at h; cases h
 |k+1,hs,L,o::rest,L',rest',S,h,hS,hj=>by
  unfold pr at h
  split at h
  ·cases h
  ·rename_i d hd
   split at h
   ·cases h
   ·rename_i hn
    split at h
    ·cases h
    ·rename_i v S1 A hv
     split at h
     ·cases h
     ·rename_i L1 G S2 hr
      cases h
      obtain ⟨B,F⟩:=rY hS
      exact hJ o rest L d v (Lu hT hM hv B) hd hn (Dv hT hM hJ k A _ rest hr F hj)
variable {Q:cv} {rest rest':List Oper} {L0 L':List (Nat×Value)} {S:List Prop} {F:List (Nat×Value)→Prop}
/-- a run of operations, one after the other -/
theorem rP (k:Nat) (hs:List Nat) (hM:MM C M) (j:RJ E ops Q rest' D L' C) (hT:jw E.P T:=by exact nk) (h:pr T E.n ops M k hs L rest=some (L0,rest',S):=by rfl) (hL:L0=L':=by (try dsimp only)<;>rfl) (hS:mO S:=by repeat' first|exact True.intro |refine iI ?_ ?_ |exact rfl|omega|(dsimp only; omega)):RJ E ops Q rest D L C:=by
 subst hL
 exact Dv (J:=fun r L=>RJ E ops Q r D L C) hT hM (fun o rest L d v A B F G=>KZ A B F G) k hs L rest h hS j
theorem dP (k:Nat) (hs:List Nat) (hM:MM C M) (j:DJ E ops D C F rest' L') (hT:jw E.P T:=by exact nk) (h:pr T E.n ops M k hs L rest=some (L0,rest',S):=by rfl) (hL:L0=L':=by (try dsimp only)<;>rfl) (hS:mO S:=by repeat' first|exact True.intro |refine iI ?_ ?_ |exact rfl|omega|(dsimp only; omega)):DJ E ops D C F rest L:=by
 subst hL
 exact Dv (J:=fun r L=>DJ E ops D C F r L) hT hM (fun o rest L d v A B G H=>Ls A B G H) k hs L rest h hS j
end
section
variable {P:Program} {r:Option Nat} {n:Nat} {B:BS} {w0:World} {ops:Array Oper} {M:List (Nat×List Value)} {D:List Deferred} {L L':List (Nat×Value)} {C:List au} {Q:cv} {rest rest':List Oper} {S:List Prop} {F:List (Nat×Value)→Prop}
theorem gO (k:Nat) (hs:List Nat) (hM:MM C M) (h:pr TT n ops M k hs L rest=some (L',rest',S)) (j:RJ ⟨P,r,n,B,w0⟩ ops Q rest' D L' C) (hS:mO S:=by repeat' first|exact True.intro |refine iI ?_ ?_ |exact rfl|omega|(dsimp only; omega)) (hT:jw P TT:=by exact nk):RJ ⟨P,r,n,B,w0⟩ ops Q rest D L C:=rP k hs hM j hT h rfl hS
theorem mW (k:Nat) (hs:List Nat) (hM:MM C M) (h:pr TT n ops M k hs L rest=some (L',rest',S)) (j:DJ ⟨P,r,n,B,w0⟩ ops D C F rest' L') (hS:mO S:=by repeat' first|exact True.intro |refine iI ?_ ?_ |exact rfl|omega|(dsimp only; omega)) (hT:jw P TT:=by exact nk):DJ ⟨P,r,n,B,w0⟩ ops D C F rest L:=dP k hs hM j hT h rfl hS
theorem br (k:Nat) (h:pr TT n ops [] k [] L rest=some (L',rest',S)) (j:RJ ⟨P,r,n,B,w0⟩ ops Q rest' D L' C) (hS:mO S:=by repeat' first|exact True.intro |refine iI ?_ ?_ |exact rfl|omega|(dsimp only; omega)) (hT:jw P TT:=by exact nk):RJ ⟨P,r,n,B,w0⟩ ops Q rest D L C:=rP k [] I j hT h rfl hS
theorem qJ (k:Nat) (h:pr TT n ops [] k [] L rest=some (L',rest',S)) (j:DJ ⟨P,r,n,B,w0⟩ ops D C F rest' L') (hS:mO S:=by repeat' first|exact True.intro |refine iI ?_ ?_ |exact rfl|omega|(dsimp only; omega)) (hT:jw P TT:=by exact nk):DJ ⟨P,r,n,B,w0⟩ ops D C F rest L:=dP k [] I j hT h rfl hS
end
end
section
open Go.RowKit
/-- parts of a context, reckoned to the end -/
def kg (C:List au):List Nat→Option (List au)
 |[]=>some []
 |i::is=>match C[i]? with
  |some A=>match kg C is with
   |some l=>some (A::l)
   |none=>none
  |none=>none
theorem iG {C:List au}: ∀ {is:List Nat} {C':List au},kg C is=some C'→jq C is=C'
 |[],C',h=>by cases h; rfl
 |i::is,C',h=>by
  unfold kg at h
  split at h
  ·rename_i A hA
   split at h
   ·rename_i l hl
    cases h
    show List.filterMap (C[·]?) (i::is)=A::l
    rw [List.filterMap_cons_some hA]
    exact congrArg _ (iG hl)
   ·cases h
  ·cases h
/-- a part of a context in place of the whole -/
theorem aS {S:BS} {w0:World} {C C':List au} (is:List Nat) (hn:decide is.Nodup=true:=by rfl) (hC:jq C is=C':=by rfl): ∀ w,St S w0 C w→St S w0 C' w:=fun w h=>St.jq is hn hC h
theorem K6 {S:BS} {w0:World} {C C':List au} (is:List Nat) (hC:kg C is=some C') (hn:decide is.Nodup=true:=by rfl): ∀ w,St S w0 C w→St S w0 C' w:=fun w h=>St.jq is hn (iG hC) h
def HO (C:List au) (i:Nat) (B:au):Option (List au):=match i,C with
 |0,_::C=>some (B::C)
 |i+1,A::C=>match HO C i B with
  |some l=>some (A::l)
  |none=>none
 |_,[]=>none
theorem zY: ∀ {C:List au} {i:Nat} {B:au} {C':List au},HO C i B=some C'→C.set i B=C'
 |[],0,B,C',h=>by cases h
 |[],i+1,B,C',h=>by cases h
 |A::C,0,B,C',h=>by cases h; rfl
 |A::C,i+1,B,C',h=>by
  unfold HO at h
  split at h
  ·rename_i l hl
   cases h
   exact congrArg _ (zY hl)
  ·cases h
theorem n8 {E:dK} {K:Act→World→Prop} {D:fu} {L:cJ} {C C':List au} {A B:au} (i:Nat) (hC:C[i]? =some A) (hh:(∀ w,A.holds w→B.holds w)∧(∀ b,B.dQ b→A.dQ b)∧ ∀ b,B.wf b→A.wf b) (hC':HO C i B=some C') (h:KJ E K D L C'):KJ E K D L C:=DM i hC hh (zY hC') h
/-- the operations of a region but these; marks of some places -/
def N_ (n:Nat) (T:List Nat):List Nat:=(List.range n).filter fun i=> !T.contains i
def Om (k:Nat) (t:List Nat):List Bool:=(List.range k).map fun i=>t.contains i
theorem dE {E:dK} {id:Nat} {ops:Array Oper} {Q:cv} {D:fu} {L:cJ} {C:List au} (hm:E.P.follows .mixedOrders=true) (T fe tb i1 i2:List Nat) {C' C1:List au} {free:List Nat} {feb tbb:List Bool}
 (h1:kg C i1=some C') (h2:kg C i2=some C1) (hf:free=N_ ops.size T) (hfe:feb=Om free.length fe) (htb:tbb=Om T.length tb)
 (h:ny E ops D C' C1 (fun L'=>TJ E ops D C' C1 (fun L C=>KJ E (Q .normal) D L C) tbb (dB ops T) L' C) feb (dB ops free) L)
 (hc:Gw ops free T feb tbb=true:=by kernel_rfl) (n1:decide i1.Nodup=true:=by rfl) (n2:decide i2.Nodup=true:=by rfl):WJ E (.region id ops true) Q D L C:=
 GY hm free T feb tbb C' C1 hc (K6 i1 h1 n1) (K6 i2 h2 n2) h
end
section
open Go.RowKit
def rz (T:yc) (M:List (Nat×List Value)) (L:cJ):List ResultVar→List Nat→Option (List Value×List Prop)
 |[],_=>some ([],[])
 | .tmp t::rs,hs=>match L.lookup t with
  |some v=>match rz T M L rs hs with
   |some (vs,S)=>some (v::vs,S)
   |none=>none
  |none=>none
 | .cell a t::rs,hs=>match L.lookup a with
  |some (.pointer (some ⟨b,o,none⟩))=>match M[hs.headD 0]? with
   |some (b',cs)=>match T.Fk t with
    |some (false,_)=>match cs[o]? with
     |some v=>match rz T M L rs hs.tail with
      |some (vs,S)=>some (v::vs,(b'=b)::S)
      |none=>none
     |none=>none
    |some (true,n)=>match Nat.beq o 0 with
     |true=>match Nat.beq cs.length n with
      |true=>match rz T M L rs hs.tail with
       |some (vs,S)=>some (.agg cs.toArray::vs,(b'=b)::S)
       |none=>none
      |false=>none
     |false=>match rz T M L rs hs.tail with
      |some (vs,S)=>some (.agg ((cs.drop o).take n).toArray::vs,(b'=b)::(((cs.drop o).take n).length=n)::S)
      |none=>none
    |none=>none
   |none=>none
  |_=>none
theorem lz {P:Program} {T:yc} {M:List (Nat×List Value)} {L:cJ} {C:List au} (hT:jw P T) (hM:MM C M): ∀ (rs:List ResultVar) (hs:List Nat) {vs:List Value} {S:List Prop},rz T M L rs hs=some (vs,S)→mO S→AZ P L C rs vs
 |[],_,vs,S,h,hS=>by unfold rz at h; cases h; exact trivial
 | .tmp t::rs,hs,vs,S,h,hS=>by
  unfold rz at h
  split at h
  ·rename_i v hv
   split at h
   ·rename_i vs' S' hr
    cases h
    exact ⟨hv,lz hT hM rs hs hr hS⟩
   ·cases h
  ·cases h
 | .cell a t::rs,hs,vs,S,h,hS=>by
  unfold rz at h
  split at h
  ·rename_i b o hl
   split at h
   ·rename_i b' cs hm
    have A:=aP hm
    split at h
    ·rename_i hk
     split at h
     ·rename_i v hv
      split at h
      ·rename_i vs' S' hr
       cases h
       obtain ⟨rfl,hS⟩:=hS
       exact ⟨⟨_,hl,.inr ⟨_,hT.Fk hk,hM _ A _ _ (qZ hv)⟩⟩,lz hT hM rs _ hr hS⟩
      ·cases h
     ·cases h
    ·rename_i n hk
     split at h
     ·rename_i ho
      split at h
      ·rename_i hn
       split at h
       ·rename_i vs' S' hr
        cases h
        obtain ⟨rfl,hS⟩:=hS
        have D:=Nat.eq_of_beq_eq_true ho
        subst D
        exact ⟨⟨_,hl,.inl ⟨_,cs,hT.Fk hk,hM _ A 0 cs sm,Nat.eq_of_beq_eq_true hn,U⟩⟩,lz hT hM rs _ hr hS⟩
       ·cases h
      ·cases h
     ·split at h
      ·rename_i vs' S' hr
       cases h
       obtain ⟨rfl,B,hS⟩:=hS
       exact ⟨⟨_,hl,.inl ⟨_,_,hT.Fk hk,hM _ A o _ (by rw [B]),B,U⟩⟩,lz hT hM rs _ hr hS⟩
      ·cases h
    ·cases h
   ·cases h
  ·cases h
section
variable {P:Program} {n:Nat} {fn:Func} {w0:World} {K:Act→World→Prop} {L:List (Nat×Value)} {C:List au} {M:List (Nat×List Value)} {vs:List Value} {S:List Prop} {u x v:Value}
theorem yx (hQ: ∀ D L C,LJ ⟨P,none,n,pw,w0⟩ fn (vq w0 v) D L C→KJ ⟨P,none,n,pw,w0⟩ K D L C) (hs:List Nat) (hM:MM C M) (h:rz TT M L fn.results.toList hs=some ([u],S)) (e:u=v) (hS:mO S:=by repeat' first|exact True.intro |refine iI rfl ?_) (hT:jw P TT:=by exact nk):KJ ⟨P,none,n,pw,w0⟩ K [] L C:=
 hQ _ _ _ (ig (lz hT hM _ _ h hS) fun w hs=>wE e hs)
theorem qA (hQ: ∀ D L C,LJ ⟨P,none,n,pw,w0⟩ fn (vq w0 v) D L C→KJ ⟨P,none,n,pw,w0⟩ K D L C) (hs:List Nat) (hM:MM C M) (h:rz TT M L fn.results.toList hs=some (u::x::vs,S)) (e:Value.tuple (u::x::vs).toArray=v) (hS:mO S:=by repeat' first|exact True.intro |refine iI rfl ?_) (hT:jw P TT:=by exact nk):KJ ⟨P,none,n,pw,w0⟩ K [] L C:=
 hQ _ _ _ (ig (lz hT hM _ _ h hS) fun w hs=>wE e hs)
theorem LX {α:Type} {V:α→Value} {p:α→Prop} {N:α→List au} (hQ: ∀ D L C,LJ ⟨P,none,n,pw,w0⟩ fn (FL w0 V p N) D L C→KJ ⟨P,none,n,pw,w0⟩ K D L C) (x:α) (is hs:List Nat) (hM:MM C M) (h:rz TT M L fn.results.toList hs=some (vs,S)) (hw:(N x).all (·.wr)=true) (hN:jq C is=N x) (hV:Ko vs=V x) (hp:p x) (hn:decide is.Nodup=true:=by rfl) (hS:mO S:=by repeat' first|exact True.intro |refine iI rfl ?_) (hT:jw P TT:=by exact nk):KJ ⟨P,none,n,pw,w0⟩ K [] L C:=
 hQ _ _ _ (ig (lz hT hM _ _ h hS) fun w hs=>It x is hV hp hn hN hw hs)
theorem LM {A:au} {α:Type} {V:α→Value} {p:α→Prop} {A':α→au} (hQ: ∀ D L C,LJ ⟨P,none,n,⟨A.wf,fun _=>True⟩,w0⟩ fn (HN w0 A V p A') D L C→KJ ⟨P,none,n,⟨A.wf,fun _=>True⟩,w0⟩ K D L C) (x:α) (i:Nat) (hs:List Nat) (hM:MM C M) (h:rz TT M L fn.results.toList hs=some (vs,S)) (hw:(A' x).wr=true) (hC:C[i]? =some (A' x)) (hV:Ko vs=V x) (hp:p x) (hS:mO S:=by repeat' exact True.intro) (hT:jw P TT:=by exact nk):KJ ⟨P,none,n,⟨A.wf,fun _=>True⟩,w0⟩ K [] L C:=
 hQ _ _ _ (ig (lz hT hM _ _ h hS) fun w hs=>KG x i hV hp hC hw hs)
end
end
section
open Go.RowKit
def zz {α:Type _}:List α→List α→Option (List α)
 |[],m=>some m
 |a::l,m=>match zz l m with
  |some r=>some (a::r)
  |none=>none
theorem zA {α:Type _}: ∀ {l m r:List α},zz l m=some r→l++m=r
 |[],m,r,h=>by cases h; rfl
 |a::l,m,r,h=>by
  unfold zz at h
  split at h
  ·rename_i r' hr
   cases h
   exact congrArg (a:: ·) (zA hr)
  ·cases h
def MQ (L:cJ):List Nat→Option (cJ)
 |[]=>some []
 |t::ts=>match L.lookup t with
  |some v=>match MQ L ts with
   |some r=>some ((t,v)::r)
   |none=>none
  |none=>none
theorem zT {L M:cJ} (k:eb L M): ∀ {ts:List Nat} {r:cJ},MQ L ts=some r→eb L (r++M)
 |[],r,h=>by cases h; exact k
 |t::ts,r,h=>by
  unfold MQ at h
  split at h
  ·rename_i v hv
   split at h
   ·rename_i r' hr
    cases h
    exact eb.cons hv (zT k hr)
   ·cases h
  ·cases h
section
variable {E:dK} {Q:cv} {D:List Deferred} {L L0:List (Nat×Value)} {C C0:List au} {ι:Type} {Li:ι→List (Nat×Value)} {Ci:ι→List au}
theorem cq {c:Code} (kL kC:List Nat) (hL:MQ L kL=some L0) (hC0:kg C kC=some C0) (S:ι→cJ) (G:ι→List au) (hLi: ∀ x,zz L0 (S x)=some (Li x)) (hCi: ∀ x,zz C0 (G x)=some (Ci x)) (μ:ι→Nat) (x0:ι)
 (h0:eb L (S x0)) (hC: ∀ w,St E.S E.w0 C w→St E.S E.w0 (Ci x0) w)
 (round: ∀ x (J:Act→World→Prop),(∀ y D' L' C',D'=D→μ y<μ x→eb L' (Li y)→(∀ w,St E.S E.w0 C' w→St E.S E.w0 (Ci y) w)→KJ E J D' L' C')→WJ E c (Exit.then J Q) D (Li x) (Ci x)):WJ E (.loop c) Q D L C:=
 I4 Li Ci μ x0 (zA (hLi x0)▸zT h0 hL) hC round
theorem p8 {x y:Code} (kL kC:List Nat) (hL:MQ L kL=some L0) (hC0:kg C kC=some C0) (S:ι→cJ) (G:ι→List au) (hLi: ∀ x,zz L0 (S x)=some (Li x)) (hCi: ∀ x,zz C0 (G x)=some (Ci x))
 (hy: ∀ z,WJ E y Q D (Li z) (Ci z)) (h: ∀ K:Act→World→Prop,(∀ z,KJ E K D (Li z) (Ci z))→WJ E x (Exit.then K Q) D L C):WJ E (.seq x y) Q D L C:=Ka Li Ci hy h
end
end
section
open Go.RowKit
set_option linter.unusedSectionVars false
/-- what is asked of keys -/
structure qp (P:Program) (kt:Nat) {K:Type} (kV:K→Value):Prop where
 check: ∀ (e:Bool) (x:K) (w:World),(Instr.checkKey e 10000 kt (kV x)).run P w= .ok () w
 find: ∀ (x:K) (w:World) (es:List MapEntry),(∀ e∈es,∃ k,e.key=kV k)→
  ((Instr.findKey kt (kV x) es).run P w= .ok none w∧ ∀ e∈es,e.key≠kV x)∨ ∃ j e,(Instr.findKey kt (kV x) es).run P w= .ok (some (j,e.val)) w∧es[j]? =some e∧e.key=kV x
 bits: ∀ x,Instr.sameBits 10000 (kV x) (kV x)=true
 inj: ∀ x y,kV x=kV y→x=y
section
variable {K:Type} [DecidableEq K] {kV:K→Value}
def c3 {β:Type} (l:List (K×β)) (x:K) (y:β):List (K×β):=if (l.lookup x).isSome then l.map (fun p=>if p.1=x then (x,y) else p) else l++[(x,y)]
def dF {β:Type} (l:List (K×β)) (x:K):List (K×β):=l.filter fun p=> !decide (p.1=x)
def b0 {β γ:Type} (f:β→γ) (l:List (K×β)):List (K×γ):=l.map fun p=>(p.1,f p.2)
theorem kx {β γ:Type} (f:β→γ) (x:K): ∀ l:List (K×β),(b0 f l).lookup x=(l.lookup x).map f
 |[]=>rfl
 |p::l=>by
  obtain ⟨k,v⟩:=p
  have ih:=kx f x l
  by_cases h:x=k
  ·subst h; simp [b0,List.lookup]
  ·have:(x==k)=false:=by simpa using h
   simp only [b0,List.map_cons,List.lookup,this] at ih ⊢
   exact ih
theorem ei {β γ:Type} (f:β→γ) (l:List (K×β)) (x:K) (y:β):b0 f (c3 l x y)=c3 (b0 f l) x (f y):=by
 unfold c3
 rw [kx,Option.isSome_map]
 split
 ·simp only [b0,List.map_map]
  refine List.map_congr_left fun p _=>?_
  simp only [Function.comp]
  split<;>rfl
 ·simp [b0]
theorem kZ {β γ:Type} (f:β→γ) (l:List (K×β)) (x:K):b0 f (dF l x)=dF (b0 f l) x:=by
 unfold dF b0
 rw [List.filter_map]
 rfl
theorem fU {β:Type} {x:K}: ∀ {l:List (K×β)},l.lookup x=none↔ ∀ p∈l,p.1≠x
 |[]=>by simp
 |p::l=>by
  obtain ⟨k,v⟩:=p
  by_cases h:x=k
  ·subst h; simp [List.lookup]
  ·have hb:(x==k)=false:=by simpa using h
   simp only [List.lookup,hb,bB,forall_eq_or_imp]
   rw [fU (l:=l)]
   exact ⟨fun q=>⟨fun e=>h e.symm,q⟩,fun q=>q.2⟩
theorem ji {β:Type} {x:K} {y:β}: ∀ {l:List (K×β)},(l.map (·.1)).Nodup→((x,y)∈l↔l.lookup x=some y)
 |[],_=>by simp
 |p::l,hn=>by
  obtain ⟨k,v⟩:=p
  simp only [List.map_cons,List.nodup_cons] at hn
  by_cases h:x=k
  ·subst h
   simp only [List.lookup,beq_self_eq_true,bB,Prod.mk.injEq,true_and,Option.some.injEq]
   constructor
   ·rintro (e|e)
    ·exact e.symm
    ·exact absurd (cp.2 ⟨_,e,U⟩) hn.1
   ·intro e; exact .inl e.symm
  ·have hb:(x==k)=false:=by simpa using h
   simp only [List.lookup,hb,bB,Prod.mk.injEq,h,false_and,false_or]
   exact ji hn.2
structure gU (kV:K→Value) (es:Array MapEntry) (c:Nat) (m:List (K×Value)):Prop where
 list:es.toList.map (fun (e:MapEntry)=>(e.key,e.val))=m.map (fun p=>(kV p.1,p.2))
 keys:(m.map (·.1)).Nodup
 JR: ∀ e∈es.toList,e.born<c
 born:(es.toList.map (·.born)).Nodup
def iB (kV:K→Value) (b:Nat) (m:List (K×Value)):au where
 dQ k:=k=b
 wf k:=k=b
 holds w:= ∃ es c,w.heap[b]? =some (.map es c)∧gU kV es c m
 wr:=true
 iW _ h:=h
 whole _ _ h:=h
 lt w h k hk:=by obtain ⟨es,c,he,_⟩:=h; exact hk▸c5 he
 mo w w' hk h:=by obtain ⟨es,c,he,hm⟩:=h; exact ⟨es,c,(hk b rfl).trans he,hm⟩
theorem gU.nil:gU kV #[] 0 []:=⟨rfl,List.nodup_nil,sm,List.nodup_nil⟩
theorem gU.size {es:Array MapEntry} {c:Nat} {m:List (K×Value)} (h:gU kV es c m):es.size=m.length:=by
 have:=congrArg List.length h.list
 simpa using this
theorem zl {P:Program} {kt:Nat} (hk:qp P kt kV) (x:K): ∀ (es:List MapEntry) (m:List (K×Value)),es.map (fun (e:MapEntry)=>(e.key,e.val))=m.map (fun p=>(kV p.1,p.2))→
 ((∀ e∈es,e.key≠kV x)→m.lookup x=none)∧ ∀ (j:Nat) (e:MapEntry),es[j]? =some e→e.key=kV x→m[j]? =some (x,e.val):=by
 intro es m h
 refine ⟨fun hn=>fU.2 fun p hp e=>?_,fun j e he hx=>?_⟩
 ·have:(kV p.1,p.2)∈es.map (fun (e:MapEntry)=>(e.key,e.val)):=by rw [h]; exact cp.2 ⟨p,hp,rfl⟩
  obtain ⟨z,hz,B⟩:=cp.1 this
  simp only [Prod.mk.injEq] at B
  exact hn z hz (by rw [B.1,e])
 ·have A:(es.map (fun (e:MapEntry)=>(e.key,e.val)))[j]? =some (e.key,e.val):=by rw [fT,he]; rfl
  rw [h,fT] at A
  cases hm:m[j]? with
  |none=>simp [hm] at A
  |some p=>
   simp only [hm,Option.map_some,Option.some.injEq,Prod.mk.injEq] at A
   have:=hk.inj _ _ (A.1.trans hx)
   obtain ⟨k,v⟩:=p
   simp only at this A
   rw [this,A.2]
theorem ml {P:Program} {w:World} {kt:Nat} {x:K} {es:Array MapEntry} {c:Nat} {m:List (K×Value)} (hk:qp P kt kV) (h:gU kV es c m):
 ((Instr.findKey kt (kV x) es.toList).run P w= .ok none w∧m.lookup x=none)∨
 ∃ j v,(Instr.findKey kt (kV x) es.toList).run P w= .ok (some (j,v)) w∧m[j]? =some (x,v)∧m.lookup x=some v:=by
 obtain ⟨D,E⟩:=zl hk x es.toList m h.list
 rcases hk.find x w es.toList (fun e he=>by
  have:(e.key,e.val)∈m.map (fun p=>(kV p.1,p.2)):=by rw [← h.list]; exact cp.2 ⟨e,he,rfl⟩
  obtain ⟨p,_,hp⟩:=cp.1 this
  simp only [Prod.mk.injEq] at hp
  exact ⟨p.1,hp.1.symm⟩) with ⟨A,B⟩|⟨j,e,A,B,C⟩
 ·exact .inl ⟨A,D B⟩
 ·have:=E j e B C
  exact .inr ⟨j,e.val,A,this,(ji h.keys).1 (aP this)⟩
theorem gH {P:Program} {w:World} {kt:Nat} {x:K} (hk:qp P kt kV) (e:Bool):(Instr.checkKey e 10000 kt (kV x)).run P w= .ok () w:=hk.check e x w
section
variable {E:dK} {ops:Array Oper} {Q:cv} {rest:List Oper} {D:List Deferred} {L:List (Nat×Value)} {C:List au}
variable {dst:Option Tmp} {d:Nat} {ty:TypeId} {ps:String} {af:Array Edge} {g:Option (Nat×Bool)}
theorem jy {t:TypeId} (hg:im ops L g=true) (hd:Nat.blt d E.n=true) (k: ∀ b,RJ E ops Q rest D ((d,.map (some b))::L) (iB kV b []::C)):RJ E ops Q (⟨some d,.makeMap t none,ty,ps,af,g⟩::rest) D L C:=by
 intro a w B hs
 have hd':d<E.n:=by rw [← Nat.blt_eq]; exact hd
 unfold oT
 rw [if_pos (di B hg)]
 refine gE (v:= .map (some w.heap.size)) (w':=w.alloc (.map #[] 0)) sm ?_ ?_
 ·simp [execOp,Instr.makeMap,newObj,Sem.run]
 ·refine k _ _ _ (B.put hd' _) (hs.grow (cW.alloc no w _) (N:=[iB kV w.heap.size []]) ⟨fun A hA=>?_,fun A hA b hb=>?_,List.pairwise_singleton _ _⟩)
  ·simp at hA; subst hA; exact ⟨#[],0,heap_alloc_new w _,gU.nil⟩
  ·simp at hA; subst hA; exact Nat.le_of_eq (Eq.symm hb)
theorem gU.push {es:Array MapEntry} {c:Nat} {m:List (K×Value)} (h:gU kV es c m) {x:K} (hx:m.lookup x=none) (v:Value):gU kV (es.push {key:=kV x,val:=v,born:=c}) (c+1) (m++[(x,v)]):=by
 refine ⟨by simp [h.list],?_,?_,?_⟩
 ·rw [List.map_append,List.nodup_append]
  refine ⟨h.keys,sm,fun a ha b hb=>?_⟩
  simp at hb; subst hb
  obtain ⟨p,hp,rfl⟩:=cp.1 ha
  exact fU.1 hx p hp
 ·intro e he
  simp only [Array.toList_push,gn,bW] at he
  rcases he with he|rfl
  ·exact Nat.lt_succ_of_lt (h.JR e he)
  ·exact Nat.lt_succ_self _
 ·simp only [Array.toList_push,List.map_append,List.map_cons,List.map_nil]
  rw [List.nodup_append]
  refine ⟨h.born,sm,fun a ha b hb=>?_⟩
  simp at hb; subst hb
  obtain ⟨p,hp,rfl⟩:=cp.1 ha
  exact Nat.ne_of_lt (h.JR p hp)
theorem Hg {m:List (K×Value)} {j:Nat} {x:K} {v0 v:Value} (hn:(m.map (·.1)).Nodup) (hj:m[j]? =some (x,v0)):m.map (fun p=>if p.1=x then (x,v) else p)=m.set j (x,v):=by
 refine List.ext_getElem? fun i=>?_
 rw [fT,List.getElem?_set]
 by_cases e:j=i
 ·subst e
  have hl:=(bg.1 hj).1
  rw [hj]; simp [hl]
 ·rw [if_neg e]
  cases hi:m[i]? with
  |none=>rfl
  |some p=>
   simp only [Option.map_some]
   rw [if_neg]
   intro hp
   have B:(m.map (·.1))[i]? =some x:=by rw [fT,hi]; simp [hp]
   have C:(m.map (·.1))[j]? =some x:=by rw [fT,hj]; rfl
   have A:=(bg.1 B).1
   exact e (((List.getElem?_inj A hn).1 (B.trans C.symm)).symm)
theorem gU.set {es:Array MapEntry} {c:Nat} {m:List (K×Value)} (h:gU kV es c m) {x:K} {j:Nat} {v0:Value} (hj:m[j]? =some (x,v0)) (hx:m.lookup x=some v0) (v:Value):
 gU kV (es.modify j fun e=>{e with key:=kV x,val:=v}) c (c3 m x v):=by
 have C:c3 m x v=m.set j (x,v):=by unfold c3; rw [hx]; simpa using Hg h.keys hj
 have hl:=(bg.1 hj).1
 have E:=h.size
 have A:j<es.size:=by omega
 have B:(es.modify j fun e=>{e with key:=kV x,val:=v}).toList=es.toList.set j {(es[j]) with key:=kV x,val:=v}:=by
  refine List.ext_getElem? fun i=>?_
  rw [Array.getElem?_toList,Array.getElem?_modify,List.getElem?_set]
  by_cases e:j=i
  ·subst e; simp [A]
  ·simp [e]
 have D:(es.toList.set j {(es[j]) with key:=kV x,val:=v}).map (·.born)=es.toList.map (·.born):=by
  rw [List.map_set]
  refine List.ext_getElem? fun i=>?_
  rw [List.getElem?_set]
  by_cases e:j=i
  ·subst e; simp [A]
  ·rw [if_neg e]
 refine ⟨?_,?_,?_,?_⟩
 ·rw [B,C,List.map_set,List.map_set,h.list]
 ·rw [C,List.map_set]
  have:(m.map (·.1)).set j x=m.map (·.1):=by
   refine List.ext_getElem? fun i=>?_
   rw [List.getElem?_set]
   by_cases e:j=i
   ·subst e; simp [hl]; simpa using (congrArg Prod.fst ((bg.1 hj).2)).symm
   ·rw [if_neg e]
  simp only [this]
  exact h.keys
 ·intro e he
  rw [B] at he
  have hb:e.born∈(es.toList.set j {(es[j]) with key:=kV x,val:=v}).map (·.born):=cp.2 ⟨e,he,rfl⟩
  rw [D] at hb
  obtain ⟨e',he',hq⟩:=cp.1 hb
  rw [← hq]; exact h.JR e' he'
 ·rw [B,D]; exact h.born
/-- m[x] = y -/
theorem gu {t kt et:TypeId} {xm xk xv:Operand} {b:Nat} {x:K} {v:Value} {m m':List (K×Value)} {C':List au} (i:Nat) (hg:im ops L g=true) (hm:ev L xm=some (.map (some b))) (hk:ev L xk=some (kV x)) (hv:ev L xv=some v)
 (ht:E.P.underlying t=some (.map kt et)) (hkt:qp E.P kt kV) (hC:C[i]? =some (iB kV b m)) (hm':c3 m x v=m') (hC':C.set i (iB kV b m')=C') (k:RJ E ops Q rest D L C'):
 RJ E ops Q (⟨none,.mapUpdate t xm xk xv,ty,ps,af,g⟩::rest) D L C:=by
 subst hm' hC'
 intro a w A hs
 unfold oT
 rw [if_pos (di A hg)]
 obtain ⟨es,c,he,hi⟩:=hs.holds _ (aP hC)
 have B:(getObj b).run E.P w= .ok (.map es c) w:=MapKept.run_getObj_map he
 rcases ml (P:=E.P) (w:=w) (x:=x) hkt hi with ⟨AA,F⟩|⟨j,N,AA,F,J⟩
 ·refine oI (w':={w with heap:=w.heap.setIfInBounds b (.map (es.push {key:=kV x,val:=v,born:=c}) (c+1))}) sm ?_ ?_
  ·simp [execOp,A.ev hm,A.ev hk,A.ev hv,Instr.mapUpdate,run_underlying ht,B,gH hkt,AA,MapKept.run_setObj_map _ he]
  ·refine k _ _ ⟨A.defers,A.size,A.at_⟩ (hs.ug (b:=b) i hC U U (kD _) (fun _ h=>h) ⟨_,_,mC he,?_⟩)
   have:c3 m x v=m++[(x,v)]:=by unfold c3; rw [F]; rfl
   rw [this]; exact hi.push F v
 ·have M:=hi.size
  have G:j<es.size:=by have:=(bg.1 F).1; omega
  have H:(es[j]).key=kV x:=by
   have:=congrArg (fun l=>l[j]?) hi.list
   simp [G,F] at this
   exact this.1
  refine oI (w':={w with heap:=w.heap.setIfInBounds b (.map (es.modify j fun e=>{e with key:=kV x,val:=v}) c)}) sm ?_ ?_
  ·simp [execOp,A.ev hm,A.ev hk,A.ev hv,Instr.mapUpdate,run_underlying ht,B,gH hkt,AA,MapKept.run_setObj_map _ he,Instr.keyThatStays,G,H,hkt.bits x]
  ·exact k _ _ ⟨A.defers,A.size,A.at_⟩ (hs.ug (b:=b) i hC U U (kD _) (fun _ h=>h) ⟨_,_,mC he,hi.set F J v⟩)
theorem gU.del {es:Array MapEntry} {c:Nat} {m:List (K×Value)} (h:gU kV es c m) {x:K} {j:Nat} {v0:Value} (hj:m[j]? =some (x,v0)):gU kV (es.eraseIdxIfInBounds j) c (dF m x):=by
 have hl:=(bg.1 hj).1
 have D:=h.size
 have A:j<es.size:=by omega
 have B:(es.eraseIdxIfInBounds j).toList=es.toList.eraseIdx j:=by simp [Array.eraseIdxIfInBounds,A]
 have E:dF m x=m.eraseIdx j:=by
  have hn:=h.keys
  clear h D A B
  induction m generalizing j with
  |nil=>simp at hj
  |cons p m ih=>
   obtain ⟨k,v⟩:=p
   simp only [List.map_cons,List.nodup_cons] at hn
   cases j with
   |zero=>
    simp at hj
    obtain ⟨rfl,rfl⟩:=hj
    simp only [dF,List.eraseIdx_zero,List.tail_cons]
    rw [List.filter_cons_of_neg sm]
    refine List.filter_eq_self.2 fun p hp=>?_
    have:p.1≠k:=fun e=>hn.1 (cp.2 ⟨p,hp,e⟩)
    simpa using this
   |succ j=>
    simp only [List.getElem?_cons_succ] at hj
    have C:k≠x:=fun e=>hn.1 (cp.2 ⟨_,aP hj,e.symm⟩)
    simp only [dF,List.eraseIdx_cons_succ] at ih ⊢
    rw [List.filter_cons_of_pos (by simpa using C),ih hj (by simpa using (bg.1 hj).1) hn.2]
 have sub:(es.eraseIdxIfInBounds j).toList.Sublist es.toList:=by rw [B]; exact List.eraseIdx_sublist _ _
 refine ⟨?_,?_,fun e he=>h.JR e (sub.subset he),h.born.sublist (sub.map _)⟩
 ·rw [B,E,ChangeMaps.map_eraseIdx,ChangeMaps.map_eraseIdx,h.list]
 ·rw [E]; exact h.keys.sublist ((List.eraseIdx_sublist _ _).map _)
theorem zr {m:List (K×Value)} {x:K} (h:m.lookup x=none):dF m x=m:=List.filter_eq_self.2 fun p hp=>by simpa using fU.1 h p hp
/-- y, ok := m[x] -/
theorem Fs {t kt et:TypeId} {xm xk:Operand} {b:Nat} {x:K} {z:Value} {m:List (K×Value)} (hg:im ops L g=true) (hm:ev L xm=some (.map (some b))) (hk:ev L xk=some (kV x))
 (ht:E.P.underlying t=some (.map kt et)) (hkt:qp E.P kt kV) (hz:tV E.P et=some z) (hC:iE C (iB kV b m).holds):
 SD E ops ⟨dst,.lookup t xm xk true,ty,ps,af,g⟩ D L C (.tuple [(m.lookup x).getD z,.bool (m.lookup x).isSome].toArray):=
 dk hg sm fun a w A hs=>by
  obtain ⟨es,c,he,hi⟩:=hs.has hC
  have B:(getObj b).run E.P w= .ok (.map es c) w:=MapKept.run_getObj_map he
  rcases ml (P:=E.P) (w:=w) (x:=x) hkt hi with ⟨F,G⟩|⟨j,AA,F,G,H⟩
  ·simp [execOp,Instr.lookup,A.ev hm,A.ev hk,run_underlying ht,B,gH hkt,F,G,Fx hz]
  ·simp [execOp,Instr.lookup,A.ev hm,A.ev hk,run_underlying ht,B,gH hkt,F,H]
/-- m[x] -/
theorem Cs {t kt et:TypeId} {xm xk:Operand} {b:Nat} {x:K} {z:Value} {m:List (K×Value)} (hg:im ops L g=true) (hm:ev L xm=some (.map (some b))) (hk:ev L xk=some (kV x))
 (ht:E.P.underlying t=some (.map kt et)) (hkt:qp E.P kt kV) (hz:tV E.P et=some z) (hC:iE C (iB kV b m).holds):
 SD E ops ⟨dst,.lookup t xm xk false,ty,ps,af,g⟩ D L C ((m.lookup x).getD z):=
 dk hg sm fun a w A hs=>by
  obtain ⟨es,c,he,hi⟩:=hs.has hC
  have B:(getObj b).run E.P w= .ok (.map es c) w:=MapKept.run_getObj_map he
  rcases ml (P:=E.P) (w:=w) (x:=x) hkt hi with ⟨F,G⟩|⟨j,AA,F,G,H⟩
  ·simp [execOp,Instr.lookup,A.ev hm,A.ev hk,run_underlying ht,B,gH hkt,F,G,Fx hz]
  ·simp [execOp,Instr.lookup,A.ev hm,A.ev hk,run_underlying ht,B,gH hkt,F,H]
theorem o_ {β:Type} {t kt et:TypeId} {xm xk:Operand} {b:Nat} {x:K} {f:β→Value} {z:β} {l:List (K×β)} (hg:im ops L g=true) (hm:ev L xm=some (.map (some b))) (hk:ev L xk=some (kV x))
 (ht:E.P.underlying t=some (.map kt et)) (hkt:qp E.P kt kV) (hz:tV E.P et=some (f z)) (hC:iE C (iB kV b (b0 f l)).holds):
 SD E ops ⟨dst,.lookup t xm xk true,ty,ps,af,g⟩ D L C (.tuple [f ((l.lookup x).getD z),.bool (l.lookup x).isSome].toArray):=by
 have:=Fs (dst:=dst) (ty:=ty) (ps:=ps) (af:=af) (D:=D) hg hm hk ht hkt hz hC
 rw [kx] at this
 have A:((l.lookup x).map f).getD (f z)=f ((l.lookup x).getD z):=by cases l.lookup x<;>rfl
 rw [A,Option.isSome_map] at this
 exact this
theorem q7 {β:Type} {t kt et:TypeId} {xm xk:Operand} {b:Nat} {x:K} {f:β→Value} {z:β} {l:List (K×β)} (hg:im ops L g=true) (hm:ev L xm=some (.map (some b))) (hk:ev L xk=some (kV x))
 (ht:E.P.underlying t=some (.map kt et)) (hkt:qp E.P kt kV) (hz:tV E.P et=some (f z)) (hC:iE C (iB kV b (b0 f l)).holds):
 SD E ops ⟨dst,.lookup t xm xk false,ty,ps,af,g⟩ D L C (f ((l.lookup x).getD z)):=by
 have:=Cs (dst:=dst) (ty:=ty) (ps:=ps) (af:=af) (D:=D) hg hm hk ht hkt hz hC
 rw [kx] at this
 have A:((l.lookup x).map f).getD (f z)=f ((l.lookup x).getD z):=by cases l.lookup x<;>rfl
 rw [A] at this
 exact this
end
theorem ka {β:Type} {x:K} {y:β} {l:List (K×β)} (h:(x,y)∈l):(dF l x).length<l.length:=by
 unfold dF
 exact List.length_filter_lt_length_iff_exists.2 ⟨_,h,sm⟩
theorem t_ {β:Type} {x:K} {p:K×β} {l:List (K×β)}:p∈dF l x↔p∈l∧p.1≠x:=by simp [dF]
/-- an iterator over a map: what is left; what came last -/
def vd (kV:K→Value) (r b:Nat) (m left:List (K×Value)) (cur:Option (K×Value)):au where
 dQ k:=k=r∨k=b
 wf k:=k=r∨k=b
 holds w:=r≠b∧ ∃ (es:Array MapEntry) (c since:Nat) (seen:Array Nat) (st:Nat),w.heap[b]? =some (.map es c)∧gU kV es c m∧w.heap[r]? =some (.mapIter (some b) since seen st)∧(∀ e∈es.toList,e.born<since)∧since≤st∧since≤c∧
  (leftOf es seen).toList.map (fun (e:MapEntry)=>(e.key,e.val))=left.map (fun p=>(kV p.1,p.2))∧
  ∀ p,cur=some p→ ∃ (e:MapEntry) (seen0:Array Nat),e∈es.toList∧seen=seen0.push e.born∧st=c∧e.key=kV p.1∧e.val=p.2
 wr:=true
 iW _ h:=h
 whole _ _ h:=h
 lt w h k hk:=by
  obtain ⟨_,es,c,since,seen,st,h1,_,h2,_⟩:=h
  rcases hk with rfl|rfl
  ·exact c5 h2
  ·exact c5 h1
 mo w w' hk h:=by
  obtain ⟨hne,es,c,since,seen,st,h1,h2,h3,h4⟩:=h
  exact ⟨hne,es,c,since,seen,st,(hk b (.inr rfl)).trans h1,h2,(hk r (.inl rfl)).trans h3,h4⟩
theorem xD {r b:Nat} {m left:List (K×Value)} {cur:Option (K×Value)}:(∀ w,(vd kV r b m left cur).holds w→(vd kV r b m left none).holds w)∧(∀ k,(vd kV r b m left none).dQ k→(vd kV r b m left cur).dQ k)∧ ∀ k,(vd kV r b m left none).wf k→(vd kV r b m left cur).wf k:=
 ⟨fun w h=>by
  obtain ⟨A,es,c,since,seen,st,B,C,D,E,F,h5',G,_⟩:=h
  exact ⟨A,es,c,since,seen,st,B,C,D,E,F,h5',G,fun p hp=>by cases hp⟩,fun _ h=>h,fun _ h=>h⟩
theorem DX {r b:Nat} {m left:List (K×Value)} {cur:Option (K×Value)}:(∀ w,(vd kV r b m left cur).holds w→(iB kV b m).holds w)∧(∀ k,(iB kV b m).dQ k→(vd kV r b m left cur).dQ k)∧ ∀ k,(iB kV b m).wf k→(vd kV r b m left cur).wf k:=
 ⟨fun w h=>by
  obtain ⟨C,es,c,since,seen,st,A,B,_⟩:=h
  exact ⟨es,c,A,B⟩,fun _ h=> .inr h,fun _ h=> .inr h⟩
theorem xP {es:Array MapEntry} {c:Nat} {m:List (K×Value)} (hinj: ∀ x y,kV x=kV y→x=y) (hi:gU kV es c m) {x y:MapEntry} (hx:x∈es.toList) (hy:y∈es.toList) (e:x.key=y.key):x=y:=by
 have hk:(es.toList.map (·.key))=(m.map (·.1)).map kV:=by
  have:=congrArg (List.map Prod.fst) hi.list
  simpa [Function.comp_def] using this
 have h:(es.toList.map (·.key)).Nodup:=by
  rw [hk,List.nodup_iff_pairwise_ne,List.pairwise_map]
  exact hi.keys.imp (fun B he=>B (hinj _ _ he))
 obtain ⟨i,A⟩:=List.getElem?_of_mem hx
 obtain ⟨j,hj⟩:=List.getElem?_of_mem hy
 have C:(es.toList.map (·.key))[i]? =some x.key:=by rw [fT,A]; rfl
 have D:(es.toList.map (·.key))[j]? =some x.key:=by rw [fT,hj,e]; rfl
 have E:=(List.getElem?_inj (bg.1 C).1 h).1 (C.trans D.symm)
 subst E
 exact Option.some.inj (A.symm.trans hj)
section
variable {E:dK} {ops:Array Oper} {Q:cv} {rest:List Oper} {D:List Deferred} {L:List (Nat×Value)} {C:List au}
variable {dst:Option Tmp} {d:Nat} {ty:TypeId} {ps:String} {af:Array Edge} {g:Option (Nat×Bool)}
theorem tN {t kt et:TypeId} {xm:Operand} {b:Nat} {m:List (K×Value)} (i:Nat) (hg:im ops L g=true) (hm:ev L xm=some (.map (some b))) (ht:E.P.underlying t=some (.map kt et)) (hC:C[i]? =some (iB kV b m)) (hd:Nat.blt d E.n=true)
 (k: ∀ r,RJ E ops Q rest D ((d,.pointer (some ⟨r,0,none⟩))::L) (C.set i (vd kV r b m m none))):RJ E ops Q (⟨some d,.range t xm,ty,ps,af,g⟩::rest) D L C:=by
 intro a w A hs
 have hd':d<E.n:=by rw [← Nat.blt_eq]; exact hd
 unfold oT
 rw [if_pos (di A hg)]
 obtain ⟨es,c,he,hi⟩:=hs.holds _ (aP hC)
 have F:b<w.heap.size:=c5 he
 have B:(getObj b).run E.P w= .ok (.map es c) w:=MapKept.run_getObj_map he
 refine gE (v:= .pointer (some ⟨w.heap.size,0,none⟩)) (w':=w.alloc (.mapIter (some b) c #[] c)) sm ?_ ?_
 ·simp [execOp,Instr.range,A.ev hm,run_underlying ht,B,newObj,Sem.run]
 ·refine k _ _ _ (A.put hd' _) (hs.mv i hC ⟨⟨om,es,c,c,#[],c,?_,hi,heap_alloc_new w _,hi.JR,Nat.le_refl _,Nat.le_refl _,?_,fun p hp=>by cases hp⟩,cW.alloc _ w _,fun q hq=>?_,fun q hq=>?_⟩)
  ·rw [Below.heap_alloc w _ b F]; exact he
  ·have:leftOf es #[]=es:=by unfold leftOf; exact Array.filter_eq_self.2 sm
   rw [this]; exact hi.list
  ·rcases hq with rfl|rfl
   ·exact .inr (Nat.le_refl _)
   ·exact .inl U
  ·rcases hq with rfl|rfl
   ·exact .inr (Nat.le_refl _)
   ·exact .inl U
theorem sa {es:Array MapEntry} {c:Nat} {m left:List (K×Value)} {seen:Array Nat} (hinj: ∀ x y,kV x=kV y→x=y) (hi:gU kV es c m) (h:(leftOf es seen).toList.map (fun (e:MapEntry)=>(e.key,e.val))=left.map (fun p=>(kV p.1,p.2))):(left.map (·.1)).Nodup:=by
 have B:((leftOf es seen).toList.map (·.key)).Sublist (es.toList.map (·.key)):=by
  unfold leftOf; rw [Array.toList_filter]; exact List.filter_sublist.map _
 have D:(es.toList.map (·.key))=(m.map (·.1)).map kV:=by
  have:=congrArg (List.map Prod.fst) hi.list
  simpa [Function.comp_def] using this
 have E:((leftOf es seen).toList.map (·.key))=(left.map (·.1)).map kV:=by
  have:=congrArg (List.map Prod.fst) h
  simpa [Function.comp_def] using this
 rw [D,E] at B
 have F:((m.map (·.1)).map kV).Nodup:=by
  rw [List.nodup_iff_pairwise_ne,List.pairwise_map]
  exact hi.keys.imp (fun A he=>A (hinj _ _ he))
 have C:=F.sublist B
 rw [List.nodup_iff_pairwise_ne,List.pairwise_map] at C
 rw [List.nodup_iff_pairwise_ne]
 exact C.imp (fun A he=>A (by rw [he]))
theorem EU (hinj: ∀ x y,kV x=kV y→x=y) {xi:Operand} {r b:Nat} {m left:List (K×Value)} {cur:Option (K×Value)} (i:Nat) (hg:im ops L g=true) (hm:ev L xi=some (.pointer (some ⟨r,0,none⟩))) (hC:C[i]? =some (vd kV r b m left cur)) (hd:Nat.blt d E.n=true)
 (k0:left=[]→RJ E ops Q rest D ((d,.tuple [.bool false].toArray)::L) C)
 (k1: ∀ x v,(x,v)∈left→(left.map (·.1)).Nodup→RJ E ops Q rest D ((d,.tuple [.bool true,kV x,v].toArray)::L) (C.set i (vd kV r b m (dF left x) (some (x,v))))):
 RJ E ops Q (⟨some d,.next xi false,ty,ps,af,g⟩::rest) D L C:=by
 intro a w G hs
 have hd':d<E.n:=by rw [← Nat.blt_eq]; exact hd
 unfold oT
 rw [if_pos (di G hg)]
 obtain ⟨R,es,c,since,seen,st,X,hi,Y,J,V,M,A,_⟩:=hs.holds _ (aP hC)
 rcases run_next_at (P:=E.P) w ty r b since st seen es c Y X J V with ⟨Z,hr⟩|⟨e,he,N,H,hr⟩
 ·refine gE (v:= .tuple #[.bool false]) (w':=w) sm ?_ ?_
  ·simp [execOp,G.ev hm,hr]
  ·refine k0 ?_ _ _ (G.put hd' _) hs
   have:(leftOf es seen).toList=[]:=by rw [← List.length_eq_zero_iff,Array.length_toList]; exact Z
   rw [this] at A
   exact List.map_eq_nil_iff.1 A.symm
 ·have O:(e.key,e.val)∈left.map (fun p=>(kV p.1,p.2)):=by rw [← A]; exact cp.2 ⟨e,he,rfl⟩
  obtain ⟨p,hp,S⟩:=cp.1 O
  obtain ⟨x,v⟩:=p
  simp only [Prod.mk.injEq] at S
  obtain ⟨hk,hv⟩:=S
  refine gE (v:= .tuple #[.bool true,e.key,e.val]) (w':=ChangeMaps.setBlock N r (.mapIter (some b) since (seen.push e.born) c)) sm ?_ ?_
  ·simp [execOp,G.ev hm,hr]
  ·rw [← hk,← hv]
   have AA:=sa hinj hi A
   have F:e∈es.toList:=by unfold leftOf at he; rw [Array.toList_filter] at he; exact (List.mem_filter.1 he).1
   have f:c=c:=rfl
   have B:N.heap=w.heap:=by rcases H with rfl|rfl<;>rfl
   refine k1 x v hp AA _ _ (G.put hd' _) (hs.mv i hC ⟨⟨R,es,c,since,seen.push e.born,c,?_,hi,?_,J,M,M,?_,fun q hq=>?_⟩,?_,fun q hq=> .inl hq,fun q hq=> .inl hq⟩)
   ·show (N.heap.setIfInBounds r _)[b]? =_
    rw [Array.getElem?_setIfInBounds_ne R,B]; exact X
   ·show (N.heap.setIfInBounds r _)[r]? =_
    rw [Array.getElem?_setIfInBounds_self_of_lt (by rw [B]; exact c5 Y)]
   ·have T:leftOf es (seen.push e.born)=(leftOf es seen).filter (fun z=> !(z.born==e.born)):=by
     unfold leftOf
     rw [Array.filter_filter]
     congr 1
     funext z
     simp only [Array.contains_push,Bool.not_or]
     rw [Bool.and_comm]
    rw [T,Array.toList_filter]
    have key: ∀ (l:List MapEntry) (ll:List (K×Value)),(∀ z∈l,z∈es.toList)→l.map (fun (e:MapEntry)=>(e.key,e.val))=ll.map (fun p=>(kV p.1,p.2))→
     (l.filter (fun z=> !(z.born==e.born))).map (fun (e:MapEntry)=>(e.key,e.val))=(dF ll x).map (fun p=>(kV p.1,p.2)):=by
     intro l
     induction l with
     |nil=>intro ll _ h; cases ll with
      |nil=>rfl
      |cons p ll=>simp at h
     |cons z l ih=>
      intro ll hz h
      cases ll with
      |nil=>simp at h
      |cons p ll=>
       simp only [List.map_cons,List.cons.injEq,Prod.mk.injEq] at h
       have ih':=ih ll (fun y hy=>hz y (by simp [hy])) h.2
       have AB:(z.born=e.born)↔(p.1=x):=by
        constructor
        ·intro hb
         have:z=e:=x5 hi.born (hz z sm) F hb
         rw [this] at h
         have:=h.1.1.symm.trans hk.symm
         exact hinj _ _ this
        ·intro hx
         have W:z.key=e.key:=by rw [h.1.1,hx,hk]
         rw [xP hinj hi (hz z sm) F W]
       unfold dF at ih' ⊢
       by_cases hx:p.1=x
       ·rw [List.filter_cons_of_neg (by simp [AB.2 hx]),List.filter_cons_of_neg (by simp [hx])]; exact ih'
       ·rw [List.filter_cons_of_pos (by simpa using fun hb=>hx (AB.1 hb)),List.filter_cons_of_pos (by simpa using hx)]
        simp only [List.map_cons,h.1.1,h.1.2,ih']
    exact key _ _ (fun z hz=>by unfold leftOf at hz; rw [Array.toList_filter] at hz; exact (List.mem_filter.1 hz).1) A
   ·cases hq
    exact ⟨e,seen,F,U,U,hk.symm,hv.symm⟩
   ·refine ⟨?_,?_,?_,?_,fun q hq hn=>?_⟩
    ·rcases H with rfl|rfl<;>rfl
    ·rcases H with rfl|rfl<;>rfl
    ·rcases H with rfl|rfl<;>rfl
    ·show w.heap.size≤(N.heap.setIfInBounds r _).size
     simp [B]
    ·show (N.heap.setIfInBounds r _)[q]? =_
     rw [Array.getElem?_setIfInBounds_ne (fun e=>hn (.inl e.symm)),B]
theorem rZ {xi:Operand} {r b:Nat} {m left:List (K×Value)} {x:K} {v:Value} (i:Nat) (hg:im ops L g=true) (hm:ev L xi=some (.pointer (some ⟨r,0,none⟩))) (hC:C[i]? =some (vd kV r b m left (some (x,v)))):
 SD E ops ⟨dst,.entry xi,ty,ps,af,g⟩ D L C (.tuple [kV x,v].toArray):=
 dk hg sm fun a w F hs=>by
  obtain ⟨N,es,c,since,seen,st,J,hi,M,H,O,AA,G,B⟩:=hs.holds _ (aP hC)
  obtain ⟨e,A,he,rfl,rfl,hk,hv⟩:=B _ rfl
  have:=run_entry_at (P:=E.P) w r b since A es st e M J he hi.born
  simp [execOp,F.ev hm,this,hk,hv]
theorem sO (hinj: ∀ x y,kV x=kV y→x=y) {β:Type} {f:β→Value} {xi:Operand} {r b:Nat} {m:List (K×Value)} {ll:List (K×β)} {cur:Option (K×Value)} (i:Nat) (hg:im ops L g=true) (hm:ev L xi=some (.pointer (some ⟨r,0,none⟩))) (hC:C[i]? =some (vd kV r b m (b0 f ll) cur)) (hd:Nat.blt d E.n=true)
 (k0:ll=[]→RJ E ops Q rest D ((d,.tuple [.bool false].toArray)::L) C)
 (k1: ∀ x y,(x,y)∈ll→(ll.map (·.1)).Nodup→RJ E ops Q rest D ((d,.tuple [.bool true,kV x,f y].toArray)::L) (C.set i (vd kV r b m (b0 f (dF ll x)) (some (x,f y))))):
 RJ E ops Q (⟨some d,.next xi false,ty,ps,af,g⟩::rest) D L C:=by
 refine EU hinj i hg hm hC hd (fun h=>k0 (List.map_eq_nil_iff.1 h)) (fun x v B hn=>?_)
 obtain ⟨p,hp,A⟩:=cp.1 B
 simp only [Prod.mk.injEq] at A
 obtain ⟨rfl,rfl⟩:=A
 have:=k1 p.1 p.2 hp (by simpa [b0,Function.comp_def] using hn)
 rwa [kZ] at this
end
end
end
section
structure bG where
 Start:Int
 gp:Int
 nj:List Int
 qY:List (List (Int×ab))
 eR:Int
 fZ:Int
 J1:Int
def bG.n (w:bG):Nat:=w.nj.length
def eo (s:Int):aA:=if s<0 then ⟨0,1⟩ else ⟨1,0⟩
def dv (a b:aA):aA:=⟨a.right+b.right,a.eO+b.eO⟩
def pG (w:bG) (b:Nat):List (Int×ab):=(w.qY[b]?).getD []
def gP (w:bG) (b:Nat):List (Int×ab):=(-1,⟨w.Start,w.gp⟩)::pG w b
def bZ (w:bG) (b:Nat):Int:=(w.nj[b]?).getD 0
def iZ (w:bG) (b:Nat) (p:aA×Int) (o:Int×ab):Option (aA×Int):=if max (p.2+bZ w b) o.2.Lo≤min o.2.Hi w.gp then some (dv p.1 (eo o.1),max (p.2+bZ w b) o.2.Lo) else none
def fwd (w:bG):Nat→List (aA×Int)
 |0=>[(⟨0,0⟩,w.Start)]
 |b+1=>(fwd w b).flatMap fun p=>(gP w b).filterMap (iZ w b p)
def lq (w:bG) (b:Nat) (p:aA×Int) (o:Int×ab):Option (aA×Int):=if o.2.Lo≤min p.2 o.2.Hi then some (dv p.1 (eo o.1),min p.2 o.2.Hi-bZ w b) else none
def bwd (w:bG):Nat→List (aA×Int)
 |0=>[(⟨0,0⟩,w.gp)]
 |k+1=>(⟨0,0⟩,w.gp)::(bwd w k).flatMap fun p=>(gP w (w.n-(k+1))).filterMap (lq w (w.n-(k+1)) p)
def back (w:bG) (b:Nat):List (aA×Int):=bwd w (w.n-b)
def lx (w:bG) (t:aA):Bool:=decide (t.eO≤w.eR∧w.J1-t.right≤w.fZ)
theorem eh {w:bG} {b:Nat} {q:aA×Int}:q∈fwd w (b+1)↔ ∃ p∈fwd w b,∃ o∈gP w b,iZ w b p o=some q:=by
 simp only [fwd,List.mem_flatMap,List.mem_filterMap]
theorem qh {w:bG} {b:Nat} (h:w.n≤b):back w b=[(⟨0,0⟩,w.gp)]:=by
 unfold back; rw [Nat.sub_eq_zero_of_le h]; rfl
theorem mx {w:bG} {b:Nat} (h:b<w.n) {q:aA×Int}:q∈back w b↔q=(⟨0,0⟩,w.gp)∨ ∃ p∈back w (b+1),∃ o∈gP w b,lq w b p o=some q:=by
 unfold back
 have e:w.n-b=(w.n-(b+1))+1:=by omega
 rw [e]
 simp only [bwd,bB,List.mem_flatMap,List.mem_filterMap]
 rw [show w.n-(w.n-(b+1)+1)=b by omega]
def pH (m c:List (aA×Int)):Prop:=(∀ t v,m.lookup t=some v→(t,v)∈c)∧ ∀ t y,(t,y)∈c→ ∃ v,m.lookup t=some v∧v≤y
def q8 (m c:List (aA×Int)):Prop:=(∀ t v,m.lookup t=some v→(t,v)∈c)∧ ∀ t y,(t,y)∈c→ ∃ v,m.lookup t=some v∧y≤v
def rf (m c:List (aA×Int)):Prop:= ∀ t v,m.lookup t=some v→(t,v)∈c
theorem jF {K β:Type} [DecidableEq K] {m:List (K×β)} {x t:K} {y:β}:(c3 m x y).lookup t=if t=x then some y else m.lookup t:=by
 unfold c3
 by_cases hx:(m.lookup x).isSome
 ·rw [if_pos hx]
  have key: ∀ l:List (K×β),(l.lookup x).isSome∨True→(l.map (fun p=>if p.1=x then (x,y) else p)).lookup t=if t=x then (if (l.lookup x).isSome then some y else none) else l.lookup t:=by
   intro l _
   induction l with
   |nil=>simp
   |cons p l ih=>
    obtain ⟨k,v⟩:=p
    have ih:=ih (.inr trivial)
    by_cases hk:k=x
    ·subst hk
     by_cases ht:t=k
     ·subst ht; simp [List.lookup]
     ·have:(t==k)=false:=by simpa using ht
      simp only [List.map_cons,if_true,List.lookup,this,ih,if_neg ht]
    ·have hk':(x==k)=false:=by simpa using fun e=>hk e.symm
     by_cases ht:t=k
     ·subst ht; simp [List.lookup,hk]
     ·have A:(t==k)=false:=by simpa using ht
      simp only [List.map_cons,if_neg hk,List.lookup,A,ih,hk']
  rw [key m (.inr trivial)]
  by_cases ht:t=x
  ·subst ht
   rw [if_pos rfl,if_pos rfl,if_pos hx]
  ·rw [if_neg ht,if_neg ht]
 ·rw [if_neg hx]
  have hn:m.lookup x=none:=by cases h0:m.lookup x with
   |none=>rfl
   |some v=>exact absurd (by rw [h0]; rfl) hx
  by_cases ht:t=x
  ·subst ht
   rw [if_pos rfl]
   have:=fU.1 hn
   clear hn hx
   induction m with
   |nil=>simp
   |cons p m ih=>
    obtain ⟨k,v⟩:=p
    have hk:(t==k)=false:=by simpa using fun e=>this (k,v) sm e.symm
    simp only [List.cons_append,List.lookup,hk]
    exact ih (fun q hq=>this q (db _ hq))
  ·rw [if_neg ht]
   clear hn hx
   induction m with
   |nil=>
    have:(t==x)=false:=by simpa using ht
    simp [List.lookup,this]
   |cons p m ih=>
    obtain ⟨k,v⟩:=p
    by_cases hk:t=k
    ·subst hk; simp [List.lookup]
    ·have:(t==k)=false:=by simpa using hk
     simp only [List.cons_append,List.lookup,this]
     exact ih
/-- what a map is after a try -/
def mE (m:List (aA×Int)) (q:aA×Int):List (aA×Int):=match m.lookup q.1 with
 |none=>c3 m q.1 q.2
 |some v=>if q.2<v then c3 m q.1 q.2 else m
def mi (m:List (aA×Int)) (q:aA×Int):List (aA×Int):=match m.lookup q.1 with
 |none=>c3 m q.1 q.2
 |some v=>if v<q.2 then c3 m q.1 q.2 else m
theorem sf {m:List (aA×Int)} {q:aA×Int} {t:aA}:(mE m q).lookup t=if t=q.1 then some (match m.lookup q.1 with |none=>q.2|some v=>min q.2 v) else m.lookup t:=by
 unfold mE
 cases h:m.lookup q.1 with
 |none=>simp only; rw [jF]
 |some v=>
  simp only
  split
  ·rename_i A
   rw [jF,Int.min_eq_left om]
  ·rename_i A
   split
   ·rename_i e; subst e; rw [h,Int.min_eq_right om]
   ·rfl
theorem s9 {m:List (aA×Int)} {q:aA×Int} {t:aA}:(mi m q).lookup t=if t=q.1 then some (match m.lookup q.1 with |none=>q.2|some v=>max q.2 v) else m.lookup t:=by
 unfold mi
 cases h:m.lookup q.1 with
 |none=>simp only; rw [jF]
 |some v=>
  simp only
  split
  ·rename_i A
   rw [jF,Int.max_eq_left om]
  ·rename_i A
   split
   ·rename_i e; subst e; rw [h,Int.max_eq_right om]
   ·rfl
def te (m m':List (aA×Int)):Prop:= ∀ t v,m.lookup t=some v→ ∃ v',m'.lookup t=some v'∧v'≤v
def sV (m m':List (aA×Int)):Prop:= ∀ t v,m.lookup t=some v→ ∃ v',m'.lookup t=some v'∧v≤v'
theorem te.refl (m:List (aA×Int)):te m m:=fun t v h=>⟨v,h,om⟩
theorem sV.refl (m:List (aA×Int)):sV m m:=fun t v h=>⟨v,h,om⟩
theorem qV {m:List (aA×Int)} {q:aA×Int}:te m (mE m q):=fun t v h=>by
 rw [sf]
 split
 ·rename_i e; subst e; rw [h]; exact ⟨_,rfl,by simp only; omega⟩
 ·exact ⟨v,h,om⟩
theorem oa {m:List (aA×Int)} {q:aA×Int}:sV m (mi m q):=fun t v h=>by
 rw [s9]
 split
 ·rename_i e; subst e; rw [h]; exact ⟨_,rfl,by simp only; omega⟩
 ·exact ⟨v,h,om⟩
theorem Bm {m c:List (aA×Int)} {q:aA×Int} (h:rf m c) (hq:q∈c):rf (mE m q) c:=fun t v hv=>by
 rw [sf] at hv
 split at hv
 ·rename_i e
  subst e
  cases hm:m.lookup q.1 with
  |none=>simp only [hm,Option.some.injEq] at hv; subst hv; exact hq
  |some x=>
   simp only [hm,Option.some.injEq] at hv; subst hv
   rcases Int.lt_or_le q.2 x with A|A
   ·rw [Int.min_eq_left om]; exact hq
   ·rw [Int.min_eq_right om]; exact h _ _ hm
 ·exact h t v hv
theorem Bk {m c:List (aA×Int)} {q:aA×Int} (h:rf m c) (hq:q∈c):rf (mi m q) c:=fun t v hv=>by
 rw [s9] at hv
 split at hv
 ·rename_i e
  subst e
  cases hm:m.lookup q.1 with
  |none=>simp only [hm,Option.some.injEq] at hv; subst hv; exact hq
  |some x=>
   simp only [hm,Option.some.injEq] at hv; subst hv
   rcases Int.lt_or_le q.2 x with A|A
   ·rw [Int.max_eq_right om]; exact h _ _ hm
   ·rw [Int.max_eq_left om]; exact hq
 ·exact h t v hv
theorem Bj {m:List (aA×Int)} {q:aA×Int}: ∃ v,(mE m q).lookup q.1=some v∧v≤q.2:=by
 rw [sf,if_pos rfl]
 refine ⟨_,U,?_⟩
 cases m.lookup q.1<;>simp only <;>omega
theorem B4 {m:List (aA×Int)} {q:aA×Int}: ∃ v,(mi m q).lookup q.1=some v∧q.2≤v:=by
 rw [s9,if_pos rfl]
 refine ⟨_,U,?_⟩
 cases m.lookup q.1<;>simp only <;>omega
/-- all that comes of one entry, by some options, is held -/
def gW (w:bG) (b:Nat) (m:List (aA×Int)) (p:aA×Int) (os:List (Int×ab)):Prop:= ∀ o∈os,∀ q,iZ w b p o=some q→ ∃ v,m.lookup q.1=some v∧v≤q.2
def gY (w:bG) (b:Nat) (m:List (aA×Int)) (p:aA×Int) (os:List (Int×ab)):Prop:= ∀ o∈os,∀ q,lq w b p o=some q→ ∃ v,m.lookup q.1=some v∧q.2≤v
theorem gW.lower {w:bG} {b:Nat} {m m':List (aA×Int)} {p:aA×Int} {os:List (Int×ab)} (h:gW w b m p os) (hl:te m m'):gW w b m' p os:=fun o ho q hq=>by
 obtain ⟨v,A,C⟩:=h o ho q hq
 obtain ⟨v',B,D⟩:=hl _ _ A
 exact ⟨v',B,om⟩
theorem gY.upper {w:bG} {b:Nat} {m m':List (aA×Int)} {p:aA×Int} {os:List (Int×ab)} (h:gY w b m p os) (hl:sV m m'):gY w b m' p os:=fun o ho q hq=>by
 obtain ⟨v,A,C⟩:=h o ho q hq
 obtain ⟨v',B,D⟩:=hl _ _ A
 exact ⟨v',B,om⟩
theorem gW.sub {w:bG} {b:Nat} {m:List (aA×Int)} {p:aA×Int} {os os':List (Int×ab)} (h:gW w b m p os) (hs: ∀ o∈os',o∈os):gW w b m p os':=fun o ho=>h o (hs o ho)
theorem gY.sub {w:bG} {b:Nat} {m:List (aA×Int)} {p:aA×Int} {os os':List (Int×ab)} (h:gY w b m p os) (hs: ∀ o∈os',o∈os):gY w b m p os':=fun o ho=>h o (hs o ho)
theorem gW.add {w:bG} {b:Nat} {m m':List (aA×Int)} {p:aA×Int} {os:List (Int×ab)} {o:Int×ab} (h:gW w b m p os) (hl:te m m') (hn: ∀ q,iZ w b p o=some q→ ∃ v,m'.lookup q.1=some v∧v≤q.2):gW w b m' p (os++[o]):=fun o' ho q hq=>by
 rcases gn.1 ho with ho|ho
 ·exact h.lower hl o' ho q hq
 ·simp only [bW] at ho; subst ho; exact hn q hq
theorem gY.add {w:bG} {b:Nat} {m m':List (aA×Int)} {p:aA×Int} {os:List (Int×ab)} {o:Int×ab} (h:gY w b m p os) (hl:sV m m') (hn: ∀ q,lq w b p o=some q→ ∃ v,m'.lookup q.1=some v∧q.2≤v):gY w b m' p (os++[o]):=fun o' ho q hq=>by
 rcases gn.1 ho with ho|ho
 ·exact h.upper hl o' ho q hq
 ·simp only [bW] at ho; subst ho; exact hn q hq
theorem dU {m:List (aA×Int)} (hn:(m.map (·.1)).Nodup) {t:aA} {v:Int}:(t,v)∈m↔m.lookup t=some v:=ji hn
theorem mh {z t:aA} {x v:Int}:List.lookup t [(z,x)]=some v↔t=z∧v=x:=by
 by_cases e:t=z
 ·subst e; simp [List.lookup,eq_comm]
 ·have:(t==z)=false:=by simpa using e
  simp [List.lookup,this,e]
theorem BX {w:bG}:pH [(⟨0,0⟩,w.Start)] (fwd w 0):=by
 refine ⟨fun t v h=>?_,fun t y h=>?_⟩
 ·obtain ⟨rfl,rfl⟩:=mh.1 h
  simp [fwd]
 ·simp only [fwd,bW,Prod.mk.injEq] at h
  obtain ⟨rfl,rfl⟩:=h
  exact ⟨w.Start,mh.2 ⟨U,U⟩,Int.le_refl _⟩
theorem D9 {w:bG} {b:Nat} {mb m:List (aA×Int)} (hn:(mb.map (·.1)).Nodup) (h:pH mb (fwd w b)) (hs:rf m (fwd w (b+1))) (hd: ∀ p∈mb,gW w b m p (gP w b)):pH m (fwd w (b+1)):=⟨hs,fun t y hy=>by
 obtain ⟨p,hp,o,ho,e⟩:=eh.1 hy
 obtain ⟨v,B,E⟩:=h.2 p.1 p.2 hp
 unfold iZ at e
 split at e
 ·rename_i D
  simp only [Option.some.injEq,Prod.mk.injEq] at e
  obtain ⟨v',A,C⟩:=hd (p.1,v) ((dU hn).2 B) o ho (dv p.1 (eo o.1),max (v+bZ w b) o.2.Lo) (by unfold iZ; rw [if_pos (by simp only; omega)])
  simp only at A C
  rw [e.1] at A
  exact ⟨v',A,om⟩
 ·cases e⟩
theorem EA {w:bG} {b:Nat} (hb:w.n≤b):q8 [(⟨0,0⟩,w.gp)] (back w b):=by
 rw [qh hb]
 refine ⟨fun t v h=>?_,fun t y h=>?_⟩
 ·obtain ⟨rfl,rfl⟩:=mh.1 h
  simp
 ·simp only [bW,Prod.mk.injEq] at h
  obtain ⟨rfl,rfl⟩:=h
  exact ⟨w.gp,mh.2 ⟨U,U⟩,Int.le_refl _⟩
theorem EL {w:bG} {b:Nat} (hb:b<w.n) {mb m:List (aA×Int)} (hn:(mb.map (·.1)).Nodup) (h:q8 mb (back w (b+1))) (hs:rf m (back w b)) (h0: ∃ v,m.lookup ⟨0,0⟩=some v∧w.gp≤v) (hd: ∀ p∈mb,gY w b m p (gP w b)):q8 m (back w b):=⟨hs,fun t y hy=>by
 rcases (mx hb).1 hy with e|⟨p,hp,o,ho,e⟩
 ·simp only [Prod.mk.injEq] at e
  obtain ⟨rfl,rfl⟩:=e
  exact h0
 obtain ⟨v,B,E⟩:=h.2 p.1 p.2 hp
 unfold lq at e
 split at e
 ·rename_i D
  simp only [Option.some.injEq,Prod.mk.injEq] at e
  obtain ⟨v',A,C⟩:=hd (p.1,v) ((dU hn).2 B) o ho (dv p.1 (eo o.1),min v o.2.Hi-bZ w b) (by unfold lq; rw [if_pos (by simp only; omega)])
  simp only at A C
  rw [e.1] at A
  exact ⟨v',A,om⟩
 ·cases e⟩
end
section
def hE (w:bG) (b:Nat) (p u:aA×Int) (o:Int×ab):ab:=⟨max (p.2+bZ w b) o.2.Lo,min u.2 o.2.Hi⟩
def sJ (p u:aA×Int) (o:Int×ab):aA:=dv (dv p.1 u.1) (eo o.1)
def j3 (w:bG) (b:Nat) (p u:aA×Int) (o:Int×ab):Option (Int×ab):=if (hE w b p u o).Lo≤(hE w b p u o).Hi∧lx w (sJ p u o)=true then some (o.1,hE w b p u o) else none
def nu (w:bG) (b:Nat) (mf mb:List (aA×Int)):List (Int×ab):=(gP w b).flatMap fun o=>mf.flatMap fun p=>mb.filterMap fun u=>j3 w b p u o
def lT (w:bG) (b:Nat):List (Int×ab):=nu w b (fwd w b) (back w (b+1))
theorem fW {w:bG} {b:Nat} {mf mb:List (aA×Int)} {q:Int×ab}:q∈nu w b mf mb↔ ∃ o∈gP w b,∃ p∈mf,∃ u∈mb,j3 w b p u o=some q:=by
 simp only [nu,List.mem_flatMap,List.mem_filterMap]
theorem g6 {w:bG} {b:Nat} {p u:aA×Int} {o q:Int×ab}:j3 w b p u o=some q↔(hE w b p u o).Lo≤(hE w b p u o).Hi∧lx w (sJ p u o)=true∧q=(o.1,hE w b p u o):=by
 unfold j3
 split
 ·rename_i h
  simp only [Option.some.injEq]
  exact ⟨fun e=>⟨h.1,h.2,e.symm⟩,fun e=>e.2.2.symm⟩
 ·rename_i h
  simp only [reduceCtorEq,false_iff]
  exact fun e=>h ⟨e.1,e.2.1⟩
theorem mL {w:bG} {b:Nat} {mf mb:List (aA×Int)} {q:Int×ab} (h:q∈nu w b mf mb):q.2.Lo≤q.2.Hi:=by
 obtain ⟨o,_,p,_,u,_,e⟩:=fW.1 h
 obtain ⟨A,_,rfl⟩:=g6.1 e
 exact A
/-- what the maps tell is what all ways tell -/
theorem G1 {w:bG} {b:Nat} {mf mb:List (aA×Int)} (hf:pH mf (fwd w b)) (hb:q8 mb (back w (b+1))) (nf:(mf.map (·.1)).Nodup) (nb:(mb.map (·.1)).Nodup) {q:Int×ab} (h:q∈nu w b mf mb):q∈lT w b:=by
 obtain ⟨o,ho,p,hp,u,hu,e⟩:=fW.1 h
 exact fW.2 ⟨o,ho,p,hf.1 _ _ ((dU nf).1 hp),u,hb.1 _ _ ((dU nb).1 hu),e⟩
theorem El {w:bG} {b:Nat} {mf mb:List (aA×Int)} (hf:pH mf (fwd w b)) (hb:q8 mb (back w (b+1))) (nf:(mf.map (·.1)).Nodup) (nb:(mb.map (·.1)).Nodup) {q:Int×ab} (h:q∈lT w b): ∃ q'∈nu w b mf mb,q'.1=q.1∧q'.2.Lo≤q.2.Lo∧q.2.Hi≤q'.2.Hi:=by
 obtain ⟨o,ho,p,hp,u,hu,e⟩:=fW.1 h
 obtain ⟨A,B,rfl⟩:=g6.1 e
 obtain ⟨v,hv,C⟩:=hf.2 p.1 p.2 hp
 obtain ⟨y,hy,D⟩:=hb.2 u.1 u.2 hu
 simp only [hE] at A
 refine ⟨(o.1,hE w b (p.1,v) (u.1,y) o),fW.2 ⟨o,ho,(p.1,v),(dU nf).2 hv,(u.1,y),(dU nb).2 hy,g6.2 ⟨?_,B,U⟩⟩,U,?_,?_⟩
 ·simp only [hE]; omega
 ·simp only [hE]; omega
 ·simp only [hE]; omega
def lV:ab:=⟨1,0⟩
def kT (h x:ab):ab:=if h=lV then x else ⟨min x.Lo h.Lo,max x.Hi h.Hi⟩
def zD (l:List (Int×ab)):ab:=l.foldl (fun h q=>kT h q.2) lV
structure r5 (l:List (Int×ab)) (h:ab):Prop where
 le:h.Lo≤h.Hi
 lo: ∃ x∈l,x.2.Lo=h.Lo
 hi: ∃ x∈l,x.2.Hi=h.Hi
 all: ∀ x∈l,h.Lo≤x.2.Lo∧x.2.Hi≤h.Hi
def ki (l:List (Int×ab)) (h:ab):Prop:=(l=[]∧h=lV)∨r5 l h
theorem r5.ne {l:List (Int×ab)} {h:ab} (hh:r5 l h):h≠lV:=fun e=>by
 have:=hh.le; rw [e] at this; simp [lV] at this
theorem wW:ki [] lV:= .inl ⟨rfl,rfl⟩
theorem tY {l:List (Int×ab)} {h:ab} {q:Int×ab} (hh:ki l h) (hq:q.2.Lo≤q.2.Hi):ki (l++[q]) (kT h q.2):=by
 right
 rcases hh with ⟨rfl,rfl⟩|hh
 ·unfold kT
  rw [if_pos rfl]
  exact ⟨hq,⟨q,sm,rfl⟩,⟨q,sm,rfl⟩,fun x hx=>by simp at hx; subst hx; exact ⟨Int.le_refl _,Int.le_refl _⟩⟩
 ·unfold kT
  rw [if_neg hh.ne]
  have A:=hh.le
  obtain ⟨a,ha,ea⟩:=hh.lo
  obtain ⟨c,hc,ec⟩:=hh.hi
  refine ⟨by simp only; omega,?_,?_,fun x hx=>?_⟩
  ·rcases Int.lt_or_le q.2.Lo h.Lo with p|p
   ·exact ⟨q,sm,by simp only; omega⟩
   ·exact ⟨a,by simp [ha],by simp only; omega⟩
  ·rcases Int.lt_or_le h.Hi q.2.Hi with p|p
   ·exact ⟨q,sm,by simp only; omega⟩
   ·exact ⟨c,by simp [hc],by simp only; omega⟩
  ·rcases gn.1 hx with hx|hx
   ·have:=hh.all x hx; simp only; omega
   ·simp at hx; subst hx; simp only; omega
theorem yM {l:List (Int×ab)} (hl: ∀ q∈l,q.2.Lo≤q.2.Hi):ki l (zD l):=by
 have key: ∀ (r d:List (Int×ab)) (h:ab),(∀ q∈r,q.2.Lo≤q.2.Hi)→ki d h→ki (d++r) (r.foldl (fun h q=>kT h q.2) h):=by
  intro r
  induction r with
  |nil=>intro d h _ hd; simpa using hd
  |cons q r ih=>
   intro d h hr hd
   have:=ih (d++[q]) (kT h q.2) (fun x hx=>hr x (db _ hx)) (tY hd (hr q sm))
   simpa using this
 have:=key l [] lV hl wW
 rw [List.nil_append] at this
 exact this
def yw (a b:List (Int×ab)):Prop:= ∀ x∈b,∃ y∈a,y.2.Lo≤x.2.Lo∧x.2.Hi≤y.2.Hi
theorem G9 {a b:List (Int×ab)} {h k:ab} (ha:ki a h) (hb:ki b k) (hab:yw a b) (hba:yw b a):h=k:=by
 rcases ha with ⟨rfl,rfl⟩|ha
 ·rcases hb with ⟨rfl,rfl⟩|hb
  ·rfl
  ·obtain ⟨x,hx,_⟩:=hb.lo
   obtain ⟨y,hy,_⟩:=hab x hx
   cases hy
 ·rcases hb with ⟨rfl,rfl⟩|hb
  ·obtain ⟨x,hx,_⟩:=ha.lo
   obtain ⟨y,hy,_⟩:=hba x hx
   cases hy
  ·have le: ∀ {a b:List (Int×ab)} {h k:ab},r5 a h→r5 b k→yw a b→h.Lo≤k.Lo∧k.Hi≤h.Hi:=fun {a b h k} ha hb hab=>by
    obtain ⟨x,hx,ex⟩:=hb.lo
    obtain ⟨z,hz,ez⟩:=hb.hi
    obtain ⟨y,hy,ey⟩:=hab x hx
    obtain ⟨y',hy',ey'⟩:=hab z hz
    have A:=ha.all y hy
    have B:=ha.all y' hy'
    omega
   have A:=le ha hb hab
   have B:=le hb ha hba
   rw [ab.ext_iff]; omega
theorem uA {w:bG} {b:Nat} {mf mb:List (aA×Int)} {l:List (Int×ab)} {h:ab} (hf:pH mf (fwd w b)) (hb:q8 mb (back w (b+1))) (nf:(mf.map (·.1)).Nodup) (nb:(mb.map (·.1)).Nodup)
 (hl: ∀ q∈l,q∈nu w b mf mb) (hl2: ∀ q∈nu w b mf mb,q∈l) (hh:ki l h):h=zD (lT w b):=
 G9 hh (yM fun q hq=>mL hq) (fun x hx=>by
  obtain ⟨q,hq,_,A,B⟩:=El hf hb nf nb hx
  exact ⟨q,hl2 q hq,A,B⟩) (fun x hx=>⟨x,G1 hf hb nf nb (hl x hx),Int.le_refl _,Int.le_refl _⟩)
def iL (w:bG) (m:List (aA×Int)):Bool:=m.any fun p=>lx w p.1
theorem wK {w:bG} {b:Nat} {m:List (aA×Int)} (h:pH m (fwd w b)) (nf:(m.map (·.1)).Nodup):iL w m=iL w (fwd w b):=by
 unfold iL
 rw [Bool.eq_iff_iff,List.any_eq_true,List.any_eq_true]
 constructor
 ·rintro ⟨p,hp,A⟩
  exact ⟨p,h.1 _ _ ((dU nf).1 hp),A⟩
 ·rintro ⟨p,hp,A⟩
  obtain ⟨v,hv,_⟩:=h.2 p.1 p.2 hp
  exact ⟨(p.1,v),(dU nf).2 hv,A⟩
def iO (w:bG) (k:Nat):List Int:=((List.range k).filter fun i=>iL w (fwd w i)).map fun (i:Nat)=>(i:Int)
def hG (w:bG):List Int:=iO w (w.n+1)
theorem yZ {w:bG} {k:Nat} (h:iL w (fwd w k)=true):iO w (k+1)=iO w k++[(k:Int)]:=by simp [iO,List.range_succ,h]
theorem Bl {w:bG} {k:Nat} (h:iL w (fwd w k)=false):iO w (k+1)=iO w k:=by simp [iO,List.range_succ,h]
theorem oZ {w:bG} {k:Nat}:(iO w k).length≤k:=by
 unfold iO
 rw [List.length_map]
 exact Nat.le_trans (List.length_filter_le _ _) sm
end
section
open Go.RowKit
theorem Cq {P:Program} {t:Nat} {k:IntKind} (hu:P.underlying t=some (.int k)) (e:Bool) (n:Nat) (v:Value) (w:World):(Instr.checkKey e (n+1) t v).run P w= .ok () w:=by
 unfold Instr.checkKey
 simp only [Sem.run_bind,run_underlying hu,Result.andThen]
 cases v<;>rfl
theorem vm {P:Program} {kt:Nat} {l:List (Nat×Nat)} (hl:fL P kt=some l) (e:Bool) (n:Nat) (cs:Array Value) (w:World)
 (hf: ∀ p∈l,(∃ v,(part p.1 cs p.2).run P w= .ok v w)∧ ∃ k,P.underlying p.1=some (.int k)):(Instr.checkKey e (n+2) kt (.agg cs)).run P w= .ok () w:=by
 unfold fL at hl
 cases hu:P.underlying kt with
 |none=>simp [hu] at hl
 |some d=>
  cases d<;>simp [hu] at hl
  rename_i fs
  obtain ⟨hn,hl⟩:=hl
  rw [show n+2=(n+1)+1 from rfl,Instr.checkKey]
  simp only [Sem.run_bind,run_underlying hu,Result.andThen_ok]
  rw [← Array.forIn_toList]
  have A: ∀ f∈fs.toList,(∃ v,(part f.type cs f.offset).run P w= .ok v w)∧ ∃ k,P.underlying f.type=some (.int k):=fun f hf'=>hf (f.type,f.offset) (by rw [← hl]; exact cp.2 ⟨f,hf',rfl⟩)
  have B: ∀ f∈fs.toList,f.name≠"_":=fun f hf'=>by
   obtain ⟨i,hi,rfl⟩:=List.getElem_of_mem hf'
   exact hn.1.1 i (by simpa using hi)
  clear hl hn hf
  generalize fs.toList=L at A B
  induction L with
  |nil=>simp
  |cons f L ih=>
   obtain ⟨⟨v,hv⟩,k,hk⟩:=A f sm
   have C:=B f sm
   simp only [List.forIn_cons,Sem.run_bind,C,ne_eq,not_false_eq_true,if_true,Result.andThen_ok,hv,Cq hk,Sem.run_pure]
   exact ih (fun y hy=>A y (by simp [hy])) (fun y hy=>B y (by simp [hy]))
theorem wU {P:Program} {kt:Nat} {K:Type} [DecidableEq K] {kV:K→Value} (hw: ∀ (k:Value) (es:List MapEntry) (w:World),(Instr.findKey kt k es).run P w=(Instr.findAsking kt k es).run P w)
 (heq: ∀ x y w,(Op.equal kt (kV x) (kV y)).run P w= .ok (decide (x=y)) w) (inj: ∀ x y,kV x=kV y→x=y) (x:K) (w:World) (es:List MapEntry) (hk: ∀ e∈es,∃ k,e.key=kV k):
 ((Instr.findKey kt (kV x) es).run P w= .ok none w∧ ∀ e∈es,e.key≠kV x)∨ ∃ j e,(Instr.findKey kt (kV x) es).run P w= .ok (some (j,e.val)) w∧es[j]? =some e∧e.key=kV x:=by
 have key: ∀ (es:List MapEntry) (i:Nat),(∀ e∈es,∃ k,e.key=kV k)→((Instr.findAsking kt (kV x) es i).run P w= .ok none w∧ ∀ e∈es,e.key≠kV x)∨ ∃ j e,(Instr.findAsking kt (kV x) es i).run P w= .ok (some (i+j,e.val)) w∧es[j]? =some e∧e.key=kV x:=by
  intro es
  induction es with
  |nil=>intro i _; exact .inl ⟨by simp [Instr.findAsking],sm⟩
  |cons e es ih=>
   intro i B
   obtain ⟨k,A⟩:=B e sm
   by_cases h:x=k
   ·refine .inr ⟨0,e,?_,U,by rw [A,h]⟩
    subst h
    simp [Instr.findAsking,A,heq]
   ·rcases ih (i+1) (fun y hy=>B y (by simp [hy])) with ⟨C,D⟩|⟨j,e',C,D,E⟩
    ·refine .inl ⟨by simp [Instr.findAsking,A,heq,h,C],fun y hy=>?_⟩
     rcases bB.1 hy with rfl|hy
     ·rw [A]; exact fun q=>h (inj _ _ q).symm
     ·exact D y hy
    ·exact .inr ⟨j+1,e',by simp [Instr.findAsking,A,heq,h,C]; omega,by simpa using D,E⟩
 rw [hw]
 rcases key es 0 hk with h|⟨j,e,C,D,E⟩
 ·exact .inl h
 ·exact .inr ⟨j,e,by simpa using C,D,E⟩
theorem yC {P:Program} {kt:Nat} {l:List (Nat×Nat)} (hl:fL P kt=some l) (k:Value) (es:List MapEntry) (w:World):(Instr.findKey kt k es).run P w=(Instr.findAsking kt k es).run P w:=by
 refine run_findKey_eq w ?_ k es
 unfold fL at hl
 cases hu:P.underlying kt with
 |none=>simp [hu] at hl
 |some d=>cases d<;>simp [hu] at hl ⊢
theorem F6 {P:Program} {kt:Nat} {K:Type} [DecidableEq K] {kV:K→Value} {l:List (Nat×Nat)} (hl:fL P kt=some l) (heq: ∀ x y w,(Op.equal kt (kV x) (kV y)).run P w= .ok (decide (x=y)) w) (inj: ∀ x y,kV x=kV y→x=y)
 (hb: ∀ x,Instr.sameBits 10000 (kV x) (kV x)=true) (hp: ∀ x w,∃ cs,kV x= .agg cs∧ ∀ p∈l,(∃ v,(part p.1 cs p.2).run P w= .ok v w)∧ ∃ k,P.underlying p.1=some (.int k)):qp P kt kV:=
 ⟨fun e x w=>by obtain ⟨cs,A,B⟩:=hp x w; rw [A]; exact vm hl e 9998 cs w B,fun x w es=>wU (yC hl) heq inj x w es,hb,inj⟩
end
section
open Go.RowKit
set_option linter.unusedSectionVars false
theorem fM {P:Program} {kt:Nat} (hk:P.underlying kt=some (.int .i64)):qp P kt (Value.int .i64):=by
 refine ⟨fun e x w=>BQ hk e,fun x w es A=>?_,fun x=>by simp [Instr.sameBits],fun x y h=>by injection h⟩
 have key: ∀ (es:List MapEntry) (i:Nat),(∀ e∈es,∃ k:Int,e.key= .int .i64 k)→(Instr.findNow (.int .i64) (.int .i64 x) es i=some none∧ ∀ e∈es,e.key≠ .int .i64 x)∨ ∃ j e,Instr.findNow (.int .i64) (.int .i64 x) es i=some (some (i+j,e.val))∧es[j]? =some e∧e.key= .int .i64 x:=by
  intro es
  induction es with
  |nil=>intro i _; exact .inl ⟨rfl,sm⟩
  |cons e es ih=>
   intro i A
   obtain ⟨k,B⟩:=A e sm
   by_cases h:x=k
   ·subst h
    exact .inr ⟨0,e,by simp [Instr.findNow,Instr.sameNow,B],U,B⟩
   ·have hb:(x==k)=false:=by simpa using h
    rcases ih (i+1) (fun y hy=>A y (by simp [hy])) with ⟨C,D⟩|⟨j,e',C,D,E⟩
    ·refine .inl ⟨by simp [Instr.findNow,Instr.sameNow,B,hb,C],fun y hy=>?_⟩
     rcases bB.1 hy with rfl|hy
     ·rw [B]; intro q; injection q with _ q; exact h q.symm
     ·exact D y hy
    ·refine .inr ⟨j+1,e',?_,by simpa using D,E⟩
     simp only [Instr.findNow,Instr.sameNow,B,hb,if_true,C]
     simp; omega
 rcases key es 0 A with ⟨C,D⟩|⟨j,e,C,D,E⟩
 ·exact .inl ⟨MapKept.run_findKey hk C,D⟩
 ·exact .inr ⟨j,e,MapKept.run_findKey hk (by simpa using C),D,E⟩
theorem St.HH {S:BS} {w0 w w':World} {C:List au} {A N:au} (h:St S w0 C w) (i:Nat) (hA:C[i]? =some A) (k:cW no w w') (hN:N.holds w') (hf: ∀ b,N.dQ b→w.heap.size≤b∨A.dQ b∧ ¬ A.wf b∧ ¬ N.wf b):St S w0 (N::C) w':=by
 have h':=h.same k
 have G:=aP hA
 have hi:=(bg.1 hA).1
 have B:C[i]=A:=(bg.1 hA).2
 refine ⟨h'.keeps,fun X hX=>?_,List.Pairwise.cons (fun X hX b hb hb'=>?_) h'.sep,fun X hX b hb=>?_,fun X hX b hb=>?_⟩
 ·rcases bB.1 hX with rfl|hX
  ·exact hN
  ·exact h'.holds X hX
 ·rcases hf b hb with E|⟨E,AA,H⟩
  ·have:=X.lt w (h.holds X hX) b hb'; omega
  ·refine ⟨H,?_⟩
   obtain ⟨j,hj,D⟩:=List.mem_iff_getElem.1 hX
   by_cases e:j=i
   ·subst e; rw [← D,B]; exact AA
   ·rcases Nat.lt_or_gt_of_ne e with F|F
    ·have:=dL.1 h.sep j i hj hi F b (by rw [D]; exact hb') (by rw [B]; exact E)
     rw [← D]; exact this.1
    ·have:=dL.1 h.sep i j hi hj F b (by rw [B]; exact E) (by rw [D]; exact hb')
     rw [← D]; exact this.2
 ·rcases bB.1 hX with rfl|hX
  ·rcases hf b (X.iW b hb) with E|⟨_,_,H⟩
   ·exact .inl (Nat.le_trans h.keeps.size E)
   ·exact absurd hb H
  ·exact h'.own X hX b hb
 ·rcases bB.1 hX with rfl|hX
  ·rcases hf b hb with E|⟨E,_,_⟩
   ·exact .inl (Nat.le_trans h.keeps.size E)
   ·exact h.seen A G b E
  ·exact h'.seen X hX b hb
section
variable {K:Type} [DecidableEq K] {kV:K→Value}
/-- an iterator over a map that is read alone -/
def yb (kV:K→Value) (r b:Nat) (m left:List (K×Value)) (cur:Option (K×Value)):au where
 dQ k:=k=r∨k=b
 wf k:=k=r
 holds w:=r≠b∧ ∃ (es:Array MapEntry) (c since:Nat) (seen:Array Nat) (st:Nat),w.heap[b]? =some (.map es c)∧gU kV es c m∧w.heap[r]? =some (.mapIter (some b) since seen st)∧(∀ e∈es.toList,e.born<since)∧since≤st∧since≤c∧
  (leftOf es seen).toList.map (fun (e:MapEntry)=>(e.key,e.val))=left.map (fun p=>(kV p.1,p.2))∧
  ∀ p,cur=some p→ ∃ (e:MapEntry) (seen0:Array Nat),e∈es.toList∧seen=seen0.push e.born∧st=c∧e.key=kV p.1∧e.val=p.2
 wr:=false
 iW _ h:= .inl h
 whole h:=by cases h
 lt w h k hk:=by
  obtain ⟨_,es,c,since,seen,st,h1,_,h2,_⟩:=h
  rcases hk with rfl|rfl
  ·exact c5 h2
  ·exact c5 h1
 mo w w' hk h:=by
  obtain ⟨hne,es,c,since,seen,st,h1,h2,h3,h4⟩:=h
  exact ⟨hne,es,c,since,seen,st,(hk b (.inr rfl)).trans h1,h2,(hk r (.inl rfl)).trans h3,h4⟩
theorem l9 {r b:Nat} {m left:List (K×Value)} {cur:Option (K×Value)}:(∀ w,(yb kV r b m left cur).holds w→(yb kV r b m left none).holds w)∧(∀ k,(yb kV r b m left none).dQ k→(yb kV r b m left cur).dQ k)∧ ∀ k,(yb kV r b m left none).wf k→(yb kV r b m left cur).wf k:=
 ⟨fun w h=>by
  obtain ⟨A,es,c,since,seen,st,B,C,D,E,F,h5',G,_⟩:=h
  exact ⟨A,es,c,since,seen,st,B,C,D,E,F,h5',G,fun p hp=>by cases hp⟩,fun _ h=>h,fun _ h=>h⟩
section
variable {E:dK} {ops:Array Oper} {Q:cv} {rest:List Oper} {D:List Deferred} {L:List (Nat×Value)} {C:List au}
variable {dst:Option Tmp} {d:Nat} {ty:TypeId} {ps:String} {af:Array Edge} {g:Option (Nat×Bool)}
theorem m4 {t kt et:TypeId} {xm:Operand} {b:Nat} {m:List (K×Value)} {A:au} (i:Nat) (hg:im ops L g=true) (hm:ev L xm=some (.map (some b))) (ht:E.P.underlying t=some (.map kt et)) (hA:C[i]? =some A) (hAf:A.dQ b∧ ¬ A.wf b) (hC:iE C (iB kV b m).holds) (hd:Nat.blt d E.n=true)
 (k: ∀ r,RJ E ops Q rest D ((d,.pointer (some ⟨r,0,none⟩))::L) (yb kV r b m m none::C)):RJ E ops Q (⟨some d,.range t xm,ty,ps,af,g⟩::rest) D L C:=by
 intro a w B hs
 have hd':d<E.n:=by rw [← Nat.blt_eq]; exact hd
 unfold oT
 rw [if_pos (di B hg)]
 obtain ⟨es,c,he,hi⟩:=hs.has hC
 have G:b<w.heap.size:=c5 he
 have F:(getObj b).run E.P w= .ok (.map es c) w:=MapKept.run_getObj_map he
 refine gE (v:= .pointer (some ⟨w.heap.size,0,none⟩)) (w':=w.alloc (.mapIter (some b) c #[] c)) sm ?_ ?_
 ·simp [execOp,Instr.range,B.ev hm,run_underlying ht,F,newObj,Sem.run]
 ·refine k _ _ _ (B.put hd' _) (hs.HH i hA (cW.alloc no w _) ⟨om,es,c,c,#[],c,?_,hi,heap_alloc_new w _,hi.JR,Nat.le_refl _,Nat.le_refl _,?_,fun p hp=>by cases hp⟩ (fun q hq=>?_))
  ·rw [Below.heap_alloc w _ b G]; exact he
  ·have:leftOf es #[]=es:=by unfold leftOf; exact Array.filter_eq_self.2 sm
   rw [this]; exact hi.list
  ·rcases hq with rfl|rfl
   ·exact .inl (Nat.le_refl _)
   ·refine .inr ⟨hAf.1,hAf.2,fun (e:q=w.heap.size)=>by omega⟩
theorem BJ (hinj: ∀ x y,kV x=kV y→x=y) {xi:Operand} {r b:Nat} {m left:List (K×Value)} {cur:Option (K×Value)} (i:Nat) (hg:im ops L g=true) (hm:ev L xi=some (.pointer (some ⟨r,0,none⟩))) (hC:C[i]? =some (yb kV r b m left cur)) (hd:Nat.blt d E.n=true)
 (k0:left=[]→RJ E ops Q rest D ((d,.tuple [.bool false].toArray)::L) C)
 (k1: ∀ x v,(x,v)∈left→(left.map (·.1)).Nodup→RJ E ops Q rest D ((d,.tuple [.bool true,kV x,v].toArray)::L) (C.set i (yb kV r b m (dF left x) (some (x,v))))):
 RJ E ops Q (⟨some d,.next xi false,ty,ps,af,g⟩::rest) D L C:=by
 intro a w G hs
 have hd':d<E.n:=by rw [← Nat.blt_eq]; exact hd
 unfold oT
 rw [if_pos (di G hg)]
 obtain ⟨R,es,c,since,seen,st,X,hi,Y,J,V,M,A,_⟩:=hs.holds _ (aP hC)
 rcases run_next_at (P:=E.P) w ty r b since st seen es c Y X J V with ⟨Z,hr⟩|⟨e,he,N,H,hr⟩
 ·refine gE (v:= .tuple #[.bool false]) (w':=w) sm ?_ ?_
  ·simp [execOp,G.ev hm,hr]
  ·refine k0 ?_ _ _ (G.put hd' _) hs
   have:(leftOf es seen).toList=[]:=by rw [← List.length_eq_zero_iff,Array.length_toList]; exact Z
   rw [this] at A
   exact List.map_eq_nil_iff.1 A.symm
 ·have O:(e.key,e.val)∈left.map (fun p=>(kV p.1,p.2)):=by rw [← A]; exact cp.2 ⟨e,he,rfl⟩
  obtain ⟨p,hp,S⟩:=cp.1 O
  obtain ⟨x,v⟩:=p
  simp only [Prod.mk.injEq] at S
  obtain ⟨hk,hv⟩:=S
  refine gE (v:= .tuple #[.bool true,e.key,e.val]) (w':=ChangeMaps.setBlock N r (.mapIter (some b) since (seen.push e.born) c)) sm ?_ ?_
  ·simp [execOp,G.ev hm,hr]
  ·rw [← hk,← hv]
   have AA:=sa hinj hi A
   have F:e∈es.toList:=by unfold leftOf at he; rw [Array.toList_filter] at he; exact (List.mem_filter.1 he).1
   have f:c=c:=rfl
   have B:N.heap=w.heap:=by rcases H with rfl|rfl<;>rfl
   refine k1 x v hp AA _ _ (G.put hd' _) (hs.mv i hC ⟨⟨R,es,c,since,seen.push e.born,c,?_,hi,?_,J,M,M,?_,fun q hq=>?_⟩,?_,fun q hq=> .inl hq,fun q hq=> .inl hq⟩)
   ·show (N.heap.setIfInBounds r _)[b]? =_
    rw [Array.getElem?_setIfInBounds_ne R,B]; exact X
   ·show (N.heap.setIfInBounds r _)[r]? =_
    rw [Array.getElem?_setIfInBounds_self_of_lt (by rw [B]; exact c5 Y)]
   ·have T:leftOf es (seen.push e.born)=(leftOf es seen).filter (fun z=> !(z.born==e.born)):=by
     unfold leftOf
     rw [Array.filter_filter]
     congr 1
     funext z
     simp only [Array.contains_push,Bool.not_or]
     rw [Bool.and_comm]
    rw [T,Array.toList_filter]
    have key: ∀ (l:List MapEntry) (ll:List (K×Value)),(∀ z∈l,z∈es.toList)→l.map (fun (e:MapEntry)=>(e.key,e.val))=ll.map (fun p=>(kV p.1,p.2))→
     (l.filter (fun z=> !(z.born==e.born))).map (fun (e:MapEntry)=>(e.key,e.val))=(dF ll x).map (fun p=>(kV p.1,p.2)):=by
     intro l
     induction l with
     |nil=>intro ll _ h; cases ll with
      |nil=>rfl
      |cons p ll=>simp at h
     |cons z l ih=>
      intro ll hz h
      cases ll with
      |nil=>simp at h
      |cons p ll=>
       simp only [List.map_cons,List.cons.injEq,Prod.mk.injEq] at h
       have ih':=ih ll (fun y hy=>hz y (by simp [hy])) h.2
       have AB:(z.born=e.born)↔(p.1=x):=by
        constructor
        ·intro hb
         have:z=e:=x5 hi.born (hz z sm) F hb
         rw [this] at h
         have:=h.1.1.symm.trans hk.symm
         exact hinj _ _ this
        ·intro hx
         have W:z.key=e.key:=by rw [h.1.1,hx,hk]
         rw [xP hinj hi (hz z sm) F W]
       unfold dF at ih' ⊢
       by_cases hx:p.1=x
       ·rw [List.filter_cons_of_neg (by simp [AB.2 hx]),List.filter_cons_of_neg (by simp [hx])]; exact ih'
       ·rw [List.filter_cons_of_pos (by simpa using fun hb=>hx (AB.1 hb)),List.filter_cons_of_pos (by simpa using hx)]
        simp only [List.map_cons,h.1.1,h.1.2,ih']
    exact key _ _ (fun z hz=>by unfold leftOf at hz; rw [Array.toList_filter] at hz; exact (List.mem_filter.1 hz).1) A
   ·cases hq
    exact ⟨e,seen,F,U,U,hk.symm,hv.symm⟩
   ·refine ⟨?_,?_,?_,?_,fun q hq hn=>?_⟩
    ·rcases H with rfl|rfl<;>rfl
    ·rcases H with rfl|rfl<;>rfl
    ·rcases H with rfl|rfl<;>rfl
    ·show w.heap.size≤(N.heap.setIfInBounds r _).size
     simp [B]
    ·show (N.heap.setIfInBounds r _)[q]? =_
     rw [Array.getElem?_setIfInBounds_ne (fun e=>hn e.symm),B]
theorem lR {xi:Operand} {r b:Nat} {m left:List (K×Value)} {x:K} {v:Value} (i:Nat) (hg:im ops L g=true) (hm:ev L xi=some (.pointer (some ⟨r,0,none⟩))) (hC:C[i]? =some (yb kV r b m left (some (x,v)))):
 SD E ops ⟨dst,.entry xi,ty,ps,af,g⟩ D L C (.tuple [kV x,v].toArray):=
 dk hg sm fun a w F hs=>by
  obtain ⟨N,es,c,since,seen,st,J,hi,M,H,O,AA,G,B⟩:=hs.holds _ (aP hC)
  obtain ⟨e,A,he,rfl,rfl,hk,hv⟩:=B _ rfl
  have:=run_entry_at (P:=E.P) w r b since A es st e M J he hi.born
  simp [execOp,F.ev hm,this,hk,hv]
theorem lG (hinj: ∀ x y,kV x=kV y→x=y) {β:Type} {f:β→Value} {xi:Operand} {r b:Nat} {m:List (K×Value)} {ll:List (K×β)} {cur:Option (K×Value)} (i:Nat) (hg:im ops L g=true) (hm:ev L xi=some (.pointer (some ⟨r,0,none⟩))) (hC:C[i]? =some (yb kV r b m (b0 f ll) cur)) (hd:Nat.blt d E.n=true)
 (k0:ll=[]→RJ E ops Q rest D ((d,.tuple [.bool false].toArray)::L) C)
 (k1: ∀ x y,(x,y)∈ll→(ll.map (·.1)).Nodup→RJ E ops Q rest D ((d,.tuple [.bool true,kV x,f y].toArray)::L) (C.set i (yb kV r b m (b0 f (dF ll x)) (some (x,f y))))):
 RJ E ops Q (⟨some d,.next xi false,ty,ps,af,g⟩::rest) D L C:=by
 refine BJ hinj i hg hm hC hd (fun h=>k0 (List.map_eq_nil_iff.1 h)) (fun x v B hn=>?_)
 obtain ⟨p,hp,A⟩:=cp.1 B
 simp only [Prod.mk.injEq] at A
 obtain ⟨rfl,rfl⟩:=A
 have:=k1 p.1 p.2 hp (by simpa [b0,Function.comp_def] using hn)
 rwa [kZ] at this
theorem qs {t kt et:TypeId} {xm xk xv:Operand} {b:Nat} {x:K} {v:Value} {m m':List (K×Value)} {C':List au} (i:Nat) (hg:im ops L g=true) (hm:ev L xm=some (.map (some b))) (hk:ev L xk=some (kV x)) (hv:ev L xv=some v)
 (ht:E.P.underlying t=some (.map kt et)) (hkt:qp E.P kt kV) (hC:C[i]? =some (iB kV b m)) (hm':c3 m x v=m') (hC':C.set i (iB kV b m')=C') (k:RJ E ops Q rest D L C'):
 RJ E ops Q (⟨none,.insert t xm xk xv,ty,ps,af,g⟩::rest) D L C:=by
 subst hm' hC'
 intro a w A hs
 unfold oT
 rw [if_pos (di A hg)]
 obtain ⟨es,c,he,hi⟩:=hs.holds _ (aP hC)
 have B:(getObj b).run E.P w= .ok (.map es c) w:=MapKept.run_getObj_map he
 rcases ml (P:=E.P) (w:=w) (x:=x) hkt hi with ⟨AA,F⟩|⟨j,N,AA,F,J⟩
 ·refine oI (w':={w with heap:=w.heap.setIfInBounds b (.map (es.push {key:=kV x,val:=v,born:=c}) (c+1))}) sm ?_ ?_
  ·simp [execOp,A.ev hm,A.ev hk,A.ev hv,Instr.mapUpdate,run_underlying ht,B,gH hkt,AA,MapKept.run_setObj_map _ he]
  ·refine k _ _ ⟨A.defers,A.size,A.at_⟩ (hs.ug (b:=b) i hC U U (kD _) (fun _ h=>h) ⟨_,_,mC he,?_⟩)
   have:c3 m x v=m++[(x,v)]:=by unfold c3; rw [F]; rfl
   rw [this]; exact hi.push F v
 ·have M:=hi.size
  have G:j<es.size:=by have:=(bg.1 F).1; omega
  have H:(es[j]).key=kV x:=by
   have:=congrArg (fun l=>l[j]?) hi.list
   simp [G,F] at this
   exact this.1
  refine oI (w':={w with heap:=w.heap.setIfInBounds b (.map (es.modify j fun e=>{e with key:=kV x,val:=v}) c)}) sm ?_ ?_
  ·simp [execOp,A.ev hm,A.ev hk,A.ev hv,Instr.mapUpdate,run_underlying ht,B,gH hkt,AA,MapKept.run_setObj_map _ he,Instr.keyThatStays,G,H,hkt.bits x]
  ·exact k _ _ ⟨A.defers,A.size,A.at_⟩ (hs.ug (b:=b) i hC U U (kD _) (fun _ h=>h) ⟨_,_,mC he,hi.set F J v⟩)
end
end
end
section
open Go.RowKit
def Nc {σ:Type} (w0:World) (P:Program) (l:Nat) (step:σ→List Value→σ→Prop) (J:σ→au→Prop) (Z:au→Prop):Prop:=
 ∀ k x k' A w,step k x k'→J k A→w0.heap.size≤w.heap.size→A.holds w→YieldAt (Fw none) 0 P l x.toArray w fun e w'=>
  (e= .returned (.bool true)∧ ∃ B,J k' B∧Mv A B w w')∨(e= .returned (.bool false)∧ ∃ B,Z B∧Mv A B w w')
def wG {σ:Type} (J:σ→au→Prop) (Z:au→Prop) (fin:σ→Prop) (A0:au) (w0:World) (e:Ending) (w':World):Prop:=
 ∃ v,e= .returned v∧((∃ s B,fin s∧J s B∧Mv A0 B w0 w')∨ ∃ B,Z B∧Mv A0 B w0 w')
structure GN {σ:Type} (P:Program) (f:FuncId) (fi ca:List Value) (Cp:List au) (s0:σ) (step:σ→List Value→σ→Prop) (fin:σ→Prop):Prop where
 go:o6 P f=true
 run: ∀ (l:Nat) (J:σ→au→Prop) (Z:au→Prop) (A0:au) (w:World),Nc w P l step J Z→J s0 A0→A0.holds w→(∀ A∈Cp,A.holds w)→(∀ A∈Cp,x3 A0 A.ro)→
  Calls P f (fi++Value.func (.yield l) #[] #[]::ca).toArray w (wG J Z fin A0 w)
theorem JL {σ:Type} {J:σ→au→Prop} {Z:au→Prop} {n:σ} {fin:σ→Prop} {A0 B:au} {w0 w:World} {C:List au} {v:Value} (i:Nat) (hC:C[i]? =some B) (hfin:fin n) (hJ:J n B) (hF:Fo A0 w0 B) (hs:St ⟨A0.wf,fun _=>True⟩ w0 C w):wG J Z fin A0 w0 (.returned v) w:=
 ⟨v,rfl,.inl ⟨n,B,hfin,hJ,hs.holds B (aP hC),hs.keeps,fun b hb=>(hs.own B (aP hC) b hb).symm,hF⟩⟩
theorem zI {σ:Type} {J:σ→au→Prop} {Z:au→Prop} {fin:σ→Prop} {A0 B:au} {w0 w:World} {C:List au} {v:Value} (i:Nat) (hC:C[i]? =some B) (hJ:Z B) (hF:Fo A0 w0 B) (hs:St ⟨A0.wf,fun _=>True⟩ w0 C w):wG J Z fin A0 w0 (.returned v) w:=
 ⟨v,rfl,.inr ⟨B,hJ,hs.holds B (aP hC),hs.keeps,fun b hb=>(hs.own B (aP hC) b hb).symm,hF⟩⟩
theorem zS {σ:Type} {P:Program} {f:FuncId} {fn:Func} {c:Code} {fi ca:List Value} {Cp:List au} {s0:σ} {step:σ→List Value→σ→Prop} {fin:σ→Prop} (hgo:o6 P f=true) (hf:P.funcs[f]? =some fn) (hb:fn.body=some c) (hn:Nat.ble (fi.length+ca.length+1) fn.ntmps=true)
 (h: ∀ (l:Nat) (J:σ→au→Prop) (Z:au→Prop) (A0:au) (w0:World) (Q:cv),Nc w0 P l step J Z→J s0 A0→Fo A0 w0 A0→
  (∀ D L C,LJ ⟨P,none,fn.ntmps,⟨A0.wf,fun _=>True⟩,w0⟩ fn (wG J Z fin A0 w0) D L C→KJ ⟨P,none,fn.ntmps,⟨A0.wf,fun _=>True⟩,w0⟩ (Q .ret) D L C)→
  (∀ D L C,LJ ⟨P,none,fn.ntmps,⟨A0.wf,fun _=>True⟩,w0⟩ fn (wG J Z fin A0 w0) D L C→KJ ⟨P,none,fn.ntmps,⟨A0.wf,fun _=>True⟩,w0⟩ (Q .normal) D L C)→
  WJ ⟨P,none,fn.ntmps,⟨A0.wf,fun _=>True⟩,w0⟩ c Q [] (H4 (fi++Value.func (.yield l) #[] #[]::ca)) (A0::Cp.map au.ro)):GN P f fi ca Cp s0 step fin:=by
 refine ⟨hgo,fun l J Z A0 w hY hJ hA F E=>?_⟩
 refine vO hf hb (by simpa [Nat.add_assoc] using hn) (h l J Z A0 w · hY hJ (fun b hb=> .inl hb)) ?_
 have G:=nM F
 refine ⟨cW.refl _ _,fun A hA'=>?_,List.Pairwise.cons (fun B hB=>?_) G.sep,fun A hA' b hb=>?_,fun _ _ _ _=> .inr trivial⟩
 ·rcases bB.1 hA' with rfl|hA'
  ·exact hA
  ·exact G.holds A hA'
 ·obtain ⟨B',hB',rfl⟩:=cp.1 hB
  exact E B' hB'
 ·rcases bB.1 hA' with rfl|hA'
  ·exact .inr hb
  ·obtain ⟨B',hB',rfl⟩:=cp.1 hA'
   exact hb.elim
section
variable {E:dK} {ops:Array Oper} {Q:cv} {rest:List Oper} {D:List Deferred} {L:List (Nat×Value)} {C:List au}
variable {d:Nat} {ty:TypeId} {ps:String} {af:Array Edge} {g:Option (Nat×Bool)}
/-- a call of yield -/
theorem sS {σ:Type} {fop:Operand} {xs:Array Operand} {ts:Array TypeId} {l:Nat} {k k':σ} {vs:List Value} {step:σ→List Value→σ→Prop} {J:σ→au→Prop} {Z:au→Prop} {A0 A:au} {w1:World} (i:Nat) (hw1:w1.heap.size≤E.w0.heap.size) (hY:Nc w1 E.P l step J Z) (hJ:J k A) (hF:Fo A0 w1 A) (hg:im ops L g=true) (hf:ev L fop=some (.func (.yield l) #[] #[]))
 (hx:evs L xs.toList=some vs) (hk:step k vs k') (hC:C[i]? =some A) (hd:Nat.blt d E.n=true)
 (k1: ∀ B,J k' B→Fo A0 w1 B→RJ E ops Q rest D ((d,.bool true)::L) (C.set i B))
 (k2: ∀ B,Z B→Fo A0 w1 B→RJ E ops Q rest D ((d,.bool false)::L) (C.set i B)):
 RJ E ops Q (⟨some d,.call {callee:= .value fop,args:=xs,argTypes:=ts},ty,ps,af,g⟩::rest) D L C:=by
 intro a w F hs
 have hd':d<E.n:=by rw [← Nat.blt_eq]; exact hd
 unfold oT
 rw [if_pos (di F hg)]
 have K:xs.map a.eval=vs.toArray:=by
  have:=F.evs hx
  apply Array.ext'
  simp [this]
 obtain ⟨fn,tmps,assign,body,hy,hr⟩:=hY k vs k' A w hk hJ (Nat.le_trans hw1 hs.keeps.size) (hs.holds A (aP hC))
 have H:(execOp a.eval ⟨some d,.call {callee:= .value fop,args:=xs,argTypes:=ts},ty,ps,af,g⟩).run E.P w= .ok (.round l fn tmps assign body) w:=by
  simp [execOp,resolve,F.ev hf,Deferred.ofValue,invoke,K,hy]
 refine ⟨fun _ _=>trivial,?_⟩
 rw [Oper.semAt_eq _ _ _ sm,H]
 refine ⟨fun h=>by simp at h,?_⟩
 have G: ∀ (B:au) (w':World),Mv A B w w'→Fo A0 w1 B:=fun B w' m b hb=>by
  rcases m.dQ b hb with AA|AA
  ·exact hF b AA
  ·exact .inr (Nat.le_trans hw1 (Nat.le_trans hs.keeps.size AA))
 have hr':RoundIn (Fw E.r) 0 E.P l fn tmps assign body w _:=hr
 refine hr'.mono fun e w' he=>?_
 rcases he with ⟨rfl,B,hB,m⟩|⟨rfl,B,hB,m⟩
 ·exact k1 B hB (G B w' m) _ _ (F.put hd' _) (hs.mv i hC m)
 ·exact k2 B hB (G B w' m) _ _ (F.put hd' _) (hs.mv i hC m)
end
theorem pR {σ:Type} {E:dK} {Q:cv} {D:fu} {L L0:cJ} {C F:List au} {g:Operand} {ps:Array Tmp} {assign body:Code} {f:FuncId} {fi ca:List Value} {Cp:List au} {s0:σ} {step:σ→List Value→σ→Prop} {fin_:σ→Prop} {ι κ:Type}
 (inv:σ→ι→Prop) (Ci:σ→ι→List au) (invx:Code→κ→Prop) (Cx:Code→κ→List au) (isJ isF:List Nat) (y0:ι)
 (hr:E.r=none) (hg:ev L g=some (.func (.func f) fi.toArray ca.toArray)) (hs:GN E.P f fi ca Cp s0 step fin_)
 (hnd:decide (isJ++isF).Nodup=true) (hJ:jq C isJ=Ci s0 y0) (hF:jq C isF=F) (h0:inv s0 y0) (hCp: ∀ A∈Cp,∃ B∈F,Dc B A)
 (hps: ∀ k x k',step k x k'→x.length=ps.size) (hpn:ps.toList.all (fun t=>Nat.blt t E.n)=true) (hL:eb L L0)
 (round: ∀ (k:σ) (x:List Value) (k':σ) (y:ι) (l:Nat) (ra rb:Loop) (S:BS) (w0:World) (K:Act→World→Prop) (Qr:cv),E.w0.heap.size≤w0.heap.size→step k x k'→inv k y→
  (∀ L' C',WJ ⟨E.P,some l,E.n,S,w0⟩ body Qr [] L' (gL l (.loop rb)::C')→KJ ⟨E.P,some l,E.n,S,w0⟩ K [] L' (gL l (.loop ra)::C'))→
  (∀ y' L' C',inv k' y'→(∀ w,St S w0 C' w→St S w0 (gL l (.loop rb)::Ci k' y') w)→KJ ⟨E.P,some l,E.n,S,w0⟩ (Qr .normal) [] L' C')→
  (∀ id z L' C',invx (.exit id) z→(∀ w,St S w0 C' w→St S w0 (gL l (.loop rb)::Cx (.exit id) z) w)→KJ ⟨E.P,some l,E.n,S,w0⟩ (Qr (.exit id)) [] L' C')→
  (∀ z L' C',invx .ret z→(∀ w,St S w0 C' w→St S w0 (gL l (.loop rb)::Cx .ret z) w)→KJ ⟨E.P,some l,E.n,S,w0⟩ (Qr .ret) [] L' C')→
  WJ ⟨E.P,some l,E.n,S,w0⟩ assign (Exit.then K (fun _ _ _=>False)) [] (tp ps.toList x L0) (gL l (.loop ra)::Ci k y))
 (fin: ∀ r s y,fin_ s→inv s y→KJ E (Q .normal) (ia r::D) L0 (gL r (.deferred (some []))::(F++Ci s y)))
 (finx: ∀ r id z,invx (.exit id) z→KJ E (Q (.exit id)) (ia r::D) L0 (gL r (.deferred (some []))::(F++Cx (.exit id) z)))
 (finr: ∀ r z,invx .ret z→KJ E (Q .ret) (ia r::D) L0 (gL r (.deferred (some []))::(F++Cx .ret z))):WJ E (.rangeFunc g ps assign body) Q D L C:=by
 intro a w hf q
 refine wpIn_rangeFunc fun fn _=>?_
 show ∃ l ia w₁ d w₁' f args w₂,(Instr.enterLoop fn a.tmps ps assign body E.r).run E.P w= .ok (l,ia) w₁∧_
 rw [hr]
 obtain ⟨rec,G⟩: ∃ rec:LoopState→Option Code→Loop,rec=fun st pe=>{state:=st,pending:=pe,fn,tmps:=a.tmps,params:=ps,assign,body,defers:=w.heap.size}:=⟨_,rfl⟩
 obtain ⟨W1,R⟩: ∃ W1,(w.alloc (.deferred (some []))).alloc (.loop (rec .ready none))=W1:=⟨_,rfl⟩
 have A1:a.eval g= .func (.func f) fi.toArray ca.toArray:=hf.ev hg
 have p:(Instr.enterLoop fn a.tmps ps assign body none).run E.P w= .ok (w.heap.size+1,[ia w.heap.size]) W1:=by
  rw [← R,G]; exact run_enterLoop_outer _ _ _ _ _
 -- the state with the record and the block
 have u:St E.S E.w0 ((gL (w.heap.size+1) (.loop (rec .ready none))::Ci s0 y0)++(gL w.heap.size (.deferred (some []))::F)) W1:=by
  have X:St E.S E.w0 (Ci s0 y0++F) w:=St.jq (isJ++isF) hnd (by have X:=hJ; have j:=hF; unfold Go.Proofs.YtkaenmjhfajbkaaGreatDoor.jq at X j ⊢; rw [List.filterMap_append,X,j]) q
  have hn:FW w W1 [gL (w.heap.size+1) (.loop (rec .ready none)),gL w.heap.size (.deferred (some []))]:=by
   refine ⟨fun A hA=>?_,fun A hA b hb=>?_,?_⟩
   ·rcases bB.1 hA with rfl|hA
    ·show W1.heap[w.heap.size+1]? =_
     rw [← R]; have:=World.alloc_heap_new (w.alloc (.deferred (some []))) (.loop (rec .ready none)); rwa [World.size_alloc] at this
    ·simp only [bW] at hA; subst hA
     show W1.heap[w.heap.size]? =_
     rw [← R]; exact (Below.heap_alloc _ _ _ sm).trans (World.alloc_heap_new w _)
   ·rcases bB.1 hA with rfl|hA
    ·have:b=w.heap.size+1:=hb
     omega
    ·simp only [bW] at hA; subst hA
     have:b=w.heap.size:=hb
     omega
   ·refine List.Pairwise.cons (fun B hB b X j=>?_) (List.pairwise_singleton _ _)
    simp only [bW] at hB; subst hB
    have V:b=w.heap.size+1:=X
    have O:b=w.heap.size:=j
    omega
  have hk:cW no w W1:=by rw [← R]; exact (cW.alloc no w _).trans (cW.alloc no _ _)
  have j:=X.grow hk hn
  refine j.perm ?_
  simp only [List.cons_append,List.nil_append]
  exact List.Perm.cons _ (List.perm_middle.symm)
 have Y:=u.tied
 obtain ⟨H,A6⟩:=List.pairwise_cons.1 Y.sep
 have AP:=Y.holds _ (cf ..)
 let J:σ→au→Prop:=fun k A=> ∃ y,inv k y∧A=bx (gL (w.heap.size+1) (.loop (rec .ready none))::Ci k y)
 let Z:au→Prop:=fun A=> ∃ c z,(c= .ret∨ ∃ id,c= .exit id)∧invx c z∧A=bx (gL (w.heap.size+1) (.loop (rec .done (some c)))::Cx c z)
 refine ⟨w.heap.size+1,[ia w.heap.size],W1,{target:= .fn (.func f) ca.toArray,args:=fi.toArray++ #[.func (.yield (w.heap.size+1)) #[] #[]]},W1,f,
  (fi++Value.func (.yield (w.heap.size+1)) #[] #[]::ca).toArray,W1,p,?_,fun _ _=>trivial,?_,fun h=>by simp at h,?_⟩
 ·simp only [resolve,A1]
  simp [Deferred.ofValue,Act.eval]
 ·have:fi.toArray++ #[Value.func (.yield (w.heap.size+1)) #[] #[]]++ca.toArray=(fi++Value.func (.yield (w.heap.size+1)) #[] #[]::ca).toArray:=by simp
  simp [invoke,kv hs.go]
 ·refine (mz E.r (hs.run (w.heap.size+1) J Z _ W1 ?_ ⟨y0,h0,U⟩ AP ?_ ?_)).mono ?_
  ·-- a round
   rintro k x k' A W hx ⟨y,hy,rfl⟩ A0 hA
   have hl:W.heap[w.heap.size+1]? =some (.loop (rec .ready none)):=hA.1 _ (cf ..)
   have AC:=run_yield (P:=E.P) (args:=x.toArray) hl (by rw [G]; simpa using hps k x k' hx)
   rw [G] at AC
   refine ⟨fn,_,assign,body,AC,roundIn_of_wpIn trivial ?_⟩
   let A:au:=bx (gL (w.heap.size+1) (.loop (rec .ready none))::Ci k y)
   have A2:Fr E.n [] (tp ps.toList x L0) {tmps:=(ps.zip x.toArray).foldl (fun tmps (t,a)=>tmps.setIfInBounds t a) a.tmps,defers:=[]}:=by
    have X:=yF ps.toList x L0 a.tmps (fun t ht=>by have:=cm.1 hpn t ht; rwa [Nat.blt_eq] at this) ⟨rfl,hf.size,fun t v hv=>hf.at_ t v (hL t v hv)⟩
    rw [← Array.foldl_toList]
    simpa using X
   have o: ∀ (c:Option Code) (b:Bool),({rec .busy none with state:=if b then .ready else .done,pending:=c}:Loop)=rec (if b then .ready else .done) c:=fun c b=>by rw [G]
   have T: ∀ (c:Option Code) (N:World) (C':List au) (S:BS),St S W (gL (w.heap.size+1) (.loop (rec .busy none))::C') N→
    ∃ M,(Instr.endRound (w.heap.size+1) c).run E.P N= .ok (.bool c.isNone) M∧St S W (gL (w.heap.size+1) (.loop (rec (if c.isNone then .ready else .done) c))::C') M:=fun c N C' S H=>by
    have AB:N.heap[w.heap.size+1]? =some (.loop (rec .busy none)):=H.holds _ (cf ..)
    refine ⟨_,run_endRound c AB,?_⟩
    have:=H.ug (b:=w.heap.size+1) (A':=gL (w.heap.size+1) (.loop (rec (if c.isNone then .ready else .done) c))) 0 rfl rfl rfl (fg _) (fun _ h=>h) (World.putObj_heap_same (c5 AB))
    rw [o]
    exact this
   refine round k x k' y (w.heap.size+1) (rec .ready none) (rec .busy none) ⟨A.wf,A.dQ⟩ W _ (roundPost E.P (w.heap.size+1) (fun e w'=>(e= .returned (.bool true)∧ ∃ B,J k' B∧Mv A B W w')∨(e= .returned (.bool false)∧ ∃ B,Z B∧Mv A B W w'))) (Nat.le_trans (Nat.le_trans q.keeps.size (by rw [← R]; simp; omega)) A0) hx hy ?_ ?_ ?_ ?_ _ _ A2 (St.vv hA)
   ·intro L' C' hW a1 N i H
    have AB:N.heap[w.heap.size+1]? =some (.loop (rec .ready none)):=H.holds _ (cf ..)
    refine ⟨_,run_beginRound AB (by rw [G]),hW _ _ i ?_⟩
    have:=H.ug (b:=w.heap.size+1) (A':=gL (w.heap.size+1) (.loop (rec .busy none))) 0 rfl rfl rfl (fg _) (fun _ h=>h) (World.putObj_heap_same (c5 AB))
    have e:({rec .ready none with state:= .busy}:Loop)=rec .busy none:=by rw [G]
    rw [e]; exact this
   ·intro y' L' C' hy' hC' a1 N i H
    obtain ⟨M,V,O⟩:=T none N _ _ (hC' _ H)
    exact ⟨_,M,V,.inl ⟨U,_,⟨y',hy',U⟩,Mv.of O⟩⟩
   ·intro id z L' C' hz hC' a1 N i H
    obtain ⟨M,V,O⟩:=T (some (.exit id)) N _ _ (hC' _ H)
    exact ⟨_,M,V,.inr ⟨U,_,⟨_,z,.inr ⟨id,U⟩,hz,U⟩,Mv.of O⟩⟩
   ·intro z L' C' hz hC' a1 N i H
    obtain ⟨M,V,O⟩:=T (some .ret) N _ _ (hC' _ H)
    exact ⟨_,M,V,.inr ⟨U,_,⟨_,z,.inl U,hz,U⟩,Mv.of O⟩⟩
  ·intro A hA
   obtain ⟨B,hB,hc⟩:=hCp A hA
   exact hc.holds _ (Y.holds B (db _ (db _ hB)))
  ·intro A hA b hb hb'
   obtain ⟨B,hB,hc⟩:=hCp A hA
   exact ⟨(H B (db _ hB) b hb (hc.dQ b hb')).1,fun h=>h⟩
  ·rintro e w' ⟨v,rfl,hh⟩
   have AA:Fr E.n (ia w.heap.size::D) L0 {a with defers:=[ia w.heap.size]++a.defers}:=⟨by simp [hf.defers],hf.size,fun t v hv=>hf.at_ t v (hL t v hv)⟩
   have hleave: ∀ (st:LoopState) (c:Option Code) (C':List au),st≠ .busy→Mv (bx (gL (w.heap.size+1) (.loop (rec .ready none))::Ci s0 y0)) (bx (gL (w.heap.size+1) (.loop (rec st c))::C')) W1 w'→
    ∃ M,(Instr.endLoop (w.heap.size+1)).run E.P w'= .ok c M∧St E.S E.w0 (gL w.heap.size (.deferred (some []))::(F++C')) M:=fun st c C' A4 m=>by
    have X:=(Y.mv 0 rfl m).iA
    have h1':St E.S E.w0 ((gL (w.heap.size+1) (.loop (rec st c))::C')++(gL w.heap.size (.deferred (some []))::F)) w':=X
    have AB:w'.heap[w.heap.size+1]? =some (.loop (rec st c)):=h1'.holds (gL (w.heap.size+1) (.loop (rec st c))) sm
    refine ⟨_,by have:=run_endLoop (P:=E.P) AB (by rw [G]; exact A4); rw [this,G],?_⟩
    have j:=h1'.ug (b:=w.heap.size+1) (A':=gL (w.heap.size+1) (.loop {rec st c with state:= .exhausted})) 0 rfl rfl rfl (fg _) (fun _ h=>h) (World.putObj_heap_same (c5 AB))
    have h3:St E.S E.w0 (C'++(gL w.heap.size (.deferred (some []))::F)) _:=j.take (List.sublist_cons_self _ _)
    rw [G] at h3
    refine h3.perm ?_
    exact (List.perm_append_comm).trans sm
   rcases hh with ⟨s,B,A3,⟨y,hy,rfl⟩,m⟩|⟨B,⟨c,z,hc,hz,rfl⟩,m⟩
   ·obtain ⟨M,V,O⟩:=hleave .ready none _ sm m
    exact ⟨none,M,V,fin w.heap.size s y A3 hy _ _ AA O⟩
   ·obtain ⟨M,V,O⟩:=hleave .done (some c) _ sm m
    refine ⟨some c,M,V,?_⟩
    rcases hc with rfl|⟨id,rfl⟩
    ·exact wpIn_ret (finr w.heap.size z hz _ _ AA O)
    ·exact wpIn_exit (finx w.heap.size id z hz _ _ AA O)
end
section
open Go.RowKit
/-- where a row lies, and its capacity -/
abbrev RA:=OA×Nat
/-- what is asked of memory by all elements -/
def aX {M A:Type} (f:M→A→List au):List M→List A→List au
 |m::ms,a::asl=>f m a++aX f ms asl
 |_,_=>[]
theorem bM {M A:Type} {f:M→A→List au}: ∀ {ms:List M} {asl:List A} {k:Nat} {m:M} {a:A} {X:au},ms[k]? =some m→asl[k]? =some a→X∈f m a→X∈aX f ms asl
 |[],_,k,m,a,X,h,_,_=>by simp at h
 |_::_,[],k,m,a,X,_,h,_=>by simp at h
 |x::ms,y::asl,0,m,a,X,h,h2,hX=>by
  simp at h h2; subst h h2
  exact List.mem_append_left _ hX
 |x::ms,y::asl,k+1,m,a,X,h,h2,hX=>List.mem_append_right _ (bM (ms:=ms) (asl:=asl) (k:=k) (by simpa using h) (by simpa using h2) hX)
theorem iw {M A:Type} {f:M→A→List au}: ∀ {ms:List M} {asl:List A} {X:au},X∈aX f ms asl→ ∃ (k:Nat) (m:M) (a:A),ms[k]? =some m∧asl[k]? =some a∧X∈f m a
 |[],_,X,h=>by cases h
 |_::_,[],X,h=>by cases h
 |x::ms,y::asl,X,h=>by
  rcases gn.1 h with h|h
  ·exact ⟨0,x,y,U,U,h⟩
  ·obtain ⟨k,m,a,B,C,D⟩:=iw h
   exact ⟨k+1,m,a,by simpa using B,by simpa using C,D⟩
theorem kf {M A:Type} {f:M→A→List au}: ∀ {ms:List M} {asl:List A} {ns:List M} {bs:List A},ms.length=asl.length→aX f (ms++ns) (asl++bs)=aX f ms asl++aX f ns bs
 |[],[],ns,bs,_=>rfl
 |[],_::_,ns,bs,h=>by simp at h
 |_::_,[],ns,bs,h=>by simp at h
 |x::ms,y::asl,ns,bs,h=>by
  simp only [List.cons_append,aX,List.append_assoc]
  rw [kf (by simpa using h)]
theorem dj {M A β:Type} {f:M→A→β} {ms:List M} {asl:List A} {k:Nat} {m:M} {a:A} (h:ms[k]? =some m) (h2:asl[k]? =some a):(List.zipWith f ms asl)[k]? =some (f m a):=by
 rw [List.getElem?_zipWith,h,h2]
theorem cY {C L:List au} {A:au} (i:Nat) (hC:C[i]? =some (dw L).ro) (hm:A∈L):iE C A.holds:=fun w hw=>hw _ (aP hC) A hm
theorem cR {M A:Type} {f g:M→A→List au} {ms:List M} {asl:List A} {C:List au} (i:Nat) (hC:C[i]? =some (bx (aX g ms asl))) (h: ∀ m a w,(∀ X∈g m a,X.holds w)→ ∀ X∈f m a,X.holds w):iE C (dw (aX f ms asl)).holds:=fun w hw X hX=>by
 have hb:=hw _ (aP hC)
 obtain ⟨k,m,a,B,D,E⟩:=iw hX
 exact h m a w (fun Y hY=>hb.1 Y (bM B D hY)) X E
/-- a row that is part of another one -/
theorem Gf {C:List au} {A:OA} {n k sz:Nat} {es:List (List Value)} (hR:iE C (rd A n sz es).holds) (hk:k≤n):iE C (rd A k sz (es.take k)).holds:=fun w hw=>by
 obtain ⟨D,E,F⟩:=hR w hw
 refine ⟨by rw [List.length_take,D]; omega,fun x hx=>E x (List.mem_of_mem_take hx),fun hp=>?_⟩
 have G:0<k:=Nat.pos_of_mul_pos_right hp
 have hs:0<sz:=Nat.pos_of_mul_pos_left hp
 obtain ⟨ad,hA,B⟩:=F (Nat.mul_pos om hs)
 refine ⟨ad,hA,fun i e j v he hv=>B i e j v ?_ hv⟩
 rw [List.getElem?_take] at he
 split at he
 ·exact he
 ·cases he
section
variable {E:dK} {ops:Array Oper} {Q:cv} {rest:List Oper} {D:List Deferred} {L:List (Nat×Value)} {C:List au}
variable {d:Nat} {ty:TypeId} {ps:String} {af:Array Edge} {g:Option (Nat×Bool)}
/-- an element of a slice that is the head of a row -/
theorem OC (k:Nat) {x ix:Operand} {A:OA} {n n' c sz e t:Nat} {es:List (List Value)} {j:Int} (h:bF E.n ops L d g x ix=some (.slice A n' c,.int .i64 j)) (hR:iE C (rd A n sz es).holds)
 (ht:tE E.P t=some (e,sz)) (hz:0<sz) (hj:j=(k:Int)) (hk:k<n') (hn:n'≤n):SE E ops ⟨some d,.indexAddr t x ix,ty,ps,af,g⟩ D L C (.pointer (jO A (k*sz))) d:=IA k h (Gf hR hn) ht hz hj hk
end
theorem St.tie {S:BS} {w0 w:World} {C:List au} {A:au} {L L':List au} (h:St S w0 (A::bx L::C) w) (e:L++[A]=L'):St S w0 (bx L'::C) w:=by
 subst e
 have B:St S w0 (bx L::A::C) w:=h.perm (List.Perm.swap _ _ _)
 have D:St S w0 (L++(A::C)) w:=B.iA
 have E:St S w0 ((L++[A])++C) w:=by simpa using D
 exact E.tied
theorem St.Ja {S:BS} {w0 w:World} {C:List au} (h:St S w0 C w):St S w0 (bx []::C) w:=St.tied (C1:=[]) h
section
variable {E:dK} {Q:cv} {D:List Deferred} {L:List (Nat×Value)} {C:List au}
theorem mM {c:Code} (h:WJ E c Q D L (bx []::C)):WJ E c Q D L C:=fun a w hf hs=>h a w hf hs.Ja
theorem vN {ops:Array Oper} {rest:List Oper} (h:RJ E ops Q rest D L (bx []::C)):RJ E ops Q rest D L C:=fun a w hf hs=>h a w hf hs.Ja
theorem wI {K:Act→World→Prop} {C1:List au} {A:au} {X X':List au} (i j:Nat) (hn:decide (j::i::(List.range C.length).filter fun k=>k != i&&k != j).Nodup=true) (hC:jq C (j::i::(List.range C.length).filter fun k=>k != i&&k != j)=A::bx X::C1) (e:X++[A]=X')
 (h:KJ E K D L (bx X'::C1)):KJ E K D L C:=fun a w hf hs=>h a w hf ((St.jq _ hn hC hs).tie e)
theorem Ly {ops:Array Oper} {rest:List Oper} {C1:List au} {A:au} {X X':List au} (i j:Nat) (hn:decide (j::i::(List.range C.length).filter fun k=>k != i&&k != j).Nodup=true) (hC:jq C (j::i::(List.range C.length).filter fun k=>k != i&&k != j)=A::bx X::C1) (e:X++[A]=X')
 (h:RJ E ops Q rest D L (bx X'::C1)):RJ E ops Q rest D L C:=fun a w hf hs=>h a w hf ((St.jq _ hn hC hs).tie e)
end
end
section
open Go.RowKit
abbrev ik:ab→Value:=fun s=>vA (ab.cells s)
abbrev df:aA→Value:=fun s=>vA (aA.cells s)
abbrev TM:=List (Int×ab)
abbrev FM:=List (aA×Int)
def eu {α:Type} (m:α) (b:Nat):List Value:=[Value.map (some b)]
def na (m:TM) (b:Nat):List au:=[iB iV b (b0 ik m)]
def km (m:FM) (b:Nat):List au:=[iB df b (b0 iV m)]
theorem jD {M A:Type} {f:M→A→List au}: ∀ (m:M) (a:A) (w:World),(∀ X∈f m a,X.holds w)→ ∀ X∈f m a,X.holds w:=fun _ _ _ h=>h
/-- untied -/
theorem zW {E:dK} {ops:Array Oper} {Q:cv} {rest:List Oper} {D:fu} {L:cJ} {C X C1:List au} (i:Nat) (hn:decide (i::(List.range C.length).filter fun k=>k != i).Nodup=true) (hC:jq C (i::(List.range C.length).filter fun k=>k != i)=bx X::C1)
 (h:RJ E ops Q rest D L (X++C1)):RJ E ops Q rest D L C:=fun a w hf hs=>h a w hf (St.iA (St.jq _ hn hC hs))
end
section
def cd (ln:cy) (rd:cS) (e:List Int) (tms:List TM):bG:=⟨rd.Start,rd.gp,e,tms,ln.eR,ln.fZ,(rd.aj.n:Int)⟩
def H0 (o:Int×ab):List Value:=[.int .i64 o.1,.agg (ab.cells o.2).toArray]
structure Br (w:bG):Prop where
 n:w.n≤6
 times:w.qY.length=w.n
 now:0≤w.Start∧w.Start≤w.gp∧w.gp≤86400000
 least: ∀ x∈w.nj,1≤x∧x≤500000000
 Mj: ∀ t∈w.qY,∀ p∈t,(0≤p.1∧p.1≤10)∧0≤p.2.Lo∧p.2.Lo≤p.2.Hi∧p.2.Hi≤86400000
theorem Br.opt {w:bG} (h:Br w) {b:Nat} {o:Int×ab} (ho:o∈gP w b):(-1≤o.1∧o.1≤10)∧0≤o.2.Lo∧o.2.Lo≤o.2.Hi∧o.2.Hi≤86400000:=by
 unfold gP pG at ho
 rcases bB.1 ho with rfl|ho
 ·have:=h.now; simp only; omega
 ·cases ht:w.qY[b]? with
  |none=>simp [ht] at ho
  |some t=>
   rw [ht] at ho
   have:=h.Mj t (aP ht) o ho
   omega
theorem Br.bZ {w:bG} (h:Br w) (b:Nat):0≤bZ w b∧bZ w b≤500000000:=by
 unfold Go.Proofs.YtkaenmjhfajbkaaGreatDoor.bZ
 cases ht:w.nj[b]? with
 |none=>simp
 |some x=>have:=h.least x (aP ht); simp only [Option.getD_some]; omega
theorem th (s:Int):(0≤(eo s).right∧0≤(eo s).eO)∧(eo s).right+(eo s).eO=1:=by unfold eo; split<;>simp
theorem Ek {w:bG} (h:Br w): ∀ (b:Nat) p,p∈fwd w b→(0≤p.2∧p.2≤86400000)∧(0≤p.1.right∧0≤p.1.eO)∧p.1.right+p.1.eO=(b:Int):=by
 intro b
 induction b with
 |zero=>
  intro p hp
  simp only [fwd,bW] at hp
  subst hp
  have:=h.now; simp only; omega
 |succ b ih=>
  intro q hq
  obtain ⟨p,hp,o,ho,e⟩:=eh.1 hq
  have A:=ih p hp
  have B:=h.opt ho
  have C:=h.bZ b
  have D:=h.now
  have E:=th o.1
  unfold iZ at e
  split at e
  ·simp only [Option.some.injEq] at e
   subst e
   simp only [dv]
   omega
  ·cases e
theorem Mn {w:bG} (h:Br w): ∀ (k:Nat) p,p∈bwd w k→(-(500000000*(k:Int))≤p.2∧p.2≤86400000)∧(0≤p.1.right∧0≤p.1.eO)∧p.1.right+p.1.eO≤(k:Int):=by
 intro k
 induction k with
 |zero=>
  intro p hp
  simp only [bwd,bW] at hp
  subst hp
  have:=h.now; simp only; omega
 |succ k ih=>
  intro q hq
  simp only [bwd,bB,List.mem_flatMap,List.mem_filterMap] at hq
  rcases hq with rfl|⟨p,hp,o,ho,e⟩
  ·have:=h.now; simp only; omega
  ·have A:=ih p hp
   have B:=h.opt ho
   have C:=h.bZ (w.n-(k+1))
   have D:=h.now
   have E:=th o.1
   unfold lq at e
   split at e
   ·simp only [Option.some.injEq] at e
    subst e
    simp only [dv]
    omega
   ·cases e
theorem Ei {w:bG} (h:Br w) {b:Nat} {p:aA×Int} (hp:p∈back w b):(-3000000000≤p.2∧p.2≤86400000)∧(0≤p.1.right∧0≤p.1.eO)∧p.1.right+p.1.eO≤6:=by
 have:=Mn h _ _ hp
 have:=h.n
 omega
theorem sP {w:bG} {b:Nat} {t:TM} (ht:w.qY[b]? =some t) {o:Int×ab}:o∈gP w b↔o=(-1,⟨w.Start,w.gp⟩)∨o∈t:=by
 unfold gP pG; rw [ht]; simp
theorem jP {K β:Type} [DecidableEq K] {l:List (K×β)} {x:K} {y:β} (hn:(l.map (·.1)).Nodup) (hm:(x,y)∈l) {o:K×β} (h:o∈l):o∈dF l x∨o=(x,y):=by
 by_cases e:o.1=x
 ·right
  obtain ⟨k,v⟩:=o
  simp only at e
  subst e
  have B:=(ji hn).1 h
  have A:=(ji hn).1 hm
  rw [B] at A
  cases A; rfl
 ·exact .inl (t_.2 ⟨h,e⟩)
theorem Ca {K β:Type} [DecidableEq K] {t l ys:List (K×β)} {x:K} {y:β} (hn:(l.map (·.1)).Nodup) (hm:(x,y)∈l) (h: ∀ o∈t,o∈l∨o∈ys): ∀ o∈t,o∈dF l x∨o∈ys++[(x,y)]:=fun o ho=>by
 rcases h o ho with h|h
 ·rcases jP hn hm h with h|h
  ·exact .inl h
  ·exact .inr (by simp [h])
 ·exact .inr (by simp [h])
theorem j4 {K β:Type} [DecidableEq K] {t l:List (K×β)} {x:K} (h: ∀ o∈l,o∈t): ∀ o∈dF l x,o∈t:=fun o ho=>h o (t_.1 ho).1
theorem E7 {w:bG} {m left:List (aA×Int)} (h: ∀ p∈m,p∈left∨lx w p.1=false) (h0:left=[]):iL w m=false:=by
 unfold iL
 rw [List.any_eq_false]
 intro p hp
 rcases h p hp with q|q
 ·rw [h0] at q; cases q
 ·simp [q]
theorem HM {w:bG} {m:List (aA×Int)} {p:aA×Int} (hp:p∈m) (h:lx w p.1=true):iL w m=true:=List.any_eq_true.2 ⟨p,hp,h⟩
theorem ES {w:bG} {m left:List (aA×Int)} {t:aA} {v:Int} (hn:(left.map (·.1)).Nodup) (hm:(t,v)∈left) (h: ∀ p∈m,p∈left∨lx w p.1=false) (hf:lx w t=false): ∀ p∈m,p∈dF left t∨lx w p.1=false:=fun p hp=>by
 rcases h p hp with q|q
 ·rcases jP hn hm q with q|q
  ·exact .inl q
  ·right; rw [q]; exact hf
 ·exact .inr q
/-- what the maps of a watch are -/
structure qU (w:bG) (fs:List (List (aA×Int))):Prop where
 len:fs.length=w.n+1
 min: ∀ (b:Nat) m,fs[b]? =some m→pH m (fwd w b)
 keys: ∀ (b:Nat) m,fs[b]? =some m→(m.map (·.1)).Nodup
structure pj (w:bG) (bs:List (List (aA×Int))):Prop where
 len:bs.length=w.n+1
 max: ∀ (b:Nat) m,bs[b]? =some m→q8 m (back w b)
 keys: ∀ (b:Nat) m,bs[b]? =some m→(m.map (·.1)).Nodup
theorem qU.mem {w:bG} {fs:List (List (aA×Int))} (h:qU w fs) {b:Nat} {m:List (aA×Int)} (hm:fs[b]? =some m) {p:aA×Int} (hp:p∈m):p∈fwd w b:=(h.min b m hm).1 _ _ ((dU (h.keys b m hm)).1 hp)
theorem pj.mem {w:bG} {fs:List (List (aA×Int))} (h:pj w fs) {b:Nat} {m:List (aA×Int)} (hm:fs[b]? =some m) {p:aA×Int} (hp:p∈m):p∈back w b:=(h.max b m hm).1 _ _ ((dU (h.keys b m hm)).1 hp)
theorem Bf {w:bG} {b:Nat} {t l ys:List (Int×ab)} (ht:w.qY[b]? =some t) (h: ∀ o∈t,o∈l∨o∈ys) (h0:l=[]) (hs:(-1,(⟨w.Start,w.gp⟩:ab))∈ys): ∀ o∈gP w b,o∈ys:=fun o ho=>by
 rcases (sP ht).1 ho with rfl|ho
 ·exact hs
 ·rcases h o ho with q|q
  ·rw [h0] at q; cases q
  ·exact q
end
section
/-- by these options all is yielded -/
def jK (w:bG) (b:Nat) (mf mb:List (aA×Int)) (os ys:List (Int×ab)):Prop:= ∀ o∈os,∀ p∈mf,∀ u∈mb,∀ q,j3 w b p u o=some q→q∈ys
def k7 (w:bG) (b:Nat) (mf mb:List (aA×Int)) (o:Int×ab) (left:List (aA×Int)) (ys:List (Int×ab)):Prop:= ∀ p∈mf,p∈left∨ ∀ u∈mb,∀ q,j3 w b p u o=some q→q∈ys
def kM (w:bG) (b:Nat) (mb:List (aA×Int)) (o:Int×ab) (p:aA×Int) (left:List (aA×Int)) (ys:List (Int×ab)):Prop:= ∀ u∈mb,u∈left∨ ∀ q,j3 w b p u o=some q→q∈ys
variable {w:bG} {b:Nat} {mf mb left:List (aA×Int)} {o x:Int×ab} {os ys:List (Int×ab)} {p u:aA×Int}
theorem jK.nil:jK w b mf mb [] ys:=fun o ho=>by cases ho
theorem jK.app (h:jK w b mf mb os ys):jK w b mf mb os (ys++[x]):=fun o ho p hp u hu q e=>List.mem_append_left _ (h o ho p hp u hu q e)
theorem k7.app (h:k7 w b mf mb o left ys):k7 w b mf mb o left (ys++[x]):=fun p hp=>(h p hp).imp id fun h u hu q e=>List.mem_append_left _ (h u hu q e)
theorem k7.start:k7 w b mf mb o mf ys:=fun p hp=> .inl hp
theorem kM.start:kM w b mb o p mb ys:=fun p hp=> .inl hp
theorem kM.skip {t:aA} {v:Int} (hn:(left.map (·.1)).Nodup) (hm:(t,v)∈left) (h:kM w b mb o p left ys) (he:j3 w b p (t,v) o=none):kM w b mb o p (dF left t) ys:=fun u hu=>by
 rcases h u hu with q|q
 ·rcases jP hn hm q with q|q
  ·exact .inl q
  ·right; intro z hz; rw [q,he] at hz; cases hz
 ·exact .inr q
theorem kM.Nf {t:aA} {v:Int} (hn:(left.map (·.1)).Nodup) (hm:(t,v)∈left) (h:kM w b mb o p left ys) (he:j3 w b p (t,v) o=some x):kM w b mb o p (dF left t) (ys++[x]):=fun u hu=>by
 rcases h u hu with q|q
 ·rcases jP hn hm q with q|q
  ·exact .inl q
  ·right; intro z hz; rw [q,he] at hz; cases hz; simp
 ·right; intro z hz; exact List.mem_append_left _ (q z hz)
theorem k7.next {t:aA} {v:Int} {l2:List (aA×Int)} (hn:(left.map (·.1)).Nodup) (hm:(t,v)∈left) (h:k7 w b mf mb o left ys) (hq:kM w b mb o (t,v) l2 ys) (h0:l2=[]):k7 w b mf mb o (dF left t) ys:=fun p hp=>by
 rcases h p hp with q|q
 ·rcases jP hn hm q with q|q
  ·exact .inl q
  ·right; intro u hu z hz; subst q
   rcases hq u hu with q|q
   ·rw [h0] at q; cases q
   ·exact q z hz
 ·exact .inr q
theorem jK.next (h:jK w b mf mb os ys) (hp:k7 w b mf mb o left ys) (h0:left=[]):jK w b mf mb (os++[o]) ys:=fun o' ho p hp' u hu q e=>by
 rcases gn.1 ho with ho|ho
 ·exact h o' ho p hp' u hu q e
 ·simp only [bW] at ho; subst ho
  rcases hp p hp' with z|z
  ·rw [h0] at z; cases z
  ·exact z u hu q e
theorem jK.fin (h:jK w b mf mb os ys) (ho: ∀ o∈gP w b,o∈os): ∀ q∈nu w b mf mb,q∈ys:=fun q hq=>by
 obtain ⟨o,A,p,B,u,C,e⟩:=fW.1 hq
 exact h o (ho o A) p B u C q e
theorem BG (h:max (p.2+bZ w b) o.2.Lo≤min u.2 o.2.Hi) (h2:lx w (dv (dv p.1 u.1) (eo o.1))=true):j3 w b p u o=some (o.1,⟨max (p.2+bZ w b) o.2.Lo,min u.2 o.2.Hi⟩):=by
 unfold j3 hE sJ; rw [if_pos ⟨h,h2⟩]
theorem Dq (h: ¬ max (p.2+bZ w b) o.2.Lo≤min u.2 o.2.Hi):j3 w b p u o=none:=by
 unfold j3 hE; rw [if_neg (fun q=>h q.1)]
theorem AK (h2:lx w (dv (dv p.1 u.1) (eo o.1))=false):j3 w b p u o=none:=by
 unfold j3 sJ; rw [if_neg (fun q=>by rw [h2] at q; exact absurd q.2 dc)]
theorem kX {v:Int} (h:w.nj[b]? =some v):bZ w b=v:=by unfold bZ; rw [h]; rfl
theorem w9 {t q:aA} {v z y:Int} (hy:w.nj[b]? =some y) (h:max (v+y) o.2.Lo≤min z o.2.Hi) (h2:lx w (dv (dv t q) (eo o.1))=true):j3 w b (t,v) (q,z) o=some (o.1,⟨max (v+y) o.2.Lo,min z o.2.Hi⟩):=by
 have e:=kX hy
 subst e
 exact BG h h2
theorem AM {t q:aA} {v z y:Int} (hy:w.nj[b]? =some y) (h: ¬ max (v+y) o.2.Lo≤min z o.2.Hi):j3 w b (t,v) (q,z) o=none:=by
 have e:=kX hy
 subst e
 exact Dq h
theorem lQ {m:List (aA×Int)} {k:aA} {y:Int} (h:(m.map (·.1)).Nodup):((c3 m k y).map (·.1)).Nodup:=by
 unfold c3
 by_cases hx:(m.lookup k).isSome
 ·rw [if_pos hx,List.map_map]
  have e:m.map ((fun p=>p.1)∘fun p=>if p.1=k then (k,y) else p)=m.map (·.1):=by
   apply List.map_congr_left
   intro p _
   simp only [Function.comp]
   split
   ·rename_i e; exact e.symm
   ·rfl
  rw [e]; exact h
 ·rw [if_neg hx,List.map_append,List.nodup_append]
  refine ⟨h,sm,?_⟩
  intro a ha c hc
  simp only [List.map_cons,List.map_nil,bW] at hc
  rw [hc]
  obtain ⟨p,hp,rfl⟩:=cp.1 ha
  have hn:m.lookup k=none:=by cases h0:m.lookup k with
   |none=>rfl
   |some v=>exact absurd (by rw [h0]; rfl) hx
  exact fU.1 hn p hp
theorem xV {m:List (aA×Int)} {q:aA×Int} (h:(m.map (·.1)).Nodup):((mE m q).map (·.1)).Nodup:=by
 unfold mE; split
 ·exact lQ h
 ·split
  ·exact lQ h
  ·exact h
theorem wv {m:List (aA×Int)} {q:aA×Int} (h:(m.map (·.1)).Nodup):((mi m q).map (·.1)).Nodup:=by
 unfold mi; split
 ·exact lQ h
 ·split
  ·exact lQ h
  ·exact h
/-- a map of the first times, on its way -/
structure sG (w:bG) (b:Nat) (m:List (aA×Int)):Prop where
 snd:rf m (fwd w (b+1))
 keys:(m.map (·.1)).Nodup
structure rj (w:bG) (b:Nat) (m:List (aA×Int)):Prop where
 snd:rf m (back w b)
 keys:(m.map (·.1)).Nodup
 zero: ∃ v,m.lookup ⟨0,0⟩=some v∧w.gp≤v
theorem CR (h:max (p.2+bZ w b) o.2.Lo≤min o.2.Hi w.gp):iZ w b p o=some (dv p.1 (eo o.1),max (p.2+bZ w b) o.2.Lo):=by unfold iZ; rw [if_pos h]
theorem GD (h: ¬ max (p.2+bZ w b) o.2.Lo≤min o.2.Hi w.gp):iZ w b p o=none:=by unfold iZ; rw [if_neg h]
theorem E3 (h:o.2.Lo≤min p.2 o.2.Hi):lq w b p o=some (dv p.1 (eo o.1),min p.2 o.2.Hi-bZ w b):=by unfold lq; rw [if_pos h]
theorem Gk (h: ¬ o.2.Lo≤min p.2 o.2.Hi):lq w b p o=none:=by unfold lq; rw [if_neg h]
theorem sG.start:sG w b []:=⟨fun t v h=>by simp at h,List.nodup_nil⟩
theorem sG.add {m:List (aA×Int)} {q:aA×Int} (h:sG w b m) (hp:p∈fwd w b) (ho:o∈gP w b) (he:iZ w b p o=some q):sG w b (mE m q):=⟨Bm h.snd (eh.2 ⟨p,hp,o,ho,he⟩),xV h.keys⟩
theorem rj.start (hb:b<w.n):rj w b [(⟨0,0⟩,w.gp)]:=⟨fun t v h=>by
 obtain ⟨rfl,rfl⟩:=mh.1 h
 exact (mx hb).2 (.inl U),sm,w.gp,mh.2 ⟨U,U⟩,Int.le_refl _⟩
theorem rj.add {m:List (aA×Int)} {q:aA×Int} (hb:b<w.n) (h:rj w b m) (hp:p∈back w (b+1)) (ho:o∈gP w b) (he:lq w b p o=some q):rj w b (mi m q):=⟨Bk h.snd ((mx hb).2 (.inr ⟨p,hp,o,ho,he⟩)),wv h.keys,by
 obtain ⟨v,A,C⟩:=h.zero
 obtain ⟨v',B,D⟩:=oa (q:=q) _ _ A
 exact ⟨v',B,om⟩⟩
theorem gW.none_ {m:List (aA×Int)} (h:gW w b m p os) (he:iZ w b p o=none):gW w b m p (os++[o]):=h.add (te.refl _) fun q hq=>by rw [he] at hq; cases hq
theorem gW.E2 {m:List (aA×Int)} {q:aA×Int} (h:gW w b m p os) (he:iZ w b p o=some q):gW w b (mE m q) p (os++[o]):=h.add qV fun q' hq=>by rw [he] at hq; cases hq; exact Bj
theorem gY.none_ {m:List (aA×Int)} (h:gY w b m p os) (he:lq w b p o=none):gY w b m p (os++[o]):=h.add (sV.refl _) fun q hq=>by rw [he] at hq; cases hq
theorem gY.E2 {m:List (aA×Int)} {q:aA×Int} (h:gY w b m p os) (he:lq w b p o=some q):gY w b (mi m q) p (os++[o]):=h.add oa fun q' hq=>by rw [he] at hq; cases hq; exact B4
/-- what of a map of the beam before is used already -/
def iD (w:bG) (b:Nat) (mb m left:List (aA×Int)):Prop:= ∀ p∈mb,p∈left∨gW w b m p (gP w b)
def h_ (w:bG) (b:Nat) (mb m left:List (aA×Int)):Prop:= ∀ p∈mb,p∈left∨gY w b m p (gP w b)
theorem iD.start {m:List (aA×Int)}:iD w b mb m mb:=fun p hp=> .inl hp
theorem h_.start {m:List (aA×Int)}:h_ w b mb m mb:=fun p hp=> .inl hp
theorem iD.lower {m m':List (aA×Int)} (h:iD w b mb m left) (hl:te m m'):iD w b mb m' left:=fun p hp=>(h p hp).imp id fun h=>h.lower hl
theorem h_.upper {m m':List (aA×Int)} (h:h_ w b mb m left) (hl:sV m m'):h_ w b mb m' left:=fun p hp=>(h p hp).imp id fun h=>h.upper hl
theorem iD.next {m:List (aA×Int)} {t:aA} {v:Int} (hn:(left.map (·.1)).Nodup) (hm:(t,v)∈left) (h:iD w b mb m left) (hd:gW w b m (t,v) os) (ho: ∀ o∈gP w b,o∈os):iD w b mb m (dF left t):=fun p hp=>by
 rcases h p hp with q|q
 ·rcases jP hn hm q with q|q
  ·exact .inl q
  ·right; rw [q]; exact hd.sub ho
 ·exact .inr q
theorem h_.next {m:List (aA×Int)} {t:aA} {v:Int} (hn:(left.map (·.1)).Nodup) (hm:(t,v)∈left) (h:h_ w b mb m left) (hd:gY w b m (t,v) os) (ho: ∀ o∈gP w b,o∈os):h_ w b mb m (dF left t):=fun p hp=>by
 rcases h p hp with q|q
 ·rcases jP hn hm q with q|q
  ·exact .inl q
  ·right; rw [q]; exact hd.sub ho
 ·exact .inr q
theorem iD.fin {m:List (aA×Int)} (h:iD w b mb m left) (h0:left=[]): ∀ p∈mb,gW w b m p (gP w b):=fun p hp=>by
 rcases h p hp with q|q
 ·rw [h0] at q; cases q
 ·exact q
theorem h_.fin {m:List (aA×Int)} (h:h_ w b mb m left) (h0:left=[]): ∀ p∈mb,gY w b m p (gP w b):=fun p hp=>by
 rcases h p hp with q|q
 ·rw [h0] at q; cases q
 ·exact q
end
section
def kW (a b:ab):ab:=⟨a.Lo+b.Lo,a.Hi+b.Hi⟩
def dT:ab:=⟨0,0⟩
def iU (a:ab) (l:List ab):ab:=l.foldl kW a
def lu (z:ab):Prop:=(-1000000000≤z.Lo∧z.Lo≤1000000000)∧ -1000000000≤z.Hi∧z.Hi≤1000000000
theorem uI {a:ab} {l:List ab} {i:Nat} {z:ab} (h:l[i]? =some z):iU a (l.take (i+1))=kW (iU a (l.take i)) z:=by
 rw [List.take_add_one,h]; unfold iU; simp
theorem Jc {a:ab} {l:List ab} (ha:lu a) (hl: ∀ z∈l,lu z): ∀ i:Nat,(-1000000000-1000000000*(i:Int)≤(iU a (l.take i)).Lo∧(iU a (l.take i)).Lo≤1000000000+1000000000*(i:Int))∧ -1000000000-1000000000*(i:Int)≤(iU a (l.take i)).Hi∧(iU a (l.take i)).Hi≤1000000000+1000000000*(i:Int):=by
 intro i
 induction i with
 |zero=>unfold lu at ha; simp [iU]; omega
 |succ i ih=>
  cases h:l[i]? with
  |none=>rw [List.take_add_one,h]; simp only [Option.toList_none,List.append_nil]; omega
  |some z=>
   have hz:=hl z (aP h)
   unfold lu at hz
   rw [uI h]
   simp only [kW]
   omega
theorem Eo {a:ab} {l:List ab} {i:Nat} (h:l.length≤i):iU a (l.take i)=iU a l:=by rw [List.take_of_length_le h]
theorem kS {a z:ab}:vA (ab.cells (iU a [z]))=vA (ab.cells (kW a z)):=rfl
theorem xR {a y z:ab}:vA (ab.cells (iU a [y,z]))=vA (ab.cells (kW (kW a y) z)):=rfl
/-- how long the run is from one mark, over so many stretches; by how much it falls -/
def eG (ts:List av) (f:Nat):Nat→ab
 |0=>dT
 |k+1=>match ts[f+k]? with
  |some x=>kW (eG ts f k) x.mA
  |none=>eG ts f k
def fK (ts:List av) (f:Nat):Nat→ab
 |0=>dT
 |k+1=>match ts[f+k]? with
  |some x=>kW (fK ts f k) x.nZ
  |none=>fK ts f k
theorem o7 {ts:List av} {f k:Nat} {x:av} (h:ts[f+k]? =some x):eG ts f (k+1)=kW (eG ts f k) x.mA:=by simp [eG,h]
theorem oW {ts:List av} {f k:Nat} {x:av} (h:ts[f+k]? =some x):fK ts f (k+1)=kW (fK ts f k) x.nZ:=by simp [fK,h]
theorem vp {ts:List av} (ht: ∀ x∈ts,cL x) (f:Nat): ∀ k:Nat,(0≤(eG ts f k).Lo∧(eG ts f k).Lo≤(eG ts f k).Hi)∧(eG ts f k).Hi≤30000*(k:Int):=by
 intro k
 induction k with
 |zero=>simp [eG,dT]
 |succ k ih=>
  simp only [eG]
  cases h:ts[f+k]? with
  |none=>simp only; omega
  |some x=>
   have hx:=(ht x (aP h)).2.1
   simp only [gV] at hx
   simp only [kW]
   omega
theorem GZ {ts:List av} (ht: ∀ x∈ts,cL x) (f:Nat): ∀ k:Nat,(0≤(fK ts f k).Lo∧(fK ts f k).Lo≤(fK ts f k).Hi)∧(fK ts f k).Hi≤5000*(k:Int):=by
 intro k
 induction k with
 |zero=>simp [fK,dT]
 |succ k ih=>
  simp only [fK]
  cases h:ts[f+k]? with
  |none=>simp only; omega
  |some x=>
   have hx:=(ht x (aP h)).2.2.1
   simp only [gV] at hx
   simp only [kW]
   omega
theorem nH {ts:List av} (ht: ∀ x∈ts,cL x) {f k:Nat} (hk:k≤13):lu (eG ts f k):=by
 have:=vp ht f k; unfold lu; omega
theorem sZ {ts:List av} (ht: ∀ x∈ts,cL x) {f k:Nat} (hk:k≤13):lu (fK ts f k):=by
 have:=GZ ht f k; unfold lu; omega
theorem qH {x:av} (h:cL x):lu x.mA:=by have:=h.2.1; simp only [gV] at this; unfold lu; omega
theorem qC {x:av} (h:cL x):lu x.nZ:=by have:=h.2.2.1; simp only [gV] at this; unfold lu; omega
theorem uE {ts:List av} (h: ¬ (if cQ ts=true then (0:Int) else 10)=0):cQ ts=false∧(if cQ ts=true then (0:Int) else 10)=10:=by
 cases ht:cQ ts with
 |true=>rw [ht] at h; exact absurd rfl h
 |false=>exact ⟨rfl,rfl⟩
theorem yG {ts:List av} (h:(if cQ ts=true then (0:Int) else 10)=0):cQ ts=true:=by
 cases ht:cQ ts with
 |true=>rfl
 |false=>rw [ht] at h; exact absurd h dc
/-- what the iterator of marks yields -/
def pY (ts:List av) (f:Nat):List (List Value):=(List.range (ts.length-f+1)).map fun (k:Nat)=>[.agg (eG ts f k).cells.toArray,.agg (fK ts f k).cells.toArray]
theorem py {ts:List av} {f:Nat}:(pY ts f).length=ts.length-f+1:=by simp [pY]
theorem ub {ts:List av} {f k:Nat} (h:k≤ts.length-f):(pY ts f)[k]? =some [.agg (eG ts f k).cells.toArray,.agg (fK ts f k).cells.toArray]:=by
 simp [pY,List.getElem?_range (show k<ts.length-f+1 by omega)]
theorem BC {ts:List av} {f k:Nat} {x:List Value} (h:(pY ts f)[k]? =some x):k≤ts.length-f∧x=[.agg (eG ts f k).cells.toArray,.agg (fK ts f k).cells.toArray]:=by
 have hi:k<ts.length-f+1:=by
  have:=(bg.1 h).1
  simpa [pY] using this
 rw [ub om] at h
 exact ⟨om,(Option.some.inj h).symm⟩
theorem zu {ts:List av} {f:Nat}: ∀ x∈pY ts f,x.length=2:=fun x hx=>by
 obtain ⟨k,_,rfl⟩:=cp.1 hx; rfl
end
section
def eA (ts:List av) (s:cx):Prop:=(0≤s.bQ∧s.bQ<(ts.length:Int))∧ ∃ x,ts[s.bQ.toNat]? =some x∧gV s.pt 0 (x.mA.Lo-1)
noncomputable instance (ts:List av) (s:cx):Decidable (eA ts s):=Classical.propDecidable _
theorem FF {ts:List av} {s:cx} {x:av} (h:0≤s.bQ∧s.bQ<(ts.length:Int)) (hx:ts[s.bQ.toNat]? =some x):eA ts s↔gV s.pt 0 (x.mA.Lo-1):=
 ⟨fun A=>by obtain ⟨y,hy,B⟩:=A.2; rw [hx] at hy; cases hy; exact B,fun A=>⟨h,x,hx,A⟩⟩
theorem Fm {ts:List av} {s:cx} (h: ¬ (0≤s.bQ∧s.bQ<(ts.length:Int))): ¬ eA ts s:=fun A=>h A.1
theorem vc {ts:List av} {s:cx} (ht: ∀ x∈ts,cL x) (h:eA ts s):(0≤s.pt.Lo∧s.pt.Lo≤s.pt.Hi)∧s.pt.Hi≤30000:=by
 obtain ⟨x,hx,A⟩:=h.2
 have:=(ht x (aP hx)).2.1
 simp only [gV] at A this
 omega
theorem zk {ts:List av} {a:cx}:vB (decide (∀ s∈[a],eA ts s))=vB (decide (eA ts a)):=congrArg _ (gM.2 sm)
theorem yg {ts:List av} {a b:cx}:vB (decide (∀ s∈[a,b],eA ts s))=vB (decide (eA ts a∧eA ts b)):=congrArg _ (gM.2 sm)
def n9 (z:ab):ab:=⟨-z.Hi,-z.Lo⟩
def FY (ts:List av) (s:cx):ab:=kW (eG ts 0 s.bQ.toNat) s.pt
noncomputable def Bw (ts:List av) (s:cx):Int:=if cQ ts=true then (if eA ts s then 0 else 12) else 10
noncomputable def Kt (ts:List av) (s:cx):ab:=if Bw ts s=0 then FY ts s else dT
theorem Jw {ts:List av} {s:cx} (h:cQ ts=false):Bw ts s=10∧Kt ts s=dT:=by
 have e:Bw ts s=10:=by unfold Bw; rw [h]; rfl
 exact ⟨e,by unfold Kt; rw [e]; rfl⟩
theorem JG {ts:List av} {s:cx} (h:cQ ts=true) (h2: ¬ eA ts s):Bw ts s=12∧Kt ts s=dT:=by
 have e:Bw ts s=12:=by unfold Bw; rw [if_pos h,if_neg h2]
 exact ⟨e,by unfold Kt; rw [e]; rfl⟩
theorem Im {ts:List av} {s:cx} (h:cQ ts=true) (h2:eA ts s):Bw ts s=0∧Kt ts s=FY ts s:=by
 have e:Bw ts s=0:=by unfold Bw; rw [if_pos h,if_pos h2]
 exact ⟨e,if_pos e⟩
theorem zF {ts:List av} {s:cx} (h:cQ ts=true):Bw ts s=0↔eA ts s:=by
 unfold Bw; rw [if_pos h]; split<;>simp [*]
def uW (ts:List av) (a b:cx):ab:=eG ts (min a.bQ b.bQ).toNat (max a.bQ b.bQ-min a.bQ b.bQ).toNat
def kR (ts:List av) (a b:cx):ab:=kW (kW (if b.bQ<a.bQ then n9 (uW ts a b) else uW ts a b) b.pt) (n9 a.pt)
noncomputable def lg (ts:List av) (a b:cx):Int:=if cQ ts=true then (if eA ts a∧eA ts b then 0 else 12) else 10
noncomputable def qm (ts:List av) (a b:cx):ab:=if lg ts a b=0 then kR ts a b else dT
theorem BB {ts:List av} {a b:cx} (h:cQ ts=false):lg ts a b=10∧qm ts a b=dT:=by
 have e:lg ts a b=10:=by unfold lg; rw [h]; rfl
 exact ⟨e,by unfold qm; rw [e]; rfl⟩
theorem Cc {ts:List av} {a b:cx} (h:cQ ts=true) (h2: ¬ (eA ts a∧eA ts b)):lg ts a b=12∧qm ts a b=dT:=by
 have e:lg ts a b=12:=by unfold lg; rw [if_pos h,if_neg h2]
 exact ⟨e,by unfold qm; rw [e]; rfl⟩
theorem sn {ts:List av} {a b:cx} (h:cQ ts=true) (h2:eA ts a∧eA ts b):lg ts a b=0∧qm ts a b=kR ts a b:=by
 have e:lg ts a b=0:=by unfold lg; rw [if_pos h,if_pos h2]
 exact ⟨e,if_pos e⟩
theorem uY {z:ab} (h:lu z):lu (n9 z):=by unfold lu n9 at *; simp only; omega
theorem zo {ts:List av} {s:cx} (ht: ∀ x∈ts,cL x) (h:eA ts s):lu s.pt:=by have:=vc ht h; unfold lu; omega
theorem Kd {ts:List av} {a b:cx} (ht: ∀ x∈ts,cL x) (hl:ts.length≤12) (ha:eA ts a) (hb:eA ts b):(0≤(uW ts a b).Lo∧(uW ts a b).Lo≤(uW ts a b).Hi)∧(uW ts a b).Hi≤360000:=by
 have h:=vp ht (min a.bQ b.bQ).toNat (max a.bQ b.bQ-min a.bQ b.bQ).toNat
 have A:=ha.1
 have B:=hb.1
 unfold uW
 omega
theorem DU {ts:List av} {a b:cx} (ht: ∀ x∈ts,cL x) (hl:ts.length≤12) (ha:eA ts a) (hb:eA ts b):(-400000≤(kR ts a b).Lo∧(kR ts a b).Lo≤(kR ts a b).Hi)∧(kR ts a b).Hi≤400000:=by
 have h:=Kd ht hl ha hb
 have A:=vc ht ha
 have B:=vc ht hb
 unfold kR kW n9
 split<;>simp only <;>omega
theorem KC {ts:List av} {s:cx} (ht: ∀ x∈ts,cL x) (hl:ts.length≤12) (h:eA ts s):(0≤(FY ts s).Lo∧(FY ts s).Lo≤(FY ts s).Hi)∧(FY ts s).Hi≤400000:=by
 have A:=vp ht 0 s.bQ.toNat
 have B:=vc ht h
 have C:=h.1
 unfold FY kW
 simp only; omega
theorem BH {α:Type} {p:Nat→α→Bool} {l:List α}:((l.zipIdx.filter fun q=>p q.2 q.1).map fun q=>(q.2:Int))=[]↔ ∀ (i:Nat) x,l[i]? =some x→p i x=false:=by
 rw [List.map_eq_nil_iff,List.filter_eq_nil_iff]
 constructor
 ·intro h i x hx
  have:=h (x,i) (by rw [List.mem_zipIdx_iff_getElem?]; simpa using hx)
  simpa using this
 ·rintro h ⟨x,i⟩ hm
  rw [List.mem_zipIdx_iff_getElem?] at hm
  simpa using h i x (by simpa using hm)
/-- the places of a list at which something is so -/
def o5 {α:Type} (p:Nat→α→Bool) (l:List α) (n:Nat):List Int:=(((l.take n).zipIdx.filter fun q=>p q.2 q.1).map fun q=>(q.2:Int))
theorem CM {α:Type} {p:Nat→α→Bool} {l:List α} {i:Nat} {x:α} (hx:l[i]? =some x) (h:p i x=true):o5 p l (i+1)=o5 p l i++[(i:Int)]:=by
 have hi:=(bg.1 hx).1
 unfold o5
 rw [List.take_add_one,hx,List.zipIdx_append,List.filter_append,List.map_append]
 simp [Nat.min_eq_left (Nat.le_of_lt hi),h]
theorem GH {α:Type} {p:Nat→α→Bool} {l:List α} {i:Nat} {x:α} (hx:l[i]? =some x) (h:p i x=false):o5 p l (i+1)=o5 p l i:=by
 have hi:=(bg.1 hx).1
 unfold o5
 rw [List.take_add_one,hx,List.zipIdx_append,List.filter_append,List.map_append]
 simp [Nat.min_eq_left (Nat.le_of_lt hi),h]
theorem xj {α:Type} {p:Nat→α→Bool} {l:List α} {n:Nat}:(o5 p l n).length≤n:=by
 unfold o5
 rw [List.length_map]
 refine Nat.le_trans (List.length_filter_le _ _) ?_
 rw [List.length_zipIdx,List.length_take]; omega
def Ex {α:Type} (p:Nat→α→Bool) (l:List α):List Int:=o5 p l l.length
theorem GR {α:Type} {p:Nat→α→Bool} {l:List α} {n:Nat} (h:n=l.length):o5 p l n=Ex p l:=by rw [h]; rfl
theorem Ch {α:Type} {p:Nat→α→Bool} {l:List α}:(Ex p l).length=0↔ ∀ (i:Nat) x,l[i]? =some x→p i x=false:=by
 unfold Ex o5
 rw [List.length_eq_zero_iff,List.take_length]
 exact BH
end
section
theorem uy (p:Int→Bool) (n:Nat): ∃ r:Int,r=((List.range n).findIdx fun (k:Nat)=>p (k:Int):Nat):=⟨_,rfl⟩
noncomputable def gK (p:Int→Bool) (n:Nat):Int:=Classical.choose (uy p n)
theorem o3 (p:Int→Bool) (n:Nat):gK p n=((List.range n).findIdx fun (k:Nat)=>p (k:Int):Nat):=Classical.choose_spec (uy p n)
theorem ld {p:Int→Bool} {n:Nat}:0≤gK p n∧gK p n≤n:=by
 rw [o3]
 have:=List.findIdx_le_length (xs:=List.range n) (p:=fun (k:Nat)=>p (k:Int))
 rw [List.length_range] at this
 omega
theorem qx {p:Int→Bool} {n:Nat} {x:Int} (h0:0≤x) (h:x<gK p n):p x=false:=by
 have hb:=ld (p:=p) (n:=n)
 rw [o3] at h
 have B:x.toNat<(List.range n).findIdx fun (k:Nat)=>p (k:Int):=by omega
 have A:=List.not_of_lt_findIdx B
 simp only [List.getElem_range] at A
 rw [show (x.toNat:Int)=x by omega] at A
 simpa using A
theorem uC {p:Int→Bool} {n:Nat} (h:gK p n<n):p (gK p n)=true:=by
 rw [o3] at h ⊢
 have A:((List.range n).findIdx fun (k:Nat)=>p (k:Int))<(List.range n).length:=by rw [List.length_range]; omega
 have:=List.findIdx_getElem (w:=A)
 simpa using this
theorem tO {p:Int→Bool} {n:Nat} {r:Int} (h0:0≤r) (hn:r<n) (hr:p r=true) (hb: ∀ x,0≤x→x<r→p x=false):gK p n=r:=by
 have A:=ld (p:=p) (n:=n)
 rcases Int.lt_trichotomy (gK p n) r with h|h|h
 ·have:=hb _ A.1 h
  have e:=uC (p:=p) (n:=n) om
  rw [e] at this; cases this
 ·exact h
 ·have:=qx h0 h
  rw [hr] at this; cases this
end
section
def tw (n by_:Int):Int:=(n+by_-1)/by_
/-- by how much a sync may be off -/
def vM (c:aB) (at_:Int) (x:cV):Int:=tw (c.eC*max (at_-x.At) (x.At-at_)) 1000000
def ky (c:aB) (at_:Int) (s:ab) (x:cV):ab:=⟨max s.Lo (x.fj.Lo-vM c at_ x),min s.Hi (x.fj.Hi+vM c at_ x)⟩
def e9 (c:aB) (at_:Int) (k:Nat):ab:=(c.bO.take k).foldl (ky c at_) ⟨-1099511627776,1099511627776⟩
def g5 (c:aB) (at_:Int):ab:=c.bO.foldl (ky c at_) ⟨-1099511627776,1099511627776⟩
theorem j1 {c:aB} {at_:Int} {k:Nat} {x:cV} (h:c.bO[k]? =some x):e9 c at_ (k+1)=ky c at_ (e9 c at_ k) x:=by
 unfold e9; rw [List.take_add_one,h,List.foldl_append]; rfl
theorem mZ {c:aB} {at_:Int} {k:Nat} (h:c.bO.length≤k):e9 c at_ k=g5 c at_:=by unfold e9 g5; rw [List.take_of_length_le h]
def jx (c:aB) (i:Nat):Int:=if i=0 then-1 else ((c.bO[i-1]?).map (·.At)).getD 0
def gJ (c:aB) (i:Nat) (x:cV):Prop:=(jx c i<x.At∧x.At≤86400000)∧ -10000≤x.fj.Lo∧x.fj.Lo≤x.fj.Hi∧x.fj.Hi≤10000
def u_ (c:aB) (x o:cV):Prop:=x.fj.Lo-o.fj.Hi≤tw (c.eC*(x.At-o.At)) 1000000∧o.fj.Lo-x.fj.Hi≤tw (c.eC*(x.At-o.At)) 1000000
structure eU (c:aB):Prop where
 ui:0≤c.eC∧c.eC≤1000
 len:1≤c.bO.length∧c.bO.length≤5
 sync: ∀ (i:Nat) x,c.bO[i]? =some x→gJ c i x
 pair: ∀ (i k:Nat) x o,c.bO[i]? =some x→k<i→c.bO[k]? =some o→u_ c x o
noncomputable instance (c:aB):Decidable (eU c):=Classical.propDecidable _
theorem lS {c:aB} {i:Nat} (h:i=0):jx c i= -1:=if_pos h
theorem lI {c:aB} {i:Nat} {y:cV} (hy:c.bO[i]? =some y):jx c (i+1)=y.At:=by unfold jx; rw [if_neg om,Nat.add_sub_cancel,hy]; rfl
/-- the times of the syncs -/
theorem Ge {c:aB} (h: ∀ (i:Nat) x,c.bO[i]? =some x→gJ c i x): ∀ (i:Nat) x,c.bO[i]? =some x→0≤x.At∧ ∀ (k:Nat) o,k<i→c.bO[k]? =some o→o.At<x.At:=by
 intro i
 induction i with
 |zero=>
  intro x hx
  have:=(h 0 x hx).1.1
  rw [lS rfl] at this
  exact ⟨om,fun k o hk=>by omega⟩
 |succ i ih=>
  intro x hx
  have hi:=(bg.1 hx).1
  have hy:c.bO[i]? =some (c.bO[i]'om):=eP om
  have B:=ih _ hy
  have A:=(h (i+1) x hx).1.1
  rw [lI hy] at A
  refine ⟨om,fun k o hk ho=>?_⟩
  by_cases e:k=i
  ·subst e; rw [hy] at ho; cases ho; exact A
  ·have:=B.2 k o om ho; omega
theorem eU.uR {c:aB} (h:eU c) {i:Nat} {x:cV} (hx:c.bO[i]? =some x):(0≤x.At∧x.At≤86400000)∧ -10000≤x.fj.Lo∧x.fj.Lo≤x.fj.Hi∧x.fj.Hi≤10000:=by
 have A:=h.sync i x hx
 exact ⟨⟨(Ge h.sync i x hx).1,A.1.2⟩,A.2⟩
theorem zV {d a b:Int} (hd:0≤d∧d≤1000) (ha:0≤a∧a≤90000000) (hb:0≤b∧b≤90000000):0≤d*max (a-b) (b-a)∧d*max (a-b) (b-a)≤90000000000:=by
 have:=Mc (a:=d) (b:=max (a-b) (b-a)) (A:=1000) (B:=90000000) hd.1 hd.2 om om
 omega
theorem uT {c:aB} {at_:Int} {x:cV} (hd:0≤c.eC∧c.eC≤1000) (ha:0≤at_∧at_≤90000000) (hx:0≤x.At∧x.At≤86400000):0≤vM c at_ x∧vM c at_ x≤90001:=by
 have h:=zV hd ha (show 0≤x.At∧x.At≤90000000 by omega)
 unfold vM tw; omega
theorem xb {c:aB} {at_:Int} (h:eU c) (ha:0≤at_∧at_≤90000000): ∀ k:Nat,(-1099511627776≤(e9 c at_ k).Lo∧(e9 c at_ k).Lo≤10000)∧ -10000≤(e9 c at_ k).Hi∧(e9 c at_ k).Hi≤1099511627776:=by
 intro k
 induction k with
 |zero=>simp [e9]
 |succ k ih=>
  cases hx:c.bO[k]? with
  |none=>unfold e9 at ih ⊢; rw [List.take_add_one,hx]; simpa using ih
  |some x=>
   have hb:=h.uR hx
   have ho:=uT h.ui ha hb.1
   rw [j1 hx]
   unfold ky
   simp only
   omega
theorem sx {c:aB} {at_:Int} (h:eU c) (ha:0≤at_∧at_≤90000000):(-110000≤(g5 c at_).Lo∧(g5 c at_).Lo≤10000)∧ -10000≤(g5 c at_).Hi∧(g5 c at_).Hi≤110000:=by
 obtain ⟨n,hn⟩: ∃ n,c.bO.length=n+1:=⟨c.bO.length-1,by have:=h.len; omega⟩
 have hx:c.bO[n]? =some (c.bO[n]'om):=eP om
 have hb:=h.uR hx
 have ho:=uT h.ui ha hb.1
 have A:=xb h ha n
 rw [← mZ (k:=n+1) om,j1 hx]
 unfold ky
 simp only
 omega
/-- as time goes on, time and what a clock may be ahead, together, never go back -/
theorem yu {c:aB} (h:eU c) {a b:Int} (ha:0≤a) (hab:a≤b) (hb:b≤90000000): ∀ k:Nat,(a+(e9 c a k).Lo≤b+(e9 c b k).Lo∨(e9 c a k).Lo= -1099511627776)∧a+(e9 c a k).Hi≤b+(e9 c b k).Hi:=by
 have step: ∀ (x:cV),0≤x.At∧x.At≤86400000→ ∀ a b:Int,0≤a→a≤b→b≤90000000→vM c a x≤vM c b x+(b-a)∧vM c b x≤vM c a x+(b-a):=by
  intro x hx a b ha hab hb
  have hd:=h.ui
  have e: ∀ u v:Int,u≤v+1000000*(b-a)→tw u 1000000≤tw v 1000000+(b-a):=by intro u v C; unfold tw; omega
  have m: ∀ p q:Int,p≤q+(b-a)→c.eC*p≤c.eC*q+1000000*(b-a):=by
   intro p q A
   have D:c.eC*p≤c.eC*(q+(b-a)):=Int.mul_le_mul_of_nonneg_left A hd.1
   have E:c.eC*(q+(b-a))=c.eC*q+c.eC*(b-a):=Int.mul_add _ _ _
   have F:c.eC*(b-a)≤1000*(b-a):=Int.mul_le_mul_of_nonneg_right hd.2 om
   omega
  exact ⟨e _ _ (m _ _ om),e _ _ (m _ _ om)⟩
 intro k
 induction k with
 |zero=>simp [e9]; omega
 |succ k ih=>
  cases hx:c.bO[k]? with
  |none=>
   have e: ∀ t,e9 c t (k+1)=e9 c t k:=fun t=>by unfold e9; rw [List.take_add_one,hx]; simp
   rw [e,e]; exact ih
  |some x=>
   have hs:=h.uR hx
   have:=step x hs.1 a b ha hab hb
   have B:=uT (at_:=a) h.ui ⟨ha,om⟩ hs.1
   rw [j1 hx,j1 hx]
   unfold ky
   simp only
   omega
theorem lE {c:aB} (h:eU c) {a b:Int} (ha:0≤a) (hab:a≤b) (hb:b≤90000000):a+(g5 c a).Lo≤b+(g5 c b).Lo∧a+(g5 c a).Hi≤b+(g5 c b).Hi:=by
 have A:=yu h ha hab hb c.bO.length
 have B:=sx h (at_:=a) ⟨ha,om⟩
 rw [mZ (Nat.le_refl _),mZ (Nat.le_refl _)] at A
 omega
noncomputable def kl (l:bk) (i:Nat):Int:=match l.aa[i]? with
 |some b=>if i=0 then (FY l.aU b.pg).Lo else (match l.aa[i-1]? with
  |some a=>(kR l.aU a.pg b.pg).Lo
  |none=>0)
 |none=>0
theorem BL {l:bk} {b:bD} (h:l.aa[0]? =some b):kl l 0=(FY l.aU b.pg).Lo:=by unfold kl; rw [h]; rfl
theorem E1 {l:bk} {i:Nat} {a b:bD} (hi:0<i) (h:l.aa[i]? =some b) (ha:l.aa[i-1]? =some a):kl l i=(kR l.aU a.pg b.pg).Lo:=by unfold kl; rw [h,ha]; simp only; rw [if_neg om]
def kj (l:bk) (b:bD):Prop:=eA l.aU b.pg∧0≤b.mj∧b.mj<(l.ar.length:Int)
def fP (l:bk):Prop:=(1≤l.iQ∧l.iQ≤5000)∧(1≤(l.ar.length:Int)∧(l.ar.length:Int)≤4)∧(1≤(l.aa.length:Int)∧(l.aa.length:Int)≤6)∧(0≤l.cj∧l.cj≤(l.aa.length:Int)-1)∧(0≤l.fZ∧l.fZ≤3)∧0≤l.eR∧l.eR≤3
structure lZ (l:bk):Prop where
 head:fP l
 clock: ∀ c∈l.ar,eU c
 zt: ∀ b∈l.aa,kj l b
 MY: ∀ i,i<l.aa.length→1≤kl l i
noncomputable instance (l:bk):Decidable (lZ l):=Classical.propDecidable _
noncomputable def dR (l:bk):Int:=if cQ l.aU=true then (if lZ l then 0 else 50) else 10
theorem Cg {l:bk} (h:cQ l.aU=false):dR l=10:=by unfold dR; rw [h]; rfl
theorem pQ {l:bk} (h:cQ l.aU=true) (h2: ¬ lZ l):dR l=50:=by unfold dR; rw [if_pos h,if_neg h2]
theorem xX {l:bk} (h:cQ l.aU=true) (h2:lZ l):dR l=0:=by unfold dR; rw [if_pos h,if_pos h2]
theorem en {l:bk} (h:dR l=0):cQ l.aU=true∧lZ l:=by
 unfold dR at h
 split at h
 ·split at h
  ·exact ⟨asm,asm⟩
  ·omega
 ·omega
theorem DA {l:bk} (ht:cQ l.aU=true) (hb: ∀ b∈l.aa,kj l b) (i:Nat): -400000≤kl l i∧kl l i≤400000:=by
 have A:=n3 ht
 have hl:=o9 ht
 unfold kl
 cases h:l.aa[i]? with
 |none=>simp
 |some b=>
  have B:=(hb b (aP h)).1
  simp only
  split
  ·have:=KC A hl B; omega
  ·cases h2:l.aa[i-1]? with
   |none=>simp
   |some a=>
    have C:=(hb a (aP h2)).1
    have:=DU A hl C B
    simp only; omega
def qe (l:bk) (s:aG):aB:=((l.aa[s.e6.toNat]?).bind fun b=>l.ar[b.mj.toNat]?).getD ⟨0,[]⟩
def jc (c:aB) (r t:Int):Bool:=decide (r≤t+(g5 c t).Hi)
def je (c:aB) (r t:Int):Bool:=decide (r<t+(g5 c t).Lo)
noncomputable def pO (c:aB) (r:Int):ab:=⟨gK (jc c r) 86400001,gK (je c r) 86400001-1⟩
noncomputable def dG (l:bk) (s:aG):ab:=pO (qe l s) s.Read
noncomputable def k8 (l:bk) (i:Nat):Int:=tw (1000*kl l i) l.iQ
end
section
open Go.RowKit
def vX (n:Int):Int:=IntKind.i64.wrap n
theorem vx {n:Int} (h:ph n):vX n=n:=lH h
theorem Mr (n:Int): -9223372036854775808≤vX n∧vX n≤9223372036854775807:=by
 unfold vX
 rw [IntKind.wrap_i64]
 omega
section
variable {P:Program} {t:TypeId} {x y:Operand} {a b:Int}
theorem IL:gj P .add t x y (.int .i64 a) (.int .i64 b) (.int .i64 (vX (a+b))):=fun w=>by simp [eqGuard_add,binOp_add,Op.intArith,vX]
theorem Dy:gj P .sub t x y (.int .i64 a) (.int .i64 b) (.int .i64 (vX (a-b))):=fun w=>by simp [eqGuard_sub,binOp_sub,Op.intArith,vX]
theorem II:gj P .mul t x y (.int .i64 a) (.int .i64 b) (.int .i64 (vX (a*b))):=fun w=>by simp [eqGuard_mul,binOp_mul,Op.intArith,vX]
end
/-- divided, and rounded up, as it comes out -/
def Mm (n by_:Int):Int:=(vX (vX (n+by_)-1)).tdiv by_
theorem I2 {a b:Int} (ha: -9223372036854775808≤a∧a≤9223372036854775807) (hb:2≤b):ph (a.tdiv b):=by
 have A:a.tdiv b=a/b+if a % b≠0∧a<0 then 1 else 0:=by
  rcases Int.lt_or_le a 0 with h|h
  ·rw [Int.tdiv_eq_ediv]
   have:b.sign=1:=Int.sign_eq_one_of_pos om
   rw [this]
   by_cases hd:b∣a
   ·have:a % b=0:=Int.emod_eq_zero_of_dvd hd
    simp [hd,this]
   ·have:a % b≠0:=fun e=>hd (Int.dvd_of_emod_eq_zero e)
    have hn: ¬ 0≤a:=by omega
    simp [hd,this,h,hn]
  ·rw [Int.tdiv_eq_ediv_of_nonneg h]
   have: ¬ a<0:=by omega
   simp [this]
 have B:a/b*b+a % b=a:=by rw [Int.mul_comm]; exact Int.mul_ediv_add_emod a b
 have C:0≤a % b:=Int.emod_nonneg _ om
 have D:a % b<b:=Int.emod_lt_of_pos _ om
 have E: -9223372036854775808≤a/b∧a/b≤4611686018427387904:=by
  constructor
  ·refine Int.le_ediv_of_mul_le om ?_
   have:(-9223372036854775808:Int)*b≤ -9223372036854775808*1:=Int.mul_le_mul_of_nonpos_left om om
   omega
  ·refine Int.ediv_le_of_le_mul om ?_
   have:(4611686018427387904:Int)*2≤4611686018427387904*b:=Int.mul_le_mul_of_nonneg_left hb om
   omega
 rw [A]
 unfold ph
 split<;>omega
theorem I7 {n by_:Int} (h0:0≤n) (h1:n≤1000000000000000000) (hb:1≤by_∧by_≤1000000000000):Mm n by_=(n+by_-1)/by_:=by
 unfold Mm
 rw [vx (show ph (n+by_) from ⟨om,om⟩),vx (show ph (n+by_-1) from ⟨om,om⟩),Int.tdiv_eq_ediv_of_nonneg om]
end
section
def j0 (c:aB) (i:Nat) (x:cV) (k:Nat):Prop:=gJ c i x∧ ∀ (j:Nat) o,j<k→c.bO[j]? =some o→u_ c x o
def pc (c:aB) (n:Nat):Prop:= ∀ (i:Nat) x,i<n→c.bO[i]? =some x→j0 c i x i
noncomputable instance (c:aB) (i:Nat) (x:cV) (k:Nat):Decidable (j0 c i x k):=Classical.propDecidable _
instance (c:aB) (i:Nat) (x:cV):Decidable (gJ c i x):=by unfold gJ; infer_instance
theorem yW {c:aB} {i:Nat} {x:cV}:j0 c i x 0↔gJ c i x:=⟨fun h=>h.1,fun h=>⟨h,fun j o hj=>by omega⟩⟩
theorem o0 {c:aB} {i k:Nat} {x o:cV} (h:c.bO[k]? =some o):j0 c i x (k+1)↔j0 c i x k∧u_ c x o:=by
 constructor
 ·intro hr
  exact ⟨⟨hr.1,fun j o' hj ho=>hr.2 j o' om ho⟩,hr.2 k o om h⟩
 ·rintro ⟨hr,hp⟩
  refine ⟨hr.1,fun j o' hj ho=>?_⟩
  by_cases e:j=k
  ·subst e; rw [h] at ho; cases ho; exact hp
  ·exact hr.2 j o' om ho
theorem Bo {c:aB}:pc c 0:=fun i x hi=>by omega
theorem Cf {c:aB} {i:Nat} {x:cV} (h:pc c i) (hx:c.bO[i]? =some x) (hr:j0 c i x i):pc c (i+1):=fun j y hj hy=>by
 by_cases e:j=i
 ·subst e; rw [hx] at hy; cases hy; exact hr
 ·exact h j y om hy
theorem Db {c:aB} {i:Nat} {x:cV} (hx:c.bO[i]? =some x) (h: ¬ j0 c i x i): ¬ eU c:=fun hc=>h ⟨hc.sync i x hx,fun j o hj ho=>hc.pair i j x o hx hj ho⟩
theorem BK {c:aB} (h1:0≤c.eC∧c.eC≤1000) (h2:1≤c.bO.length∧c.bO.length≤5) (h:pc c c.bO.length):eU c:=
 ⟨h1,h2,fun i x hx=>(h i x (bg.1 hx).1 hx).1,fun i k x o hx hk ho=>(h i x (bg.1 hx).1 hx).2 k o hk ho⟩
/-- syncs so far -/
theorem qF {c:aB} {n:Nat} (h: ∀ (i:Nat) x,i<n→c.bO[i]? =some x→gJ c i x): ∀ (i:Nat) x,i<n→c.bO[i]? =some x→0≤x.At∧ ∀ (k:Nat) o,k<i→c.bO[k]? =some o→o.At<x.At:=by
 intro i
 induction i with
 |zero=>
  intro x hn hx
  have:=(h 0 x hn hx).1.1
  rw [lS rfl] at this
  exact ⟨om,fun k o hk=>by omega⟩
 |succ i ih=>
  intro x hn hx
  have hi:=(bg.1 hx).1
  have hy:c.bO[i]? =some (c.bO[i]'om):=eP om
  have B:=ih _ om hy
  have A:=(h (i+1) x hn hx).1.1
  rw [lI hy] at A
  refine ⟨om,fun k o hk ho=>?_⟩
  by_cases e:k=i
  ·subst e; rw [hy] at ho; cases ho; exact A
  ·have:=B.2 k o om ho; omega
theorem JA {c:aB} {i:Nat} (hi:i≤c.bO.length) (h: ∀ (j:Nat) y,j<i→c.bO[j]? =some y→gJ c j y): -1≤jx c i∧jx c i≤86400000:=by
 cases i with
 |zero=>rw [lS rfl]; omega
 |succ i=>
  have hy:c.bO[i]? =some (c.bO[i]'om):=eP om
  have A:=(qF (n:=i+1) h i _ om hy).1
  have B:=(h i _ om hy).1.2
  rw [lI hy]; omega
theorem Jk {c:aB} {i:Nat} (hi:i≤c.bO.length) (h:pc c i): -1≤jx c i∧jx c i≤86400000:=JA hi fun j y hj hy=>(h j y hj hy).1
theorem By {c:aB} {i k:Nat} {x o:cV} (hs: ∀ (j:Nat) y,j<i→c.bO[j]? =some y→gJ c j y) (hx:c.bO[i]? =some x) (hok:gJ c i x) (hk:k<i) (ho:c.bO[k]? =some o):
 (0≤o.At∧o.At<x.At∧x.At≤86400000)∧(-10000≤x.fj.Lo∧x.fj.Lo≤x.fj.Hi∧x.fj.Hi≤10000)∧ -10000≤o.fj.Lo∧o.fj.Lo≤o.fj.Hi∧o.fj.Hi≤10000:=by
 have h: ∀ (j:Nat) y,j<i+1→c.bO[j]? =some y→gJ c j y:=fun j y hj hy=>by
  by_cases e:j=i
  ·subst e; rw [hx] at hy; cases hy; exact hok
  ·exact hs j y om hy
 have A:=(qF h i x om hx).2 k o hk ho
 have B:=(qF h k o om ho).1
 exact ⟨⟨B,A,hok.1.2⟩,hok.2,(h k o om ho).2⟩
theorem Gi {d a b:Int} (hd:0≤d∧d≤1000) (h:0≤b∧b<a∧a≤86400000):Mm (vX (d*vX (a-b))) 1000000=tw (d*(a-b)) 1000000:=by
 have C:0≤d*(a-b)∧d*(a-b)≤90000000000:=by
  have:=Mc (a:=d) (b:=a-b) (A:=1000) (B:=90000000) hd.1 hd.2 om om
  omega
 rw [vx (show ph (a-b) from ⟨om,om⟩),vx (show ph (d*(a-b)) from ⟨om,om⟩),I7 C.1 om om]
 rfl
/-- what is asked of a line, however wrong it is -/
structure eM (l:bk) (asl:List RA):Prop where
 vZ:l.aU.length≤1000000
 side: ∀ x∈l.aU,0≤x.jJ∧x.jJ≤255
 v7:l.ar.length≤1000000
 oL:asl.length=l.ar.length
 vW:l.aa.length≤1000000
 M0: ∀ (k:Nat) m (a:RA),l.ar[k]? =some m→asl[k]? =some a→m.bO.length≤a.2∧m.bO.length≤1000000
noncomputable instance (l:bk):Decidable (fP l):=by unfold fP; infer_instance
noncomputable instance (l:bk) (b:bD):Decidable (kj l b):=Classical.propDecidable _
theorem Bb {l:bk} (h:fP l) (h2: ∀ c∈l.ar,eU c) (h3: ∀ b∈l.aa,kj l b) (h4: ∀ i,i<l.aa.length→1≤kl l i):lZ l:=⟨h,h2,h3,h4⟩
theorem zi {l:bk}:((!(l.ar.any fun m=> !decide (eU m)))=true)↔ ∀ c∈l.ar,eU c:=by simp
theorem Ce {l:bk}:((!(l.aa.any fun b=> !decide (kj l b)))=true)↔ ∀ b∈l.aa,kj l b:=by simp
theorem oz {c:aB} (h:eU c) {r x:Int} (h0:0≤x) (h1:x<86400001):
 (x<gK (jc c r) 86400001→jc c r x=false)∧(gK (jc c r) 86400001≤x→jc c r x=true)∧(x<gK (je c r) 86400001→je c r x=false)∧(gK (je c r) 86400001≤x→je c r x=true):=by
 have up: ∀ (q:Int→Bool),(∀ a b,0≤a→a≤b→b<86400001→q a=true→q b=true)→gK q 86400001≤x→q x=true:=fun q hq hx=>by
  have hb:=ld (p:=q) (n:=86400001)
  exact hq _ _ hb.1 hx h1 (uC om)
 refine ⟨qx h0,up _ fun a b ha A hb hq=>?_,qx h0,up _ fun a b ha A hb hq=>?_⟩
 ·have:=lE h ha A om
  simp only [jc,decide_eq_true_eq] at hq ⊢; omega
 ·have:=lE h ha A om
  simp only [je,decide_eq_true_eq] at hq ⊢; omega
theorem yh {l:bk} {s:aG} {b:bD} {c:aB} (hb:l.aa[s.e6.toNat]? =some b) (hc:l.ar[b.mj.toNat]? =some c):qe l s=c:=by
 unfold qe; rw [hb]; simp only [Option.bind_some]; rw [hc]; rfl
end
section
def jM (sg:List aG) (i:Nat):aG:=if i=0 then ⟨-1,0⟩ else (sg[i-1]?).getD ⟨-1,0⟩
theorem iz {sg:List aG} {i:Nat} {s:aG} (h:sg[i]? =some s):jM sg (i+1)=s:=by unfold jM; rw [if_neg om,Nat.add_sub_cancel,h]; rfl
def jh (l:bk) (s:aG):Prop:=(0≤s.e6∧s.e6≤(l.aa.length:Int)-1)∧0≤s.Read∧s.Read≤86400000
def iu (l:bk) (sg:List aG) (i:Nat) (s:aG):Prop:=jh l s∧ ¬ s.e6<(jM sg i).e6∧ ¬ (s.e6=(jM sg i).e6∧s.Read≤(jM sg i).Read)
def nR (l:bk) (sg:List aG) (i:Nat):Prop:= ∀ (j:Nat) s,j<i→sg[j]? =some s→iu l sg j s
structure fE (l:bk) (r:cM):Prop where
 time:0≤r.Start∧r.Start≤r.gp∧r.gp≤86400000
 len:r.aj.length≤10
 sig: ∀ (i:Nat) s,r.aj[i]? =some s→iu l r.aj i s
noncomputable instance (l:bk) (r:cM):Decidable (fE l r):=Classical.propDecidable _
theorem tF {l:bk} {sg:List aG}:nR l sg 0:=fun j s hj=>absurd hj (Nat.not_lt_zero _)
theorem jl {l:bk} {sg:List aG} {i:Nat} {s:aG} (h:nR l sg i) (hs:sg[i]? =some s) (ho:iu l sg i s):nR l sg (i+1):=fun j z hj hz=>by
 rcases Nat.lt_or_ge j i with q|q
 ·exact h j z q hz
 ·obtain rfl:j=i:=by omega
  rw [hs] at hz; cases hz; exact ho
theorem xz {l:bk} {r:cM} {i:Nat} (h1:0≤r.Start∧r.Start≤r.gp∧r.gp≤86400000) (h2:r.aj.length≤10) (h:nR l r.aj i) (hi:r.aj.length≤i):fE l r:=
 ⟨h1,h2,fun j s hs=>h j s (by have:=(bg.1 hs).1; omega) hs⟩
noncomputable def kY (l:bk) (sg:List aG) (b k:Nat):Option (Int×ab):=(sg[k]?).bind fun s=>if s.e6=(b:Int)∧(dG l s).Lo≤(dG l s).Hi then some ((k:Int),dG l s) else none
noncomputable def jf (l:bk) (sg:List aG) (i b:Nat):TM:=(List.range i).filterMap (kY l sg b)
noncomputable def bX (l:bk) (sg:List aG) (i:Nat):List TM:=(List.range l.aa.length).map (jf l sg i)
noncomputable def cN (l:bk) (n:Nat):List Int:=(List.range n).map (k8 l)
theorem qS {l:bk} {n:Nat}:cN l (n+1)=cN l n++[k8 l n]:=by simp [cN,List.range_succ]
theorem cG {l:bk} {n:Nat}:(cN l n).length=n:=by simp [cN]
theorem eE {l:bk} {sg:List aG} {i:Nat}:(bX l sg i).length=l.aa.length:=by simp [bX]
theorem mB {l:bk} {sg:List aG} {i b:Nat} (h:b<l.aa.length):(bX l sg i)[b]? =some (jf l sg i b):=by simp [bX,h]
theorem mF {l:bk} {sg:List aG} {b k:Nat} {q:Int×ab}:kY l sg b k=some q↔ ∃ s,sg[k]? =some s∧(s.e6=(b:Int)∧(dG l s).Lo≤(dG l s).Hi)∧q=((k:Int),dG l s):=by
 unfold kY
 cases h:sg[k]? with
 |none=>simp
 |some s=>
  simp only [Option.bind_some,Option.some.injEq]
  by_cases e:s.e6=(b:Int)∧(dG l s).Lo≤(dG l s).Hi
  ·rw [if_pos e]
   constructor
   ·intro h; cases h; exact ⟨s,rfl,e,rfl⟩
   ·rintro ⟨s',rfl,_,rfl⟩; rfl
  ·rw [if_neg e]
   constructor
   ·intro h; cases h
   ·rintro ⟨s',rfl,e',_⟩; exact absurd e' e
theorem o1 {l:bk} {sg:List aG} {i b:Nat} {q:Int×ab}:q∈jf l sg i b↔ ∃ k,k<i∧ ∃ s,sg[k]? =some s∧(s.e6=(b:Int)∧(dG l s).Lo≤(dG l s).Hi)∧q=((k:Int),dG l s):=by
 unfold jf
 simp only [List.mem_filterMap,List.mem_range,mF]
theorem jm {l:bk} {sg:List aG} {i b:Nat}:jf l sg (i+1) b=jf l sg i b++(kY l sg b i).toList:=by
 unfold jf
 rw [List.range_succ,List.filterMap_append]
 congr 1
theorem sN {l:bk} {sg:List aG}:bX l sg 0=List.replicate l.aa.length []:=by
 unfold bX
 rw [List.eq_replicate_iff]
 refine ⟨sm,fun t ht=>?_⟩
 obtain ⟨b,_,rfl⟩:=cp.1 ht
 rfl
theorem m1 {l:bk} {sg:List aG} {i:Nat} {s:aG} (hs:sg[i]? =some s) (h: ¬ (dG l s).Lo≤(dG l s).Hi):bX l sg (i+1)=bX l sg i:=by
 unfold bX
 apply List.map_congr_left
 intro b _
 rw [jm]
 have:kY l sg b i=none:=by
  cases e:kY l sg b i with
  |none=>rfl
  |some q=>obtain ⟨s',A,⟨_,B⟩,_⟩:=mF.1 e; rw [hs] at A; cases A; exact absurd B h
 rw [this]; simp
theorem oH {l:bk} {sg:List aG} {i:Nat} {s:aG} (hs:sg[i]? =some s) (hb:0≤s.e6∧s.e6≤(l.aa.length:Int)-1) (h:(dG l s).Lo≤(dG l s).Hi) {x:TM} (hx:(bX l sg i)[s.e6.toNat]? =some x):
 (bX l sg i).set s.e6.toNat (c3 x (i:Int) (dG l s))=bX l sg (i+1):=by
 have A:s.e6.toNat<l.aa.length:=by omega
 rw [mB A] at hx
 cases hx
 have B:c3 (jf l sg i s.e6.toNat) (i:Int) (dG l s)=jf l sg (i+1) s.e6.toNat:=by
  have hn:(jf l sg i s.e6.toNat).lookup (i:Int)=none:=fU.2 fun p hp e=>by
   obtain ⟨k,hk,_,_,_,rfl⟩:=o1.1 hp
   simp only at e; omega
  have ho:kY l sg s.e6.toNat i=some ((i:Int),dG l s):=mF.2 ⟨s,hs,⟨om,h⟩,rfl⟩
  rw [jm,ho]
  unfold c3; rw [hn]; rfl
 rw [B]
 apply List.ext_getElem?
 intro b
 rw [List.getElem?_set]
 by_cases e:s.e6.toNat=b
 ·rw [if_pos e,eE,← e,if_pos A,mB A]
 ·rw [if_neg e]
  by_cases hb':b<l.aa.length
  ·rw [mB hb',mB hb',jm]
   have:kY l sg b i=none:=by
    cases e2:kY l sg b i with
    |none=>rfl
    |some q=>obtain ⟨s',C,⟨D,_⟩,_⟩:=mF.1 e2; rw [hs] at C; cases C; exact absurd om e
   rw [this]; simp
  ·rw [List.getElem?_eq_none (by rw [eE]; omega),List.getElem?_eq_none (by rw [eE]; omega)]
noncomputable def cr (l:bk) (r:cM):bG:=⟨r.Start,r.gp,cN l l.aa.length,bX l r.aj r.aj.length,l.eR,l.fZ,(r.aj.length:Int)⟩
theorem FN {l:bk} (ht:cQ l.aU=true) (h:lZ l) {i:Nat} (hi:i<l.aa.length):1≤k8 l i∧k8 l i≤500000000:=by
 have A:=DA ht h.zt i
 have B:=h.MY i hi
 have C:=h.head.1
 unfold k8 tw
 refine ⟨(Int.le_ediv_iff_mul_le om).2 om,?_⟩
 have:(1000*kl l i+l.iQ-1)/l.iQ≤1000*kl l i+l.iQ-1:=Int.ediv_le_self _ om
 omega
theorem Hl (l:bk) (s:aG):0≤(dG l s).Lo∧(dG l s).Hi≤86400000:=by
 have A:=ld (p:=jc (qe l s) s.Read) (n:=86400001)
 have B:=ld (p:=je (qe l s) s.Read) (n:=86400001)
 unfold dG pO
 simp only
 omega
theorem j_ {l:bk} {r:cM} (ht:cQ l.aU=true) (h:lZ l) (hr:fE l r):Br (cr l r):=by
 have hh:=h.head
 unfold fP at hh
 refine ⟨?_,by simp [cr,eE,bG.n,cG],hr.time,fun x hx=>?_,fun t A p hp=>?_⟩
 ·show (cN l l.aa.length).length≤6
  rw [cG]; omega
 ·obtain ⟨i,hi,rfl⟩:=cp.1 hx
  exact FN ht h (List.mem_range.1 hi)
 ·obtain ⟨b,hb,rfl⟩:=cp.1 A
  obtain ⟨k,hk,s,hs,⟨_,B⟩,rfl⟩:=o1.1 hp
  have C:=Hl l s
  have D:=hr.len
  simp only
  omega
noncomputable def dA (l:bk) (r:cM) (me:Int):Int:=if dR l=0 then (if fE l r then (if me=0 then (if hG (cr l r)=[] then 8 else 0) else me) else 51) else dR l
theorem qP {l:bk} {r:cM} {me:Int} (h: ¬ dR l=0):dA l r me=dR l:=if_neg h
theorem d_ {l:bk} {r:cM} {me:Int} (h:dR l=0) (h2: ¬ fE l r):dA l r me=51:=by unfold dA; rw [if_pos h,if_neg h2]
theorem n7 {l:bk} {r:cM} {me:Int} (h:dR l=0) (h2:fE l r) (h3: ¬ me=0):dA l r me=me:=by unfold dA; rw [if_pos h,if_pos h2,if_neg h3]
theorem mU {l:bk} {r:cM} {me:Int} (h:dR l=0) (h2:fE l r) (h3:me=0) (h4:hG (cr l r)=[]):dA l r me=8:=by unfold dA; rw [if_pos h,if_pos h2,if_pos h3,if_pos h4]
theorem jV {l:bk} {r:cM} {me:Int} (h:dR l=0) (h2:fE l r) (h3:me=0) (h4: ¬ hG (cr l r)=[]):dA l r me=0:=by unfold dA; rw [if_pos h,if_pos h2,if_pos h3,if_neg h4]
theorem g7 {l:bk} {r:cM} {me:Int} (h:dA l r me=0):dR l=0∧fE l r∧me=0∧ ¬ hG (cr l r)=[]:=by
 unfold dA at h
 split at h
 ·split at h
  ·split at h
   ·split at h
    ·omega
    ·exact ⟨asm,asm,asm,asm⟩
   ·omega
  ·omega
 ·omega
end
section
def kF (l:List Int):Int:=(l.drop 1).foldl min (l.headD 0)
theorem DC {l:List Int} {i:Nat} {x:Int} (h:l[i]? =some x) (hi:1≤i):kF (l.take (i+1))=min (kF (l.take i)) x:=by
 have e:l.take (i+1)=l.take i++[x]:=by rw [List.take_add_one,h]; rfl
 have hl:1≤(l.take i).length:=by have:=(bg.1 h).1; rw [List.length_take]; omega
 rw [e]
 cases ht:l.take i with
 |nil=>rw [ht] at hl; simp at hl
 |cons y ys=>simp [kF,List.foldl_append]
theorem AX {l:List Int} {x:Int} (h:l[0]? =some x):kF (l.take 1)=x:=by
 cases l with
 |nil=>simp at h
 |cons y ys=>simp at h; subst h; simp [kF]
theorem wM: ∀ (l:List Int) (a:Int),(l.foldl min a=a∨l.foldl min a∈l)∧l.foldl min a≤a∧ ∀ x∈l,l.foldl min a≤x
 |[],a=>⟨.inl rfl,sm,sm⟩
 |y::l,a=>by
  obtain ⟨A,C,B⟩:=wM l (min a y)
  simp only [List.foldl_cons]
  refine ⟨?_,om,?_⟩
  ·rcases A with A|A
   ·rw [A]
    rcases Int.le_total a y with q|q
    ·left; omega
    ·right; rw [show min a y=y by omega]; simp
   ·right; exact db _ A
  ·intro x hx
   rcases bB.1 hx with rfl|hx
   ·omega
   ·exact B x hx
theorem AI {l:List Int} (h:l≠[]):kF l∈l∧ ∀ x∈l,kF l≤x:=by
 cases l with
 |nil=>exact absurd rfl h
 |cons y ys=>
  obtain ⟨A,B,C⟩:=wM ys y
  refine ⟨?_,fun x hx=>?_⟩
  ·rcases A with A|A
   ·simp [kF,A]
   ·exact db _ (by simpa [kF] using A)
  ·rcases bB.1 hx with rfl|hx
   ·simpa [kF] using B
   ·simpa [kF] using C x hx
noncomputable def fp (l:bk) (r:cM):List Int:=if dA l r 0=0 then hG (cr l r) else []
theorem iF {l:bk} {r:cM} (h:dA l r 0=0):fp l r=hG (cr l r):=if_pos h
theorem kz {l:bk} {r:cM} (h: ¬ dA l r 0=0):fp l r=[]:=if_neg h
theorem qo {l:bk} {r:cM} (h:dA l r 0=0):fp l r≠[]:=by rw [iF h]; exact (g7 h).2.2.2
theorem zp {l:bk} {r:cM} (h:dA l r 0=0):1≤(fp l r).length:=List.length_pos_iff.2 (qo h)
theorem yR {l:bk} {r:cM}:(fp l r).length≤100:=by
 unfold fp
 split
 ·rename_i h
  obtain ⟨A,B,_⟩:=g7 h
  obtain ⟨ht,ho⟩:=en A
  have:=(j_ ht ho B).n
  have C:=oZ (w:=cr l r) (k:=(cr l r).n+1)
  unfold hG; omega
 ·simp
noncomputable def jo (l:bk) (b:Int):Int:=if 0≤b∧b≤(l.aa.length:Int)-1 then 0 else 2
theorem v_ {l:bk} {b:Int} (h:0≤b∧b≤(l.aa.length:Int)-1):jo l b=0:=if_pos h
theorem yp {l:bk} {b:Int} (h:jo l b=0):0≤b∧b≤(l.aa.length:Int)-1:=by
 unfold jo at h
 split at h
 ·assumption
 ·omega
noncomputable def kQ (l:bk) (r:cM) (b:Nat):ab:=zD (lT (cr l r) b)
noncomputable def dp (l:bk) (r:cM) (b:Int):Int:=if dA l r (jo l b)=0 then (if kQ l r b.toNat=lV then 6 else 0) else dA l r (jo l b)
noncomputable def c4 (l:bk) (r:cM) (b:Int):ab:=if dp l r b=0 then kQ l r b.toNat else dT
theorem kK {l:bk} {r:cM} {b:Int} (h: ¬ dA l r (jo l b)=0):dp l r b=dA l r (jo l b)∧c4 l r b=dT:=by
 have e:dp l r b=dA l r (jo l b):=if_neg h
 exact ⟨e,by unfold c4; rw [if_neg (by rw [e]; exact h)]⟩
theorem xG {l:bk} {r:cM} {b:Nat} (h:dA l r (jo l b)=0) (h2:kQ l r b=lV):dp l r b=6∧c4 l r b=dT:=by
 have e:dp l r b=6:=by unfold dp; rw [if_pos h,Int.toNat_natCast,if_pos h2]
 exact ⟨e,by unfold c4; rw [if_neg (by rw [e]; omega)]⟩
theorem qW {l:bk} {r:cM} {b:Nat} (h:dA l r (jo l b)=0) (h2: ¬ kQ l r b=lV):dp l r b=0∧c4 l r b=kQ l r b:=by
 have e:dp l r b=0:=by unfold dp; rw [if_pos h,Int.toNat_natCast,if_neg h2]
 exact ⟨e,by unfold c4; rw [if_pos e,Int.toNat_natCast]⟩
theorem FH {w:bG} (h:Br w) {b:Nat} {q:Int×ab} (hq:q∈lT w b):0≤q.2.Lo∧q.2.Lo≤q.2.Hi∧q.2.Hi≤86400000:=by
 have A:=mL hq
 obtain ⟨o,ho,p,hp,u,hu,e⟩:=fW.1 hq
 obtain ⟨_,_,rfl⟩:=g6.1 e
 have B:=h.opt ho
 simp only [hE] at A ⊢
 omega
theorem sc {l:bk} {r:cM} {b:Int} (h:dp l r b=0):0≤(c4 l r b).Lo∧(c4 l r b).Lo≤(c4 l r b).Hi∧(c4 l r b).Hi≤86400000:=by
 have ho:dA l r (jo l b)=0:=by
  by_cases e:dA l r (jo l b)=0
  ·exact e
  ·rw [(kK e).1] at h; exact absurd h e
 obtain ⟨B,C,_⟩:=g7 ho
 obtain ⟨ht,A⟩:=en B
 have hw:=j_ ht A C
 have hv:c4 l r b=kQ l r b.toNat:=by unfold c4; rw [if_pos h]
 have hn:kQ l r b.toNat≠lV:=fun e=>by unfold dp at h; rw [if_pos ho,if_pos e] at h; omega
 have hh:=yM (l:=lT (cr l r) b.toNat) fun q hq=>mL hq
 rw [hv]
 unfold kQ at hn ⊢
 rcases hh with ⟨_,e⟩|hh
 ·exact absurd e hn
 ·obtain ⟨x,hx,ex⟩:=hh.lo
  obtain ⟨y,hy,ey⟩:=hh.hi
  have:=FH hw hx
  have:=FH hw hy
  have:=hh.le
  omega
noncomputable def yD (l:bk) (r:cM):ab:=if dp l r l.cj=0 then ⟨(c4 l r l.cj).Lo-r.Start,(c4 l r l.cj).Hi-r.Start⟩ else dT
theorem yf {l:bk} {r:cM} (h:dp l r l.cj=0):yD l r=⟨(c4 l r l.cj).Lo-r.Start,(c4 l r l.cj).Hi-r.Start⟩:=if_pos h
theorem Ke {l:bk} {r:cM} (h: ¬ dp l r l.cj=0):yD l r=dT:=if_neg h
theorem rh {l:bk} {r:cM} {b:Int} (h:dp l r b=0):fE l r:=by
 by_cases e:dA l r (jo l b)=0
 ·exact (g7 e).2.1
 ·rw [(kK e).1] at h; exact absurd h e
theorem uj {k:List (Int×ab)} {h:ab} {q:Int×ab} {z:ab} (hh:ki k h) (hq:q.2.Lo≤q.2.Hi) (hz:kT h q.2=z):ki (k++[q]) z:=by subst hz; exact tY hh hq
end
section
set_option maxRecDepth 20000
def LB:av:=⟨1,⟨10000,10200⟩,⟨0,0⟩,⟨0,0⟩,0,0⟩
def tD:aB:=⟨100,[⟨0,⟨0,2⟩⟩,⟨100000,⟨5,6⟩⟩]⟩
def Kr (o:Int):bD:=⟨⟨0,⟨o,o⟩⟩,0⟩
def lv (f:Int):bk:=⟨[LB],2000,[tD],[Kr 1000,Kr 4000,Kr 9000],1,f,1⟩
def jI:cM:=⟨10000,20000,[⟨0,10600⟩,⟨0,11000⟩,⟨1,12600⟩]⟩
theorem DH:cQ [LB]=true:=by decide
theorem s6:eU tD:=by
 have hi: ∀ (i:Nat) (x:cV),tD.bO[i]? =some x→i=0∧x=⟨0,⟨0,2⟩⟩∨i=1∧x=⟨100000,⟨5,6⟩⟩:=fun i x h=>by
  match i with
  |0=>left; simp [tD] at h; exact ⟨rfl,h.symm⟩
  |1=>right; simp [tD] at h; exact ⟨rfl,h.symm⟩
  |n+2=>simp [tD] at h
 refine ⟨dc,dc,fun i x hx=>?_,fun i k x o hx hk ho=>?_⟩
 ·rcases hi i x hx with ⟨rfl,rfl⟩|⟨rfl,rfl⟩<;>(unfold gJ; decide)
 ·rcases hi i x hx with ⟨rfl,rfl⟩|⟨rfl,rfl⟩
  ·omega
  ·rcases hi k o ho with ⟨rfl,rfl⟩|⟨rfl,rfl⟩
   ·unfold u_; decide
   ·omega
theorem uU {o:Int} (h:0≤o∧o<10000):eA [LB] ⟨0,⟨o,o⟩⟩:=⟨sm,LB,rfl,by show o≤o∧0≤o∧o≤10000-1; omega⟩
theorem Hq {f:Int} (hf:0≤f∧f≤3):lZ (lv f):=by
 refine ⟨?_,fun c hc=>?_,fun b hb=>?_,fun i hi=>?_⟩
 ·unfold fP; simp [lv]; omega
 ·simp [lv] at hc; subst hc; exact s6
 ·simp [lv] at hb
  rcases hb with rfl|rfl|rfl
  ·exact ⟨uU om,by simp [Kr,lv]⟩
  ·exact ⟨uU om,by simp [Kr,lv]⟩
  ·exact ⟨uU om,by simp [Kr,lv]⟩
 ·have A:i<3:=hi
  have:i=0∨i=1∨i=2:=by omega
  rcases this with rfl|rfl|rfl
  ·show (1:Int)≤kl (lv 0) 0; decide
  ·show (1:Int)≤kl (lv 0) 1; decide
  ·show (1:Int)≤kl (lv 0) 2; decide
def eZ:bk:=lv 1
theorem Ay:dR eZ=0:=xX DH (Hq om)
theorem FE {r x:Int} (h0:0<x) (h1:x≤86400000) (hy:jc tD r x=true) (hn:jc tD r (x-1)=false):gK (jc tD r) 86400001=x:=
 tO om om hy fun z hz A=>by
  cases e:jc tD r z with
  |false=>rfl
  |true=>
   unfold jc at e hn
   have:=(lE s6 hz (show z≤x-1 by omega) om).2
   have B:=of_decide_eq_true e
   have C:=of_decide_eq_false hn
   omega
theorem CX {r x:Int} (h0:0<x) (h1:x≤86400000) (hy:je tD r x=true) (hn:je tD r (x-1)=false):gK (je tD r) 86400001=x:=
 tO om om hy fun z hz A=>by
  cases e:je tD r z with
  |false=>rfl
  |true=>
   unfold je at e hn
   have:=(lE s6 hz (show z≤x-1 by omega) om).1
   have B:=of_decide_eq_true e
   have C:=of_decide_eq_false hn
   omega
theorem LY:pO tD 10600=⟨10596,10602⟩:=by unfold pO; rw [FE (x:=10596) om om dc dc,CX (x:=10603) om om dc dc]; rfl
theorem LD:pO tD 11000=⟨10996,11002⟩:=by unfold pO; rw [FE (x:=10996) om om dc dc,CX (x:=11003) om om dc dc]; rfl
theorem LL:pO tD 12600=⟨12596,12602⟩:=by unfold pO; rw [FE (x:=12596) om om dc dc,CX (x:=12603) om om dc dc]; rfl
def KY (f:Int):bG:=⟨10000,20000,[500,1500,2500],[[(0,⟨10596,10602⟩),(1,⟨10996,11002⟩)],[(2,⟨12596,12602⟩)],[]],1,f,3⟩
theorem Lt (f:Int):dG (lv f) ⟨0,10600⟩=⟨10596,10602⟩:=LY
theorem LU (f:Int):dG (lv f) ⟨0,11000⟩=⟨10996,11002⟩:=LD
theorem Mi (f:Int):dG (lv f) ⟨1,12600⟩=⟨12596,12602⟩:=LL
theorem CG (f:Int):bX (lv f) jI.aj 3=[[(0,⟨10596,10602⟩),(1,⟨10996,11002⟩)],[(2,⟨12596,12602⟩)],[]]:=by
 have o: ∀ b:Nat,jf (lv f) jI.aj 3 b=(kY (lv f) jI.aj b 0).toList++((kY (lv f) jI.aj b 1).toList++(kY (lv f) jI.aj b 2).toList):=fun b=>by
  rw [jm,jm,jm]; simp [jf]
 have A: ∀ b:Nat,kY (lv f) jI.aj b 0=if (0:Int)=(b:Int) then some (0,⟨10596,10602⟩) else none:=fun b=>by
  show (if (0:Int)=(b:Int)∧(dG (lv f) ⟨0,10600⟩).Lo≤(dG (lv f) ⟨0,10600⟩).Hi then some ((0:Int),dG (lv f) ⟨0,10600⟩) else none)=_
  rw [Lt]; by_cases h:(0:Int)=(b:Int)
  ·rw [if_pos h,if_pos ⟨h,dc⟩]<;>rfl
  ·rw [if_neg h,if_neg fun q=>h q.1]
 have B: ∀ b:Nat,kY (lv f) jI.aj b 1=if (0:Int)=(b:Int) then some (1,⟨10996,11002⟩) else none:=fun b=>by
  show (if (0:Int)=(b:Int)∧(dG (lv f) ⟨0,11000⟩).Lo≤(dG (lv f) ⟨0,11000⟩).Hi then some ((1:Int),dG (lv f) ⟨0,11000⟩) else none)=_
  rw [LU]; by_cases h:(0:Int)=(b:Int)
  ·rw [if_pos h,if_pos ⟨h,dc⟩]<;>rfl
  ·rw [if_neg h,if_neg fun q=>h q.1]
 have C: ∀ b:Nat,kY (lv f) jI.aj b 2=if (1:Int)=(b:Int) then some (2,⟨12596,12602⟩) else none:=fun b=>by
  show (if (1:Int)=(b:Int)∧(dG (lv f) ⟨1,12600⟩).Lo≤(dG (lv f) ⟨1,12600⟩).Hi then some ((2:Int),dG (lv f) ⟨1,12600⟩) else none)=_
  rw [Mi]; by_cases h:(1:Int)=(b:Int)
  ·rw [if_pos h,if_pos ⟨h,dc⟩]<;>rfl
  ·rw [if_neg h,if_neg fun q=>h q.1]
 show [jf (lv f) jI.aj 3 0,jf (lv f) jI.aj 3 1,jf (lv f) jI.aj 3 2]=_
 rw [o,o,o,A,A,A,B,B,B,C,C,C]
 rfl
theorem xA (f:Int):cr (lv f) jI=KY f:=by
 unfold cr KY
 rw [show jI.aj.length=3 from rfl,CG]
 rfl
theorem HD (f:Int):fE (lv f) jI:=by
 refine ⟨dc,dc,fun i s hs=>?_⟩
 match i with
 |0=>simp [jI] at hs; subst hs; unfold iu jh; simp [lv,jM]
 |1=>simp [jI] at hs; subst hs; unfold iu jh; simp [lv,jM,jI]
 |2=>simp [jI] at hs; subst hs; unfold iu jh; simp [lv,jM,jI]
 |n+3=>simp [jI] at hs
theorem wY:hG (cr eZ jI)=[2,3]:=by rw [show cr eZ jI=KY 1 from xA 1]; decide
theorem wJ:dA eZ jI 0=0:=jV Ay (HD 1) rfl (by rw [wY]; decide)
theorem D5:fp eZ jI=[2,3]:=by rw [iF wJ,wY]
theorem Ev {b:Nat} (hb:b<3):dA eZ jI (jo eZ b)=0:=by rw [v_ (by show 0≤(b:Int)∧(b:Int)≤3-1; omega)]; exact wJ
theorem zG {b:Nat} {z:ab} (hb:b<3) (hz:zD (lT (KY 1) b)=z) (hn:z≠lV):dp eZ jI b=0∧c4 eZ jI b=z:=by
 have e:kQ eZ jI b=z:=by unfold kQ; rw [show cr eZ jI=KY 1 from xA 1]; exact hz
 have h:=qW (Ev hb) (by rw [e]; exact hn)
 exact ⟨h.1,h.2.trans e⟩
theorem xO:dp eZ jI 0=0∧c4 eZ jI 0=⟨10596,11002⟩:=zG (b:=0) om dc dc
theorem nX:dp eZ jI 1=0∧c4 eZ jI 1=⟨12596,12602⟩:=zG (b:=1) om dc dc
theorem I3:dp eZ jI eZ.cj=0∧yD eZ jI=⟨2596,2602⟩:=by
 refine ⟨nX.1,?_⟩
 rw [yf (l:=eZ) (r:=jI) nX.1]
 rw [show c4 eZ jI eZ.cj=⟨12596,12602⟩ from nX.2]
 rfl
theorem LR (f:Int) {a:OA} {c:Nat} (hc:2≤c):eM (lv f) [(a,c)]:=by
 refine ⟨by simp [lv],?_,by simp [lv],U,by simp [lv],fun k m a' hm ha=>?_⟩
 ·intro x hx; simp [lv] at hx; subst hx; simp [LB]
 ·match k with
  |0=>simp [lv] at hm ha; subst hm; subst ha; simp [tD]; exact hc
  |n+1=>simp at ha
end
section
/-- what is asked of a line that comes in -/
structure F4 (l:bk) (az:List RA):Prop where
 vZ:l.aU.length≤9223372036854775807
 side: ∀ x∈l.aU,0≤x.jJ∧x.jJ≤255
 v7:l.ar.length≤9223372036854775807
 oL:az.length=l.ar.length
 vW:l.aa.length≤9223372036854775807
 M0: ∀ (k:Nat) m (a:RA),l.ar[k]? =some m→az[k]? =some a→m.bO.length≤a.2∧m.bO.length≤9223372036854775807
end
section
def ep (m:List aq) (a:cg):List au:=rd a.1.1 m.length 7 (List.zipWith aq.cells m a.2)::aX aq.gQ m a.2
structure JI (h:List aq) (a:cg):Prop where
 len:h.length≤1000000
 oL:a.2.length=h.length
 sig: ∀ d∈h,d.ba.aj.length≤1000000
structure jv (r:eJ) (az:List RA) (ha:List cg):Prop where
 line:eM r.ak az
 gD:r.aR.length≤1000000
 draw:r.b_.length≤12
 gv:r.ax.length≤1000000
 has:ha.length=r.ax.length
 iP: ∀ (k:Nat) h (a:cg),r.ax[k]? =some h→ha[k]? =some a→JI h a
structure MW (r:eJ) (az:List RA) (ha:List cg):Prop where
 line:F4 r.ak az
 gD:r.aR.length≤9223372036854775807
 draw:r.b_.length≤9223372036854775807
 gv:r.ax.length≤9223372036854775807
 has:ha.length=r.ax.length
 iP: ∀ (k:Nat) h (a:cg),r.ax[k]? =some h→ha[k]? =some a→h.length≤9223372036854775807∧a.2.length=h.length∧ ∀ d∈h,d.ba.aj.length≤9223372036854775807
def ni (r:cM):Prop:=r.Start=0∧r.gp=0∧(r.aj.length:Int)=0
instance (r:cM):Decidable (ni r):=by unfold ni; infer_instance
def m6 (s:ab):Prop:=1≤s.Lo∧s.Lo≤s.Hi∧s.Hi≤600000
instance (s:ab):Decidable (m6 s):=by unfold m6; infer_instance
def hZ (l:bk) (d:aq):Prop:=if d.Out=true then d.cZ=false∧d.Time=dT∧ni d.ba else if d.cZ=true then m6 d.Time∧ni d.ba else dp l d.ba l.cj=0∧d.Time=dT
noncomputable instance (l:bk) (d:aq):Decidable (hZ l d):=Classical.propDecidable _
noncomputable def fr (l:bk) (d:aq):ab:=if d.Out=true∨d.cZ=true then d.Time else yD l d.ba
/-- which kind a descent is of -/
def l5 (d:aq):Int:=if d.Out=true then 0 else if d.cZ=true then 1 else 2
theorem GX {w:bG} (h:Br w): ∀ (b:Nat) (p:aA×Int),p∈fwd w b→w.Start≤p.2:=by
 have hl: ∀ b,0≤bZ w b:=fun b=>by
  unfold bZ
  cases e:w.nj[b]? with
  |none=>simp
  |some x=>have:=h.least x (aP e); simp; omega
 intro b
 induction b with
 |zero=>intro p hp; simp only [fwd,bW] at hp; subst hp; exact Int.le_refl _
 |succ b ih=>
  intro q hq
  obtain ⟨p,hp,o,ho,e⟩:=eh.1 hq
  unfold iZ at e
  split at e
  ·simp only [Option.some.injEq] at e
   subst e
   have:=ih p hp
   have:=hl b
   simp only; omega
  ·cases e
theorem G7 {l:bk} {r:cM} {b:Int} (h:dp l r b=0):r.Start≤(c4 l r b).Lo:=by
 have ho:dA l r (jo l b)=0:=by
  by_cases e:dA l r (jo l b)=0
  ·exact e
  ·rw [(kK e).1] at h; exact absurd h e
 obtain ⟨B,C,_⟩:=g7 ho
 obtain ⟨ht,A⟩:=en B
 have hw:=j_ ht A C
 have hv:c4 l r b=kQ l r b.toNat:=by unfold c4; rw [if_pos h]
 have hn:kQ l r b.toNat≠lV:=fun e=>by unfold dp at h; rw [if_pos ho,if_pos e] at h; omega
 have hh:=yM (l:=lT (cr l r) b.toNat) fun q hq=>mL hq
 rw [hv]
 unfold kQ at hn ⊢
 rcases hh with ⟨_,e⟩|hh
 ·exact absurd e hn
 ·obtain ⟨x,hx,ex⟩:=hh.lo
  obtain ⟨o,ho,p,hp,u,hu,e⟩:=fW.1 hx
  obtain ⟨_,_,rfl⟩:=g6.1 e
  have D:r.Start≤p.2:=GX hw _ p hp
  have E:0≤bZ (cr l r) b.toNat:=by
   unfold bZ
   cases e:(cr l r).nj[b.toNat]? with
   |none=>simp
   |some x=>have:=hw.least x (aP e); simp; omega
  simp only [hE] at ex
  omega
theorem zQ {l:bk} {d:aq} (h:hZ l d):0≤(fr l d).Lo∧(fr l d).Lo≤(fr l d).Hi∧(fr l d).Hi≤86400000:=by
 unfold hZ at h
 unfold fr
 split at h
 ·rename_i q; rw [if_pos (Or.inl q),h.2.1]; simp [dT]
 ·rename_i q
  split at h
  ·rename_i A
   rw [if_pos (Or.inr A)]
   obtain ⟨⟨B,C,D⟩,_⟩:=h
   omega
  ·rename_i A
   rw [if_neg (fun z=>z.elim q A),yf h.1]
   have B:=sc h.1
   have C:=(rh h.1).time
   have D:=G7 h.1
   simp only
   omega
theorem Hj {l:bk} {d:aq} (h:d.Out=true):fr l d=d.Time:=if_pos (Or.inl h)
theorem HB {l:bk} {d:aq} (h:d.Out=false∧d.cZ=true):fr l d=d.Time:=if_pos (Or.inr h.2)
theorem Hy {l:bk} {d:aq} (h:d.Out=false∧d.cZ=false):fr l d=yD l d.ba:=if_neg (by simp [h])
theorem EK {l:bk} {d:aq} (h:d.Out=true):hZ l d=(d.cZ=false∧d.Time=dT∧ni d.ba):=if_pos h
theorem s5 {l:bk} {d:aq} (h:d.Out=false∧d.cZ=true):hZ l d=(m6 d.Time∧ni d.ba):=by unfold hZ; rw [if_neg (by simp [h]),if_pos h.2]
theorem xo {l:bk} {d:aq} (h:d.Out=false∧d.cZ=false):hZ l d=(dp l d.ba l.cj=0∧d.Time=dT):=by unfold hZ; rw [if_neg (by simp [h]),if_neg (by simp [h])]
structure eN (r:eJ):Prop where
 num:1≤(r.aR.length:Int)∧(r.aR.length:Int)≤5
 CV:0≤r.ks∧r.ks≤5
 nh:1≤(r.ax.length:Int)∧(r.ax.length:Int)≤3
 ids: ∀ (i:Nat) x,r.aR[i]? =some x→(0≤x∧x≤9999)∧ ∀ y,0<i→r.aR[i-1]? =some y→y<x
 draw:r.b_.Perm ((List.range r.aR.length).map fun (k:Nat)=>(k:Int))
 iP: ∀ h∈r.ax,h.length=r.aR.length∧ ∀ d∈h,hZ r.ak d
noncomputable instance (r:eJ):Decidable (eN r):=Classical.propDecidable _
noncomputable def eL (r:eJ):Int:=if dR r.ak=0 then (if eN r then 0 else 60) else dR r.ak
end
section
theorem kN {α β:Type} {f g:α→Option β}: ∀ {l:List α},(∀ x∈l,f x=g x)→l.filterMap f=l.filterMap g
 |[],_=>rfl
 |x::l,h=>by simp only [List.filterMap_cons,h x cf,kN (l:=l) (fun y hy=>h y (db _ hy))]
abbrev yS:=List (Int×ab)
/-- the sum of a sled in some heats, the first ones -/
noncomputable def il (l:bk) (hs:List (List aq)) (i:Nat):Nat→Option ab
 |0=>some ⟨0,0⟩
 |k+1=>match il l hs i k,(hs[k]?).bind (·[i]?) with
  |some s,some d=>if d.Out=true then none else some ⟨s.Lo+(fr l d).Lo/10,s.Hi+(fr l d).Hi/10⟩
  |_,_=>none
noncomputable def dg (l:bk) (hs:List (List aq)) (n h i:Nat):yS:=(List.range n).filterMap fun q=>(il l hs q (if q<i then h+1 else h)).map fun s=>((q:Int),s)
noncomputable def wq (r:eJ) (k:Nat):yS:=(List.range r.aR.length).filterMap fun q=>(il r.ak r.ax q k).map fun s=>((q:Int),s)
noncomputable def HX (r:eJ):yS:=wq r r.ax.length
section
variable {l:bk} {hs:List (List aq)} {n h i q:Nat} {s:ab} {d:aq}
theorem xI:dg l hs n h 0=(List.range n).filterMap fun q=>(il l hs q h).map fun s=>((q:Int),s):=by
 unfold dg
 apply kN
 intro q _
 rw [if_neg (Nat.not_lt_zero _)]
theorem Ha:dg l hs n h n=dg l hs n (h+1) 0:=by
 rw [xI]
 unfold dg
 apply kN
 intro q hq
 rw [if_pos (List.mem_range.1 hq)]
theorem Cw {x:List aq} (hx:hs[h]? =some x) (hd:x[i]? =some d) (ho:d.Out=true):il l hs i (h+1)=none:=by
 unfold il
 rw [hx]
 simp only [Option.bind_some,hd]
 cases il l hs i h with
 |none=>rfl
 |some s=>simp [ho]
theorem yI (h0:il l hs i h=none):il l hs i (h+1)=none:=by unfold il; rw [h0]
theorem yk {x:List aq} (hx:hs[h]? =some x) (hd:x[i]? =some d) (ho: ¬ d.Out=true) (hs0:il l hs i h=some s):il l hs i (h+1)=some ⟨s.Lo+(fr l d).Lo/10,s.Hi+(fr l d).Hi/10⟩:=by
 unfold il
 rw [hx,hs0]
 simp only [Option.bind_some,hd,if_neg ho]
end
section
variable {l:bk} {hs:List (List aq)} {n h i q:Nat} {s t:ab}
theorem Kn {K β:Type} [DecidableEq K] {L Y:List (K×β)} {t:K}:(L++Y).lookup t=match L.lookup t with |some v=>some v|none=>Y.lookup t:=by
 induction L with
 |nil=>rfl
 |cons p L ih=>
  obtain ⟨k,u⟩:=p
  by_cases e:t==k
  ·simp [List.lookup,e]
  ·have:(t==k)=false:=by simpa using e
   simp only [List.cons_append,List.lookup,this,ih]
theorem qu {f:Nat→Option ab}: ∀ (n i:Nat),((List.range n).filterMap fun q=>(f q).map fun s=>((q:Int),s)).lookup (i:Int)=if i<n then f i else none
 |0,i=>by simp
 |n+1,i=>by
  rw [List.range_succ,List.filterMap_append,Kn,qu n i]
  by_cases c:i<n
  ·rw [if_pos c,if_pos om]
   cases e:f i with
   |some s=>rfl
   |none=>
    simp only
    cases e2:f n with
    |none=>simp [e2]
    |some u=>
     have:((i:Int)==(n:Int))=false:=by simp only [beq_eq_false_iff_ne,ne_eq]; omega
     simp [e2,List.lookup,this]
  ·rw [if_neg c]
   simp only
   by_cases A:i=n
   ·subst A
    rw [if_pos om]
    cases e2:f i with
    |none=>simp [e2]
    |some u=>simp [e2]
   ·rw [if_neg om]
    have:((i:Int)==(n:Int))=false:=by simp only [beq_eq_false_iff_ne,ne_eq]; omega
    cases e2:f n with
    |none=>simp [e2]
    |some u=>simp [e2,List.lookup,this]
theorem r6:(dg l hs n h i).lookup (q:Int)=if q<n then il l hs q (if q<i then h+1 else h) else none:=qu n q
theorem Jh {f g:Nat→Option ab} {n i:Nat} (hi:i<n) {s:ab} (hf:(f i).isSome=true) (hg:g i=some s) (hfg: ∀ q,q≠i→f q=g q):c3 ((List.range n).filterMap fun q=>(f q).map fun s=>((q:Int),s)) (i:Int) s=(List.range n).filterMap fun q=>(g q).map fun s=>((q:Int),s):=by
 unfold c3
 rw [if_pos (by rw [qu,if_pos hi]; exact hf),List.map_filterMap]
 apply kN
 intro q _
 by_cases e:q=i
 ·subst e
  obtain ⟨u,hu⟩:=Option.isSome_iff_exists.1 hf
  rw [hu,hg]; simp
 ·rw [hfg q e]
  cases g q with
  |none=>rfl
  |some u=>
   have: ¬ ((q:Int)=(i:Int)):=by omega
   simp [this]
theorem IN {f g:Nat→Option ab} {n i:Nat} (hg:g i=none) (hfg: ∀ q,q≠i→f q=g q):dF ((List.range n).filterMap fun q=>(f q).map fun s=>((q:Int),s)) (i:Int)=(List.range n).filterMap fun q=>(g q).map fun s=>((q:Int),s):=by
 unfold dF
 rw [List.filter_filterMap]
 apply kN
 intro q _
 by_cases e:q=i
 ·subst e
  rw [hg]
  cases f q with
  |none=>rfl
  |some u=>simp
 ·rw [hfg q e]
  cases g q with
  |none=>rfl
  |some u=>
   have: ¬ ((q:Int)=(i:Int)):=by omega
   simp [this]
theorem HK (hi:i<n) (h0:(il l hs i h).isSome=true) (h1:il l hs i (h+1)=some s):c3 (dg l hs n h i) (i:Int) s=dg l hs n h (i+1):=by
 unfold dg
 refine Jh hi (by rw [if_neg (Nat.lt_irrefl i)]; exact h0) (by rw [if_pos (Nat.lt_succ_self i)]; exact h1) fun q hq=>?_
 by_cases c:q<i
 ·rw [if_pos c,if_pos om]
 ·rw [if_neg c,if_neg om]
theorem zR (h1:il l hs i (h+1)=none):dF (dg l hs n h i) (i:Int)=dg l hs n h (i+1):=by
 unfold dg
 refine IN (by rw [if_pos (Nat.lt_succ_self i)]; exact h1) fun q hq=>?_
 by_cases c:q<i
 ·rw [if_pos c,if_pos om]
 ·rw [if_neg c,if_neg om]
end
section
variable {m:yS} {i:Int} {own:ab}
end
end
section
def oc (l:List Int):List (List Value):=l.map fun x=>[vI x]
theorem qb {l:List Int}:(oc l).length=l.length:=by simp [oc]
theorem AS {l:List Int} {k:Nat} {x:Int} (h:l[k]? =some x):(oc l)[k]? =some [vI x]:=by simp [oc,h]
theorem BM {l:List Int} {k:Nat} {x:List Value} (h:(oc l)[k]? =some x): ∃ y,l[k]? =some y∧x=[vI y]:=by
 simp only [oc,fT,Option.map_eq_some_iff] at h
 obtain ⟨y,hy,rfl⟩:=h
 exact ⟨y,hy,U⟩
theorem yB {l:List Int}: ∀ x∈oc l,x.length=1:=fun x hx=>by
 simp only [oc,cp] at hx
 obtain ⟨y,_,rfl⟩:=hx
 rfl
theorem tu {l:List Int}:l.take (oc l).length=l:=by rw [qb,List.take_of_length_le (Nat.le_refl _)]
theorem yY {l:List Int} {k:Nat} {x:Int} (h:l[k]? =some x):l.take (k+1)=l.take k++[x]:=by
 rw [List.take_add_one,h]; rfl
def lM (l:List Int):List Int:=l.mergeSort fun a b=>decide (a≤b)
theorem po {l:List Int}:(lM l).Perm l:=List.mergeSort_perm _ _
theorem vi {l:List Int}:(lM l).Pairwise (· ≤ ·):=by
 have:=List.pairwise_mergeSort (le:=fun (a b:Int)=>decide (a≤b)) (fun a b c A B=>by simp at A B ⊢; omega) (fun a b=>by simp; omega) l
 exact this.imp fun h=>by simpa using h
@[simp] theorem uK {l:List Int}:(lM l).length=l.length:=po.length_eq
theorem wS {l m:List Int} (h1:m.Perm l) (h2:m.Pairwise (· ≤ ·)):m=lM l:=tv (h1.trans po.symm) h2 vi
end
section
open Go.RowKit
def sC (s:bj):List Value:=[vS s.a s.n s.c]
theorem Bs: ∀ s,(sC s).length=1:=fun s=>rfl
theorem JN (l:List bj): ∀ v∈(l.map sC).flatten,v.oneCell'=true:=lj (fun s=>rfl) l
def CC (l:List ab) (a:RA):bj:=⟨a.1,l.length,a.2⟩
def FZ (l:List ab) (a:RA):List Value:=[vS a.1 l.length a.2]
def GI (l:List ab) (a:RA):List au:=[rd a.1 l.length 2 (l.map ab.cells)]
def FV (l:List ab) (a:RA):List au:=[own a.1 a.2 DI 2 (l.map ab.cells)]
theorem BA {ls:List (List ab)} {az:List RA}:(List.zipWith CC ls az).map sC=List.zipWith FZ ls az:=by
 rw [List.map_zipWith]; rfl
theorem AA: ∀ (m:List ab) (a:RA) (w:World),(∀ X∈FV m a,X.holds w)→ ∀ X∈GI m a,X.holds w:=fun m a w h X hX=>by
 simp only [GI,bW] at hX
 subst hX
 have:=oU (h _ (bW.2 rfl))
 simpa using this
theorem Jn {l:List (List ab)} {bz:List RA}:(bx (aX FV l bz)).wr=true:=by
 show (aX FV l bz).all (·.wr)=true
 rw [cm]
 intro X hX
 obtain ⟨k,m,a,_,_,h⟩:=iw hX
 simp only [FV,bW] at h
 subst h; rfl
theorem rN {ls:List (List ab)} {az:List RA} (h:az.length=ls.length):(List.zipWith FZ ls az).length=ls.length:=by simp [h]
noncomputable def gI (r:eJ) (i:Nat):List (List ab):=(r.ax.take i).map fun h=>h.map (fr r.ak)
noncomputable def dW (r:eJ):List (List ab):=gI r r.ax.length
section
variable {r:eJ} {i:Nat} {h:List aq} {tz:List RA} {a:RA}
theorem qT (hh:r.ax[i]? =some h):gI r (i+1)=gI r i++[h.map (fr r.ak)]:=by unfold gI; rw [List.take_add_one,hh,List.map_append]; rfl
theorem k9 (hi:i≤r.ax.length):(gI r i).length=i:=by unfold gI; rw [List.length_map,List.length_take]; omega
theorem jg:(dW r).length=r.ax.length:=k9 (Nat.le_refl _)
theorem ym (hh:r.ax[i]? =some h):(dW r)[i]? =some (h.map (fr r.ak)):=by
 unfold dW gI
 rw [List.take_length,fT,hh]; rfl
theorem tU {m:List ab} (hh:r.ax[i]? =some h) (hm:(dW r)[i]? =some m):m=h.map (fr r.ak):=by
 rw [ym hh] at hm
 exact (Option.some.inj hm).symm
theorem x2 (hh:r.ax[i]? =some h) (hl:tz.length=i):List.zipWith CC (gI r (i+1)) (tz++[a])=List.zipWith CC (gI r i) tz++[CC (h.map (fr r.ak)) a]:=by
 have hi:=(bg.1 hh).1
 rw [qT hh,List.zipWith_append (by rw [k9 om,hl])]
 rfl
theorem DK (hh:r.ax[i]? =some h) (hl:tz.length=i):aX FV (gI r i) tz++[own a.1 a.2 DI 2 ((h.map (fr r.ak)).map ab.cells)]=aX FV (gI r (i+1)) (tz++[a]):=by
 have hi:=(bg.1 hh).1
 rw [qT hh,kf (by rw [k9 om,hl])]
 simp [aX,FV]
end
theorem uG {lo hi:Int} {l:List Int}:l_ lo hi l=true↔ ∀ x∈l,lo≤x∧x≤hi:=by
 unfold l_
 rw [Bool.not_eq_true',List.any_eq_false]
 constructor
 ·intro h x hx; have:=h x hx; simp only [decide_eq_true_eq] at this; omega
 ·intro h x hx; have:=h x hx; simp only [decide_eq_true_eq]; omega
abbrev Ku (n:Nat):List Int:=(List.range n).map fun (k:Nat)=>(k:Int)
theorem zh (n:Nat):(Ku n).Pairwise (· ≤ ·):=by
 unfold Ku
 rw [List.pairwise_map]
 exact List.pairwise_lt_range.imp fun h=>by omega
theorem xT {l:List Int} {n:Nat} (h:l.Perm (Ku n)):lM l=Ku n:=(wS h.symm (zh n)).symm
theorem Bz {l:List Int} {n:Nat} (hl:l.length=n) (h: ∀ j,j<n→ ∀ x,(lM l)[j]? =some x→x=(j:Int)):l.Perm (Ku n):=by
 have e:lM l=Ku n:=by
  apply List.ext_getElem
  ·simp [hl]
  ·intro j A B
   have C:j<n:=by simpa using B
   have:=h j C _ (eP A)
   simpa using this
 rw [← e]; exact po.symm
def oG (r:eJ) (i:Nat):Prop:= ∀ j,j<i→(∀ x,(lM r.b_)[j]? =some x→x=(j:Int))∧ ∀ x y,r.aR[j]? =some x→0<j→r.aR[j-1]? =some y→y<x
def yP (r:eJ) (h:List aq):Prop:=h.length=r.aR.length∧ ∀ d∈h,hZ r.ak d
def jY (r:eJ) (i:Nat):Prop:= ∀ (j:Nat) h,j<i→r.ax[j]? =some h→yP r h
def ou (l:bk) (h:List aq) (k:Nat):Prop:= ∀ (j:Nat) d,j<k→h[j]? =some d→hZ l d
section
variable {r:eJ} {i:Nat}
theorem yr:oG r 0:=fun j hj=>absurd hj (Nat.not_lt_zero _)
theorem sv {x:Int} (h:oG r i) (hd:(lM r.b_)[i]? =some x) (e:x=(i:Int)) (hs: ∀ x y,r.aR[i]? =some x→0<i→r.aR[i-1]? =some y→y<x):oG r (i+1):=fun j hj=>by
 rcases Nat.lt_or_ge j i with q|q
 ·exact h j q
 ·obtain rfl:j=i:=by omega
  exact ⟨fun y hy=>by rw [hd] at hy; cases hy; exact e,hs⟩
theorem ze:jY r 0:=fun j h hj=>absurd hj (Nat.not_lt_zero _)
theorem yi {h:List aq} (hh:jY r i) (hx:r.ax[i]? =some h) (ho:yP r h):jY r (i+1):=fun j y hj hy=>by
 rcases Nat.lt_or_ge j i with q|q
 ·exact hh j y q hy
 ·obtain rfl:j=i:=by omega
  rw [hx] at hy; cases hy; exact ho
theorem xK {l:bk} {h:List aq}:ou l h 0:=fun j d hj=>absurd hj (Nat.not_lt_zero _)
theorem wg {l:bk} {h:List aq} {d:aq} (ht:ou l h i) (hx:h[i]? =some d) (ho:hZ l d):ou l h (i+1):=fun j y hj hy=>by
 rcases Nat.lt_or_ge j i with q|q
 ·exact ht j y q hy
 ·obtain rfl:j=i:=by omega
  rw [hx] at hy; cases hy; exact ho
theorem Hp {h:List aq} (hl:h.length=r.aR.length) (ht:ou r.ak h i) (hi:h.length≤i):yP r h:=⟨hl,fun d hd=>by
 obtain ⟨j,hj⟩:=List.getElem?_of_mem hd
 exact ht j d (by have:=(bg.1 hj).1; omega) hj⟩
theorem Fc {n:Nat} (hn:n=r.aR.length) (h1:1≤(r.aR.length:Int)∧(r.aR.length:Int)≤5) (h2:r.b_.length=r.aR.length) (h3:0≤r.ks∧r.ks≤5) (h4:1≤(r.ax.length:Int)∧(r.ax.length:Int)≤3) (h5:l_ 0 9999 r.aR=true)
 (h6:oG r n) (h7:jY r i) (hi:r.ax.length≤i):eN r:=by
 subst hn
 refine ⟨h1,h3,h4,fun k x hx=>⟨uG.1 h5 x (aP hx),fun y hk hy=>?_⟩,Bz h2 fun j hj=>(h6 j hj).1,fun h hh=>?_⟩
 ·exact (h6 k (bg.1 hx).1).2 x y hx hk hy
 ·obtain ⟨j,hj⟩:=List.getElem?_of_mem hh
  exact h7 j h (by have:=(bg.1 hj).1; omega) hj
theorem eN.ER (h:eN r):r.b_.length=r.aR.length:=by have:=h.draw.length_eq; simpa using this
theorem eN.ins (h:eN r):l_ 0 9999 r.aR=true:=uG.2 fun x hx=>by
 obtain ⟨j,hj⟩:=List.getElem?_of_mem hx
 exact (h.ids j x hj).1
theorem eN.drawn (h:eN r) {x:Int} (hx:(lM r.b_)[i]? =some x):x=(i:Int):=by
 rw [xT h.draw] at hx
 have hi:=(bg.1 hx).1
 simp at hi
 rw [fT,List.getElem?_range hi] at hx
 exact (Option.some.inj hx).symm
theorem eN.GV (h:eN r):jY r i:=fun j x _ hx=>h.iP x (aP hx)
theorem BY (h: ¬ dR r.ak=0):eL r=dR r.ak:=if_neg h
theorem ju (h:dR r.ak=0) (hn: ¬ eN r):eL r=60:=by unfold eL; rw [if_pos h,if_neg hn]
theorem FC (h:dR r.ak=0) (hn:eN r):eL r=0:=by unfold eL; rw [if_pos h,if_pos hn]
theorem dx (h:eL r=0):dR r.ak=0∧eN r:=by
 unfold eL at h
 split at h
 ·split at h
  ·exact ⟨asm,asm⟩
  ·cases h
 ·exact absurd h asm
end
section
variable {r:eJ} {k i n h:Nat} {s:ab} {l:bk} {hs:List (List aq)}
theorem Ab: ∀ {k:Nat} {s:ab},jY r k→k≤r.ax.length→il r.ak r.ax i k=some s→0≤s.Lo∧s.Lo≤s.Hi∧s.Hi≤8640000*(k:Int)
 |0,s,_,_,h=>by
  simp only [il,Option.some.injEq] at h
  subst h; simp
 |k+1,s,hh,hk,h=>by
  unfold il at h
  split at h
  ·rename_i u d hu hd
   split at h
   ·cases h
   ·cases h
    have A:=Ab (fun j x hj hx=>hh j x om hx) om hu
    obtain ⟨x,hx,hd⟩:=Option.bind_eq_some_iff.1 hd
    have B:=zQ ((hh k x om hx).2 d (aP hd))
    simp only
    push_cast
    omega
  ·cases h
theorem HI:c3 (dg l hs i 0 0) (i:Int) ⟨0,0⟩=dg l hs (i+1) 0 0:=by
 have A:(dg l hs i 0 0).lookup (i:Int)=none:=by rw [r6,if_neg (Nat.lt_irrefl i)]
 unfold c3
 rw [A]
 simp only [Option.isSome_none,Bool.false_eq_true,if_false]
 unfold dg
 rw [List.range_succ,List.filterMap_append]
 simp [il]
theorem CF (hi:i<n):(dg l hs n h i).lookup (i:Int)=il l hs i h:=by rw [r6,if_pos hi,if_neg (Nat.lt_irrefl i)]
theorem Dw {α β:Type} {f:α→β} {tr:List β} {ht:List α} {x:β} {d:α} (e:tr=ht.map f) (hx:tr[i]? =some x) (hd:ht[i]? =some d):x=f d:=by
 rw [e,fT,hd] at hx
 exact (Option.some.inj hx).symm
theorem G0:dg r.ak r.ax r.aR.length h 0=wq r h:=xI
end
end
section
def yJ (r:eJ) (i:Int):Prop:=0≤i∧i≤(r.aR.length:Int)-1
instance (r:eJ) (i:Int):Decidable (yJ r i):=by unfold yJ; infer_instance
noncomputable def ko (r:eJ) (h i:Int):Int:=if eL r=0 then (if (0≤h∧h≤(r.ax.length:Int)-1)∧yJ r i then (if ((r.ax[h.toNat]?).bind (·[i.toNat]?)).any (·.Out)=true then 6 else 0) else 2) else eL r
noncomputable def iJ (r:eJ) (h i:Int):ab:=if ko r h i=0 then ((((r.ax[h.toNat]?).bind (·[i.toNat]?)).map (fr r.ak)).getD dT) else dT
section
variable {r:eJ} {i a b:Int}
end
end
section
def lh (d:aq):Prop:=d.Out=false∧d.cZ=false
instance (d:aq):Decidable (lh d):=by unfold lh; infer_instance
def rD (l:bk) (f:aI):Prop:=(1≤f.Kind∧f.Kind≤3)∧(0≤f.ke∧f.ke≤f.To∧f.To≤86400000)∧0≤f.gh∧f.gh≤(if f.Kind=1 then 0 else l.cj)
instance (l:bk) (f:aI):Decidable (rD l f):=by unfold rD; infer_instance
/-- the descent that a protest is of -/
def nm (j:cn) (p:aV):Option aq:=(j.Race.ax[p.kc.toNat]?).bind (·[p.jt.toNat]?)
structure qN (j:cn) (i:Nat) (p:aV):Prop where
 id:0≤p.Id∧p.Id≤9999
 up: ∀ q,0<i→j.aD[i-1]? =some q→q.Id<p.Id
 AP:yJ j.Race p.jt
 iP:0≤p.kc∧p.kc≤(j.Race.ax.length:Int)-1
 fault:0≤p.jn∧p.jn≤(j.aC.length:Int)-1
 qf: ∃ d,nm j p=some d∧lh d∧d.ba.Start≤p.At∧p.At≤86400000
structure nG (j:cn):Prop where
 nf:(j.aC.length:Int)≤5
 fault: ∀ f∈j.aC,rD j.Race.ak f
 min_:0≤j.gR∧j.gR≤60
 Ks:0≤j.Cu∧j.Cu≤100000
 np:(j.aD.length:Int)≤8
 GG: ∀ (i:Nat) p,j.aD[i]? =some p→qN j i p
noncomputable instance (j:cn):Decidable (nG j):=Classical.propDecidable _
noncomputable def cH (j:cn):Int:=if eL j.Race=0 then (if nG j then 0 else 70) else eL j.Race
theorem ux {j:cn} (h: ¬ eL j.Race=0):cH j=eL j.Race:=if_neg h
theorem hH {j:cn} (h:eL j.Race=0) (hn: ¬ nG j):cH j=70:=by unfold cH; rw [if_pos h,if_neg hn]
theorem xL {j:cn} (h:eL j.Race=0) (hn:nG j):cH j=0:=by unfold cH; rw [if_pos h,if_pos hn]
theorem dJ {j:cn} (h:cH j=0):eL j.Race=0∧nG j:=by
 unfold cH at h
 split at h
 ·split at h
  ·exact ⟨asm,asm⟩
  ·cases h
 ·rename_i q; exact absurd h q
structure tL where
 Lo:Int
 Hi:Int
 each:Bool
 never:Bool
/-- whether it passed the beam in each truth -/
noncomputable def pP (l:bk) (r:cM) (b:Int):Bool:=(fp l r).all fun n=>decide (b<n)
noncomputable def bY (l:bk) (r:cM) (b:Int):tL:=
 if b<0 then ⟨r.Start,r.Start,true,false⟩
 else if dp l r b=0 then ⟨(c4 l r b).Lo,if pP l r b=true then (c4 l r b).Hi else 86400000,pP l r b,false⟩
 else ⟨86400000,86400000,false,true⟩
def ur (f:aI):Int:=if f.Kind=1 then-1 else if f.Kind=2 then f.gh-1 else f.gh
def Kq (l:bk) (f:aI):Int:=if f.Kind=1 then l.cj else f.gh
def pJ (f:aI) (a b:tL):Prop:=if f.Kind=3 then f.ke≤a.Lo∧a.Hi≤f.To else a.Hi≤f.To∧f.ke≤b.Lo
instance (f:aI) (a b:tL):Decidable (pJ f a b):=by unfold pJ; infer_instance
def kP (f:aI) (a b:tL):Int:=if a.never=true∨f.To<a.Lo∨b.Hi<f.ke then 0 else if a.each=true∧pJ f a b then 2 else 1
noncomputable def eQ (l:bk) (f:aI) (d:aq):Int:=if lh d then kP f (bY l d.ba (ur f)) (bY l d.ba (Kq l f)) else 0
theorem oi {l:bk} {f:aI} {d:aq} (h: ¬ lh d):eQ l f d=0:=if_neg h
def jQ (P:Nat→Bool) (n:Nat):List Int:=((List.range n).filter P).map fun (i:Nat)=>(i:Int)
section
variable {P:Nat→Bool} {n q:Nat} {x:Int}
theorem rW (h:P n=true):jQ P (n+1)=jQ P n++[(n:Int)]:=by unfold jQ; rw [List.range_succ,List.filter_append,List.map_append]; simp [h]
theorem oN (h:P n=false):jQ P (n+1)=jQ P n:=by unfold jQ; rw [List.range_succ,List.filter_append,List.map_append]; simp [h]
theorem mV:(jQ P n).length≤n:=by unfold jQ; rw [List.length_map]; exact Nat.le_trans (List.length_filter_le _ _) (by rw [List.length_range]; exact Nat.le_refl _)
theorem zq:x∈jQ P n↔ ∃ i:Nat,i<n∧x=(i:Int)∧P i=true:=by
 unfold jQ
 simp only [cp,List.mem_filter,List.mem_range]
 constructor
 ·rintro ⟨i,⟨A,B⟩,rfl⟩; exact ⟨i,A,rfl,B⟩
 ·rintro ⟨i,A,rfl,B⟩; exact ⟨i,⟨A,B⟩,rfl⟩
end
noncomputable def jN (j:cn) (p:aV):Int:=match nm j p with
 |some d=>if p.At≤(bY j.Race.ak d.ba j.Race.ak.cj).Lo+60000*j.gR then 0 else if p.At≤(bY j.Race.ak d.ba j.Race.ak.cj).Hi+60000*j.gR then 1 else 2
 |none=>2
noncomputable def fV (j:cn) (p:aV):Bool:=match nm j p,j.aC[p.jn.toNat]? with
 |some d,some f=>decide (jN j p≠2)&&decide (eQ j.Race.ak f d≠0)
 |_,_=>false
/-- which protests are granted, so far -/
noncomputable def pT (j:cn) (n:Nat):List Int:=jQ (fun i=>(j.aD[i]?).any (fV j)) n
noncomputable def gd (j:cn):List Int:=pT j j.aD.length
theorem pf {j:cn} {n:Nat} {x:Int}:x∈pT j n↔ ∃ i:Nat,i<n∧x=(i:Int)∧ ∃ p,j.aD[i]? =some p∧fV j p=true:=by
 unfold pT
 rw [zq]
 refine exists_congr fun i=>and_congr Iff.rfl (and_congr Iff.rfl ?_)
 cases h:j.aD[i]? with
 |none=>simp
 |some p=>simp
/-- by faults of which something is so -/
def Dn (l:bk) (F:aI→Prop) (fs:List aI) (d:aq):Prop:= ∃ f∈fs,F f∧ ¬ eQ l f d=0
noncomputable def sL (l:bk) (F:aI→Prop) (fs:List aI) (h:List aq) (n:Nat):List Int:=jQ (fun s=>(h[s]?).any fun d=> @decide (Dn l F fs d) (Classical.propDecidable _)) n
noncomputable def e5 (j:cn) (F:aI→Prop):List (List Int):=j.Race.ax.map fun h=>sL j.Race.ak F j.aC h h.length
/-- about which a protest is granted -/
def lK (j:cn) (f:aI):Prop:= ∃ (i:Nat) (p:aV),j.aD[i]? =some p∧fV j p=true∧j.aC[p.jn.toNat]? =some f
noncomputable def eg (j:cn):List (List Int):=e5 j (lK j)
noncomputable def Ed (j:cn) (s:Int) (n:Nat):Nat:=(List.range n).countP fun i=>(j.aD[i]?).any fun p=>decide (p.jt=s)&& !fV j p
noncomputable def y_ (j:cn) (s:Int):Int:= -(Ed j s j.aD.length:Int)*j.Cu
noncomputable def uH (j:cn):Int:=((gd j).length:Int)*j.Cu
noncomputable def zO (j:cn):Int:=(j.aD.length:Int)*j.Cu-uH j
end
section
abbrev IJ:=List (Int×Bool)
section
variable {m:IJ} {P Q:Int→Prop} {k:Int}
end
section
variable {m left:yS} {i n x:Int} {y:ab}
end
section
variable {m:yS} {i:Int} {own:ab} {ys:List Int} {nev ranks:IJ} {n a b:Int}
end
section
variable {nw left rk:IJ} {N R:Int→Prop} {u:Int} {v:Bool}
end
section
variable {m left:yS} {i x n:Int} {own y:ab} {ys:List Int}
end
section
variable {r:eJ} {h i:Int} {ht:List aq} {d:aq}
theorem mw (he: ¬ eL r=0):ko r h i=eL r:=if_neg he
theorem l6 (he:eL r=0) (hi: ¬ ((0≤h∧h≤(r.ax.length:Int)-1)∧0≤i∧i≤(r.aR.length:Int)-1)):ko r h i=2:=by
 unfold ko; rw [if_pos he,if_neg (show ¬ ((0≤h∧h≤(r.ax.length:Int)-1)∧yJ r i) from hi)]
theorem w4 (he:eL r=0) (hi:(0≤h∧h≤(r.ax.length:Int)-1)∧0≤i∧i≤(r.aR.length:Int)-1) (h1:r.ax[h.toNat]? =some ht) (h2:ht[i.toNat]? =some d):ko r h i=if d.Out=true then 6 else 0:=by
 unfold ko; rw [if_pos he,if_pos (show (0≤h∧h≤(r.ax.length:Int)-1)∧yJ r i from hi),h1]
 simp [h2]
theorem k6 (he:eL r=0) (hi:(0≤h∧h≤(r.ax.length:Int)-1)∧0≤i∧i≤(r.aR.length:Int)-1) (h1:r.ax[h.toNat]? =some ht) (h2:ht[i.toNat]? =some d) (ho:d.Out=true):ko r h i=6:=by rw [w4 he hi h1 h2,if_pos ho]
theorem nK (he:eL r=0) (hi:(0≤h∧h≤(r.ax.length:Int)-1)∧0≤i∧i≤(r.aR.length:Int)-1) (h1:r.ax[h.toNat]? =some ht) (h2:ht[i.toNat]? =some d) (ho:d.Out=false):ko r h i=0∧iJ r h i=fr r.ak d:=by
 have e:ko r h i=0:=by rw [w4 he hi h1 h2,if_neg (by rw [ho]; decide)]
 refine ⟨e,?_⟩
 unfold iJ
 rw [if_pos e,h1]
 simp [h2]
end
end
section
open Go.RowKit
/-- a map, or nil -/
def oC (o:Option Nat):List Value:=[Value.map o]
theorem vk {α:Type}: ∀ {ms:List α} {asl:List Nat},ms.length=asl.length→List.zipWith eu ms asl=(asl.map some).map oC
 |[],[],_=>rfl
 |[],_::_,h=>by simp at h
 |_::_,[],h=>by simp at h
 |x::ms,y::asl,h=>by simp only [List.zipWith_cons_cons,List.map_cons,vk (ms:=ms) (asl:=asl) (by simpa using h)]; rfl
/-- what stands for all but one -/
def eF {M A:Type} (f:M→A→List au) (ms:List M) (asl:List A) (k:Nat):List au:=aX f (ms.take k) (asl.take k)++aX f (ms.drop (k+1)) (asl.drop (k+1))
theorem jT {M A:Type} {f:M→A→List au}: ∀ {ms:List M} {asl:List A} {k:Nat} {m:M} {a:A},ms[k]? =some m→asl[k]? =some a→(aX f ms asl).Perm (f m a++eF f ms asl k)
 |[],_,k,m,a,h,_=>by simp at h
 |_::_,[],k,m,a,_,h=>by simp at h
 |x::ms,y::asl,0,m,a,h,h2=>by
  simp at h h2; subst h h2
  simp [eF,aX]
 |x::ms,y::asl,k+1,m,a,h,h2=>by
  have ih:=jT (f:=f) (ms:=ms) (asl:=asl) (k:=k) (by simpa using h) (by simpa using h2)
  show (f x y++aX f ms asl).Perm (f m a++eF f (x::ms) (y::asl) (k+1))
  have e:eF f (x::ms) (y::asl) (k+1)=f x y++eF f ms asl k:=by simp [eF,aX,List.append_assoc]
  rw [e]
  refine (ih.append_left (f x y)).trans ?_
  rw [← List.append_assoc,← List.append_assoc]
  exact List.perm_append_comm.append_right _
theorem Bi {M A:Type} {f:M→A→List au} {ms:List M} {asl:List A} {k:Nat} {m':M}:eF f (ms.set k m') asl k=eF f ms asl k:=by
 unfold eF
 rw [List.take_set_of_le (Nat.le_refl k),List.drop_set_of_lt (Nat.lt_succ_self k)]
theorem jX {S:BS} {w0 w:World} {C X Y:List au} (hp:X.Perm Y) (h:St S w0 (bx X::C) w):St S w0 (bx Y::C) w:=by
 have A:St S w0 (X++C) w:=h.iA
 exact (A.perm (hp.append_right C)).tied
theorem St.out {M A:Type} {f:M→A→List au} {S:BS} {w0 w:World} {C:List au} {ms:List M} {asl:List A} {k:Nat} {m:M} {a:A} {X:au} (hm:ms[k]? =some m) (ha:asl[k]? =some a) (hf:f m a=[X]) (h:St S w0 (bx (aX f ms asl)::C) w):St S w0 (X::bx (eF f ms asl k)::C) w:=by
 have B:=(jX (jT hm ha) h).iA
 rw [hf] at B
 have D:St S w0 (eF f ms asl k++(X::C)) w:=B.perm (List.perm_middle (a:=X) (l₁:=eF f ms asl k) (l₂:=C)).symm
 exact D.tied.perm (List.Perm.swap _ _ _)
theorem St.back {M A:Type} {f:M→A→List au} {S:BS} {w0 w:World} {C:List au} {ms:List M} {asl:List A} {k:Nat} {m':M} {a:A} {X:au} (hk:k<ms.length) (ha:asl[k]? =some a) (hf:f m' a=[X]) (h:St S w0 (X::bx (eF f ms asl k)::C) w):St S w0 (bx (aX f (ms.set k m') asl)::C) w:=by
 have B:St S w0 (bx (eF f ms asl k)::X::C) w:=h.perm (List.Perm.swap _ _ _)
 have D:=B.iA
 have E:St S w0 ((f m' a++eF f (ms.set k m') asl k)++C) w:=by
  rw [hf,Bi]
  exact D.perm (List.perm_middle (a:=X) (l₁:=eF f ms asl k) (l₂:=C))
 exact jX (jT (List.getElem?_set_self hk) ha).symm E.tied
section
variable {E:dK} {ops:Array Oper} {Q:cv} {rest:List Oper} {D:List Deferred} {L:List (Nat×Value)} {C C1:List au}
variable {M A:Type} {f:M→A→List au} {ms:List M} {asl:List A} {k:Nat} {m:M} {a:A} {X:au}
theorem uc {c:Code} (i:Nat) (hm:ms[k]? =some m) (ha:asl[k]? =some a) (hf:f m a=[X]) (hn:decide (i::(List.range C.length).filter fun k=>k != i).Nodup=true) (hC:jq C (i::(List.range C.length).filter fun k=>k != i)=bx (aX f ms asl)::C1)
 (h:WJ E c Q D L (X::bx (eF f ms asl k)::C1)):WJ E c Q D L C:=fun a w hf' hs=>h a w hf' (St.out hm ha hf (St.jq _ hn hC hs))
theorem vR {K:Act→World→Prop} (i j:Nat) (hk:k<ms.length) (ha:asl[k]? =some a) (hf:f m a=[X]) (hn:decide (j::i::(List.range C.length).filter fun k=>k != i&&k != j).Nodup=true) (hC:jq C (j::i::(List.range C.length).filter fun k=>k != i&&k != j)=X::bx (eF f ms asl k)::C1)
 (h:KJ E K D L (bx (aX f (ms.set k m) asl)::C1)):KJ E K D L C:=fun a w hf' hs=>h a w hf' (St.back hk ha hf (St.jq _ hn hC hs))
end
end
section
open Go.RowKit
def qQ (l:List Int) (a:RA):List Value:=[vS a.1 l.length a.2]
def Jf (l:List Int) (a:RA):List au:=[rd a.1 l.length 1 (l.map iC)]
def yX (l:List Int) (a:RA):List au:=[own a.1 a.2 H9 1 (l.map iC)]
theorem EV: ∀ (m:List Int) (a:RA) (w:World),(∀ X∈yX m a,X.holds w)→ ∀ X∈Jf m a,X.holds w:=fun m a w h X hX=>by
 simp only [Jf,bW] at hX
 subst hX
 have:=oU (h _ (bW.2 rfl))
 simpa using this
theorem nQ {l:List (List Int)} {bz:List RA}:(bx (aX yX l bz)).wr=true:=by
 show (aX yX l bz).all (·.wr)=true
 rw [cm]
 intro X hX
 obtain ⟨k,m,a,_,_,h⟩:=iw hX
 simp only [yX,bW] at h
 subst h; rfl
theorem pA {ls:List (List Int)} {az:List RA} (h:az.length=ls.length):(List.zipWith qQ ls az).length=ls.length:=by simp [h]
theorem G5 (l:List (List Int)) (az:List RA): ∀ v∈(List.zipWith qQ l az).flatten,v.oneCell'=true:=by
 induction l generalizing az with
 |nil=>intro v hv; simp at hv
 |cons x l ih=>
  cases az with
  |nil=>intro v hv; simp at hv
  |cons a az=>
   intro v hv
   rw [List.zipWith_cons_cons,List.flatten_cons,gn] at hv
   rcases hv with hv|hv
   ·simp [qQ] at hv; subst hv; rfl
   ·exact ih az v hv
section
variable {M A:Type} {f:M→A→List au} {ms:List M} {asl:List A} {k:Nat} {m:M} {a:A} {X:au}
theorem rU:eF f (ms.set k m) (asl.set k a) k=eF f ms asl k:=by
 unfold eF
 rw [List.take_set_of_le (Nat.le_refl k),List.drop_set_of_lt (Nat.lt_succ_self k),List.take_set_of_le (Nat.le_refl k),List.drop_set_of_lt (Nat.lt_succ_self k)]
theorem td {β:Type} {c:M→A→β}:(List.zipWith c ms asl).set k (c m a)=List.zipWith c (ms.set k m) (asl.set k a):=by
 apply List.ext_getElem?
 intro j
 rw [List.getElem?_set]
 by_cases e:k=j
 ·subst e
  rw [if_pos rfl,List.length_zipWith,List.getElem?_zipWith,List.getElem?_set,List.getElem?_set,if_pos rfl,if_pos rfl]
  by_cases B:k<ms.length
  ·by_cases C:k<asl.length
   ·rw [if_pos om,if_pos B,if_pos C]
   ·rw [if_neg om,if_pos B,if_neg C]
  ·rw [if_neg om,if_neg B]
 ·rw [if_neg e,List.getElem?_zipWith,List.getElem?_zipWith,List.getElem?_set_ne e,List.getElem?_set_ne e]
variable {E:dK} {ops:Array Oper} {Q:cv} {rest:List Oper} {D:List Deferred} {L:List (Nat×Value)} {C C1:List au}
abbrev B0 (C:List au) (i j:Nat):List Nat:=j::i::(List.range C.length).filter fun k=>k != i&&k != j
abbrev LG (C:List au) (i:Nat):List Nat:=i::(List.range C.length).filter fun k=>k != i
theorem Jg {Y Y':List au} (i j:Nat) (hn:decide (B0 C i j).Nodup=true) (hC:kg C (B0 C i j)=some (X::bx Y::C1)) (e:Y++[X]=Y') (h:RJ E ops Q rest D L (bx Y'::C1)):RJ E ops Q rest D L C:=fun a w hf hs=>h a w hf ((St.jq _ hn (iG hC) hs).tie e)
theorem FG {K:Act→World→Prop} {Y Y':List au} (i j:Nat) (hn:decide (B0 C i j).Nodup=true) (hC:kg C (B0 C i j)=some (X::bx Y::C1)) (e:Y++[X]=Y') (h:KJ E K D L (bx Y'::C1)):KJ E K D L C:=fun a w hf hs=>h a w hf ((St.jq _ hn (iG hC) hs).tie e)
end
theorem za {M A:Type} {f:M→A→List au} {ms:List M} {asl:List A} {m:M} {a:A} {X:au} (h:ms.length=asl.length) (hf:f m a=[X]):aX f ms asl++[X]=aX f (ms++[m]) (asl++[a]):=by
 rw [kf h]; simp [aX,hf]
theorem BP {M A β:Type} {f:M→A→β} {ms:List M} {asl:List A} {m:M} {a:A} (h:ms.length=asl.length):List.zipWith f ms asl++List.zipWith f [m] [a]=List.zipWith f (ms++[m]) (asl++[a]):=(List.zipWith_append h).symm
section
variable {f:Int→ab} {L:List Int} {G:List (List Int)} {g:List Int} {x last:Int} {i j:Nat}
end
end
section
open Go.RowKit
theorem zb (l:List aB) (az:List RA): ∀ v∈(List.zipWith aB.cells l az).flatten,v.oneCell'=true:=by
 induction l generalizing az with
 |nil=>intro v hv; simp at hv
 |cons x l ih=>
  cases az with
  |nil=>intro v hv; simp at hv
  |cons a az=>
   intro v hv
   rw [List.zipWith_cons_cons,List.flatten_cons,gn] at hv
   rcases hv with hv|hv
   ·simp [aB.cells,dV.cells] at hv
    rcases hv with rfl|rfl<;>rfl
   ·exact ih az v hv
theorem ew {l:List aB} {az:List RA} (h:az.length=l.length):(List.zipWith aB.cells l az).length=l.length:=by simp [h]
theorem mJ {l:List aB} {bz:List RA}:(bx (aX aB.owns l bz)).wr=true:=by
 show (aX aB.owns l bz).all (·.wr)=true
 rw [cm]
 intro X hX
 obtain ⟨k,m,a,_,_,h⟩:=iw hX
 simp only [aB.owns,bW] at h
 subst h; rfl
/-- what is known of new rows -/
def pS (l:List aB) (bz:List RA):Prop:= ∀ (k:Nat) m (a:RA),l[k]? =some m→bz[k]? =some a→m.bO.length≤a.2
theorem Du {l:List aB} {bz:List RA} {i:Nat} {x:aB} {nw:RA} (h:pS l bz) (hb:bz.length=i) (hx:l[i]? =some x) (hc:x.bO.length≤nw.2):pS l (bz++[nw]):=fun k m a hm ha=>by
 by_cases e:k<bz.length
 ·rw [List.getElem?_append_left e] at ha
  exact h k m a hm ha
 ·rw [List.getElem?_append_right om] at ha
  have hk:k-bz.length=0:=by
   rcases Nat.eq_zero_or_pos (k-bz.length) with A|A
   ·exact A
   ·rw [List.getElem?_eq_none (by simp; omega)] at ha; cases ha
  rw [hk] at ha
  simp at ha
  have:k=i:=by omega
  subst this
  rw [hx] at hm; cases hm
  subst ha; exact hc
theorem eY: ∀ (m:aB) (a:RA) (w:World),(∀ X∈aB.owns m a,X.holds w)→ ∀ X∈aB.gQ m a,X.holds w:=fun m a w h X hX=>by
 simp only [aB.gQ,bW] at hX
 subst hX
 have:=oU (h _ (bW.2 rfl))
 simpa using this
theorem eM.Ng {l:bk} {az bz:List RA} (h:eM l az) (hb:bz.length=l.ar.length) (hc:pS l.ar bz):eM l bz:=⟨h.vZ,h.side,h.v7,hb,h.vW,fun k m a hm ha=>⟨hc k m a hm ha,by
 obtain ⟨A,B⟩: ∃ A,az[k]? =some A:=⟨az[k]'(by rw [h.oL]; exact (bg.1 hm).1),eP _⟩
 exact (h.M0 k m A hm B).2⟩⟩
section
variable {E:dK} {ops:Array Oper} {Q:cv} {rest:List Oper} {D:List Deferred} {L:List (Nat×Value)} {C:List au}
end
end
end Go.Proofs.YtkaenmjhfajbkaaGreatDoor
