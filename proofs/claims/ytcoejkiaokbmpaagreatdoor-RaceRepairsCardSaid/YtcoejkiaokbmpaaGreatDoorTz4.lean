/-
 The statement raceRepairs_said, part 4 of 8: Short, Grow, Global, RunA, Tab, Run, Comp, Ret, LoopK, MapK, Watch, Passes, Keys, MapR, RangeG, Nest, WMaps, WBounds, PassG, Drop, Spot, First, Line, Wrap, Goes, OpenW, Wheres, LineR, Race, RaceS, Vals, RaceO, Ord, RaceV.
 Conditions: none.
-/
import Derived.Test.YtcoejkiaokbmpaaGreatDoorTz1
import Derived.Test.YtcoejkiaokbmpaaGreatDoorTz2
import Derived.Test.YtcoejkiaokbmpaaGreatDoorTz3
import Derived.Test.YtcoejkiaokbmpaaGreatDoorProg
import Derived.KernelRfl
import Derived.WideKeyRuns
namespace Go.Proofs.YtcoejkiaokbmpaaGreatDoor
set_option maxRecDepth 100000
set_option maxHeartbeats 4000000
set_option linter.unusedVariables false
section
open Go.RowKit
/-- an operation that hands v to its slot d -/
structure SE (E:eU) (ops:Array Oper) (o:Oper) (D:List Deferred) (L:List (Nat×Value)) (C:List aw) (v:Value) (d:Nat):Prop where
 h:SD E ops o D L C v
 o:o.dst=some d
 n:Nat.blt d E.n=true
theorem rS {E:eU} {ops:Array Oper} {Q:cY} {o:Oper} {rest:List Oper} {D:List Deferred} {L:List (Nat×Value)} {C:List aw} {v:Value} {d:Nat}
 (h:SE E ops o D L C v d) (k:RJ E ops Q rest D ((d,v)::L) C):RJ E ops Q (o::rest) D L C:=Sf h.h h.o h.n k
theorem dS {E:eU} {ops:Array Oper} {F:List (Nat×Value)→Prop} {o:Oper} {rest:List Oper} {D:List Deferred} {L:List (Nat×Value)} {C:List aw} {v:Value} {d:Nat}
 (h:SE E ops o D L C v d) (k:DJ E ops D C F rest ((d,v)::L)):DJ E ops D C F (o::rest) L:=Rf h.h h.o h.n k
theorem eS {E:eU} {ops:Array Oper} {D:List Deferred} {C' C1:List aw} {F:List (Nat×Value)→Prop} {bs:List Bool} {o:Oper} {l rest:List Oper} {L:List (Nat×Value)} {v:Value} {d:Nat}
 (hl:l=o::rest) (h:SE E ops o D L C' v d) (k:qe E ops D C' C1 F bs rest ((d,v)::L)):qe E ops D C' C1 F (false::bs) l L:=Rh h.h hl h.o h.n k
theorem fS {E:eU} {ops:Array Oper} {D:List Deferred} {C' C1:List aw} {F:List (Nat×Value)→Prop} {bs:List Bool} {o:Oper} {l rest:List Oper} {L:List (Nat×Value)} {v:Value} {d:Nat}
 (hl:l=o::rest) (h:SE E ops o D L C1 v d) (k:qe E ops D C' C1 F bs rest ((d,v)::L)):qe E ops D C' C1 F (true::bs) l L:=QM h.h hl h.o h.n k
def gB (n:Nat) (ops:Array Oper) (L:List (Nat×Value)) (d:Nat) (g:Option (Nat×Bool)):Bool:=jx ops L g&&Nat.blt d n
theorem Nu {n:Nat} {ops:Array Oper} {L:List (Nat×Value)} {d:Nat} {g:Option (Nat×Bool)} (h:gB n ops L d g=true):jx ops L g=true:=by
 unfold gB at h; rw [cQ] at h; exact h.1
theorem N3 {n:Nat} {ops:Array Oper} {L:List (Nat×Value)} {d:Nat} {g:Option (Nat×Bool)} (h:gB n ops L d g=true):Nat.blt d n=true:=by
 unfold gB at h; rw [cQ] at h; exact h.2
def vF (n:Nat) (ops:Array Oper) (L:List (Nat×Value)) (d:Nat) (g:Option (Nat×Bool)) (x:Operand):Option Value:=match gB n ops L d g with
 |true=>ev L x
 |false=>none
def bF (n:Nat) (ops:Array Oper) (L:List (Nat×Value)) (d:Nat) (g:Option (Nat×Bool)) (x y:Operand):Option (Value×Value):=match gB n ops L d g with
 |true=>match ev L x,ev L y with
  |some u,some v=>some (u,v)
  |_,_=>none
 |false=>none
def pF (n:Nat) (ops:Array Oper) (L:List (Nat×Value)) (d:Nat) (g:Option (Nat×Bool)) (c x y:Operand):Option Value:=match gB n ops L d g with
 |true=>match ev L c with
  |some (.bool true)=>ev L x
  |some (.bool false)=>ev L y
  |_=>none
 |false=>none
def xF (n:Nat) (ops:Array Oper) (L:List (Nat×Value)) (d:Nat) (g:Option (Nat×Bool)) (x:Operand) (i:Nat):Option Value:=match vF n ops L d g x with
 |some (.tuple vs)=>vs.toList[i]?
 |_=>none
def uF (n:Nat) (ops:Array Oper) (L:List (Nat×Value)) (d:Nat) (g:Option (Nat×Bool)) (xs ys:List Operand):Option (List Value×List Value):=match gB n ops L d g with
 |true=>match evs L xs,evs L ys with
  |some u,some v=>some (u,v)
  |_,_=>none
 |false=>none
def cF (n:Nat) (ops:Array Oper) (L:List (Nat×Value)) (d:Nat) (g:Option (Nat×Bool)) (fop:Operand) (xs:List Operand):Option (FuncId×List Value):=match gB n ops L d g with
 |true=>match ev L fop,evs L xs with
  |some (.func (.func f) fi ca),some vs=>some (f,fi.toList++vs++ca.toList)
  |_,_=>none
 |false=>none
theorem iI {n:Nat} {ops:Array Oper} {L:List (Nat×Value)} {d:Nat} {g:Option (Nat×Bool)} {x:Operand} {v:Value} (h:vF n ops L d g x=some v):jx ops L g=true∧Nat.blt d n=true∧ev L x=some v:=by
 unfold vF at h
 split at h
 ·rename_i hb; exact ⟨Nu hb,N3 hb,h⟩
 ·cases h
theorem se {n:Nat} {ops:Array Oper} {L:List (Nat×Value)} {d:Nat} {g:Option (Nat×Bool)} {x y:Operand} {u v:Value} (h:bF n ops L d g x y=some (u,v)):jx ops L g=true∧Nat.blt d n=true∧ev L x=some u∧ev L y=some v:=by
 unfold bF at h
 split at h
 ·rename_i hb
  split at h
  ·rename_i hx hy; cases h; exact ⟨Nu hb,N3 hb,hx,hy⟩
  ·cases h
 ·cases h
theorem OG {n:Nat} {ops:Array Oper} {L:List (Nat×Value)} {d:Nat} {g:Option (Nat×Bool)} {x y:List Operand} {u v:List Value} (h:uF n ops L d g x y=some (u,v)):jx ops L g=true∧Nat.blt d n=true∧evs L x=some u∧evs L y=some v:=by
 unfold uF at h
 split at h
 ·rename_i hb
  split at h
  ·rename_i hx hy; cases h; exact ⟨Nu hb,N3 hb,hx,hy⟩
  ·cases h
 ·cases h
section
variable {E:eU} {ops:Array Oper} {Q:cY} {rest:List Oper} {D:List Deferred} {L:List (Nat×Value)} {C:List aw}
variable {d:Nat} {ty:TypeId} {ps:String} {af:Array Edge} {g:Option (Nat×Bool)}
theorem SX {o:Oper} {v:Value} (h:SD E ops o D L C v) (ho:o.dst=some d) (hd:Nat.blt d E.n=true):SE E ops o D L C v d:=⟨h,ho,hd⟩
theorem MV {x:Operand} {v:Value} (h:vF E.n ops L d g x=some v):SE E ops ⟨some d,.move x,ty,ps,af,g⟩ D L C v d:=by
 obtain ⟨A,B,F⟩:=iI h; exact ⟨FE A F,rfl,B⟩
theorem AG {x:Operand} {v:Value} (h:vF E.n ops L d g x=some v):SE E ops ⟨some d,.assign x,ty,ps,af,g⟩ D L C v d:=by
 obtain ⟨A,B,F⟩:=iI h; exact ⟨zd A F,rfl,B⟩
theorem OX {op:Op} (h:(CE ops L g&&Nat.blt d E.n)=true):SE E ops ⟨some d,op,ty,ps,af,g⟩ D L C undef d:=by
 rw [cQ] at h; exact ⟨IS h.1,rfl,h.2⟩
theorem NT {xt:TypeId} {x:Operand} {b:Bool} (h:vF E.n ops L d g x=some (.bool b)):SE E ops ⟨some d,.unOp .not xt x,ty,ps,af,g⟩ D L C (.bool !b) d:=by
 obtain ⟨A,B,F⟩:=iI h; exact ⟨H8 A F,rfl,B⟩
theorem NG {xt:TypeId} {x:Operand} {n:Int} (h:vF E.n ops L d g x=some (.int .i64 n)) (hb:qA (-n)):SE E ops ⟨some d,.unOp .neg xt x,ty,ps,af,g⟩ D L C (.int .i64 (-n)) d:=by
 obtain ⟨A,B,F⟩:=iI h; exact ⟨Ol A F hb,rfl,B⟩
theorem PK {c x y:Operand} {v:Value} (h:pF E.n ops L d g c x y=some v):SE E ops ⟨some d,.pick c x y,ty,ps,af,g⟩ D L C v d:=by
 unfold pF at h
 split at h
 ·rename_i hb
  split at h
  ·rename_i hc; exact ⟨yI (Nu hb) hc h,rfl,N3 hb⟩
  ·rename_i hc; exact ⟨zt (Nu hb) hc h,rfl,N3 hb⟩
  ·cases h
 ·cases h
theorem EX {x:Operand} {i:Nat} {v:Value} (h:xF E.n ops L d g x i=some v):SE E ops ⟨some d,.extract x i,ty,ps,af,g⟩ D L C v d:=by
 unfold xF at h
 split at h
 ·rename_i vs hv
  obtain ⟨A,B,F⟩:=iI hv
  exact ⟨w4 (vs:=vs.toList) A (by simpa using F) h,U,B⟩
 ·cases h
theorem LN {x:Operand} {t e:TypeId} {A:OA} {n c:Nat} (h:vF E.n ops L d g x=some (.slice A n c)) (ht:E.P.underlying t=some (.slice e)):
 SE E ops ⟨some d,.call {callee:= .builtin .len,args:= #[x],argTypes:= #[t]},ty,ps,af,g⟩ D L C (.int .i64 n) d:=by
 obtain ⟨B,F,G⟩:=iI h; exact ⟨Jr B G ht,rfl,F⟩
theorem BI {op:BinOp} {xt yt:TypeId} {x y:Operand} {u v r:Value} (h:bF E.n ops L d g x y=some (u,v)) (hb:gj E.P op xt x y u v r):SE E ops ⟨some d,.binOp op xt x y yt,ty,ps,af,g⟩ D L C r d:=by
 obtain ⟨A,B,F,G⟩:=se h; exact ⟨cM A F G hb,rfl,B⟩
theorem MN {x y:Operand} {ts:Array TypeId} {a b:Int} {k:IntKind} (h:bF E.n ops L d g x y=some (.int k a,.int k b)):
 SE E ops ⟨some d,.call {callee:= .builtin .min,args:= #[x,y],argTypes:=ts},ty,ps,af,g⟩ D L C (.int k (min a b)) d:=by
 obtain ⟨A,B,F,G⟩:=se h; exact ⟨OK A F G,rfl,B⟩
theorem MX {x y:Operand} {ts:Array TypeId} {a b:Int} {k:IntKind} (h:bF E.n ops L d g x y=some (.int k a,.int k b)):
 SE E ops ⟨some d,.call {callee:= .builtin .max,args:= #[x,y],argTypes:=ts},ty,ps,af,g⟩ D L C (.int k (max a b)) d:=by
 obtain ⟨A,B,F,G⟩:=se h; exact ⟨Ow A F G,rfl,B⟩
theorem FA (o':Nat) {x:Operand} {b o s f k:Nat} (h:vF E.n ops L d g x=some (.pointer (some ⟨b,o,none⟩))) (hf:qP E.P s f=some k) (ho:o+k=o'):
 SE E ops ⟨some d,.fieldAddr s x f,ty,ps,af,g⟩ D L C (.pointer (some ⟨b,o',none⟩)) d:=by
 obtain ⟨A,B,F⟩:=iI h; exact ⟨N0 A F hf ho,rfl,B⟩
theorem nP (k':Nat) {x:Operand} {A:OA} {n sz:Nat} {es:List (List Value)} {k0 s f k:Nat} (h:vF E.n ops L d g x=some (.pointer (lP A k0))) (hR:gI C (rd A n sz es).holds) (hn:0<n*sz)
 (hf:qP E.P s f=some k) (ho:k0+k=k'):SE E ops ⟨some d,.fieldAddr s x f,ty,ps,af,g⟩ D L C (.pointer (lP A k')) d:=by
 obtain ⟨B,F,G⟩:=iI h; exact ⟨Jp B G hR hn hf ho,rfl,F⟩
theorem S5 (k':Nat) {x:Operand} {A:OA} {ad:Addr} {k0 s f k:Nat} (h:vF E.n ops L d g x=some (.pointer (lP A k0))) (hA:A=some ad)
 (hf:qP E.P s f=some k) (ho:k0+k=k'):SE E ops ⟨some d,.fieldAddr s x f,ty,ps,af,g⟩ D L C (.pointer (lP A k')) d:=by
 obtain ⟨B,F,G⟩:=iI h; exact ⟨KY B G hA hf ho,rfl,F⟩
theorem IA (k:Nat) {x ix:Operand} {A:OA} {n c sz e t:Nat} {es:List (List Value)} {j:Int} (h:bF E.n ops L d g x ix=some (.slice A n c,.int .i64 j)) (hR:gI C (rd A n sz es).holds)
 (ht:tE E.P t=some (e,sz)) (hz:0<sz) (hj:j=(k:Int)) (hk:k<n):SE E ops ⟨some d,.indexAddr t x ix,ty,ps,af,g⟩ D L C (.pointer (lP A (k*sz))) d:=by
 obtain ⟨B,F,G,H⟩:=se h; exact ⟨QA B G H hR ht hz hj hk,rfl,F⟩
theorem Us (k o':Nat) {x ix:Operand} {b o n c sz e t:Nat} {j:Int} (h:bF E.n ops L d g x ix=some (.slice (some ⟨b,o,none⟩) n c,.int .i64 j))
 (ht:tE E.P t=some (e,sz)) (hj:j=(k:Int)) (hk:k<n) (ho:o+k*sz=o'):SE E ops ⟨some d,.indexAddr t x ix,ty,ps,af,g⟩ D L C (.pointer (some ⟨b,o',none⟩)) d:=by
 obtain ⟨A,B,F,G⟩:=se h; exact ⟨Mo A F G ht hj hk ho,rfl,B⟩
/-- the whole of a block, a part of it, one cell -/
theorem LW (i:Nat) {x:Operand} {b t tt n:Nat} {cs:List Value} (h:vF E.n ops L d g x=some (.pointer (some ⟨b,0,none⟩))) (ht:tK E.P t=some (true,n)) (hC:C[i]? =some (cq b tt cs)) (hn:cs.length=n):
 SE E ops ⟨some d,.load t x,ty,ps,af,g⟩ D L C (.agg cs.toArray) d:=by
 obtain ⟨A,B,F⟩:=iI h; exact ⟨xo A F ht (pc i hC sm) hn,rfl,B⟩
theorem LP (vs:List Value) (i:Nat) {x:Operand} {b o t tt n:Nat} {cs:List Value} (h:vF E.n ops L d g x=some (.pointer (some ⟨b,o,none⟩))) (ht:tK E.P t=some (true,n)) (hC:C[i]? =some (cq b tt cs)) (hv:(cs.drop o).take vs.length=vs) (hn:vs.length=n):
 SE E ops ⟨some d,.load t x,ty,ps,af,g⟩ D L C (.agg vs.toArray) d:=by
 obtain ⟨A,B,F⟩:=iI h; exact ⟨xo A F ht (pc i hC hv) hn,rfl,B⟩
theorem Ue (vs:List Value) (i:Nat) {x:Operand} {b o t tt n:Nat} {cs:List Value} (h:vF E.n ops L d g x=some (.pointer (some ⟨b,o,none⟩))) (ht:tK E.P t=some (true,n)) (hC:C[i]? =some (cq b tt cs).ro) (hv:(cs.drop o).take vs.length=vs) (hn:vs.length=n):
 SE E ops ⟨some d,.load t x,ty,ps,af,g⟩ D L C (.agg vs.toArray) d:=by
 obtain ⟨A,B,F⟩:=iI h; exact ⟨xo A F ht (vp i hC hv) hn,rfl,B⟩
theorem L1 (v:Value) (i:Nat) {x:Operand} {b o t tt n:Nat} {cs:List Value} (h:vF E.n ops L d g x=some (.pointer (some ⟨b,o,none⟩))) (ht:tK E.P t=some (false,n)) (hC:C[i]? =some (cq b tt cs)) (hv:(cs.drop o).take 1=[v]):
 SE E ops ⟨some d,.load t x,ty,ps,af,g⟩ D L C v d:=by
 obtain ⟨A,B,F⟩:=iI h; exact ⟨uI A F ht (pc i hC hv),rfl,B⟩
theorem HG (v:Value) (i:Nat) {x:Operand} {b o t tt n:Nat} {cs:List Value} (h:vF E.n ops L d g x=some (.pointer (some ⟨b,o,none⟩))) (ht:tK E.P t=some (false,n)) (hC:C[i]? =some (cq b tt cs).ro) (hv:(cs.drop o).take 1=[v]):
 SE E ops ⟨some d,.load t x,ty,ps,af,g⟩ D L C v d:=by
 obtain ⟨A,B,F⟩:=iI h; exact ⟨uI A F ht (vp i hC hv),rfl,B⟩
theorem C9 (i:Nat) {x:Operand} {b t tt n:Nat} {v:Value} (h:vF E.n ops L d g x=some (.pointer (some ⟨b,0,none⟩))) (ht:tK E.P t=some (false,n)) (hC:C[i]? =some (cq b tt [v])):
 SE E ops ⟨some d,.load t x,ty,ps,af,g⟩ D L C v d:=by
 obtain ⟨A,B,F⟩:=iI h; exact ⟨uI A F ht (pc i hC rfl),rfl,B⟩
theorem SJ (i:Nat) {x:Operand} {b t tt n:Nat} {v:Value} (h:vF E.n ops L d g x=some (.pointer (some ⟨b,0,none⟩))) (ht:tK E.P t=some (false,n)) (hC:C[i]? =some (cq b tt [v]).ro):
 SE E ops ⟨some d,.load t x,ty,ps,af,g⟩ D L C v d:=by
 obtain ⟨A,B,F⟩:=iI h; exact ⟨uI A F ht (vp i hC rfl),rfl,B⟩
/-- what is read of a row -/
theorem fI (k o:Nat) (v:Value) {x:Operand} {A:OA} {t m n sz:Nat} {es:List (List Value)} {e:List Value} (h:vF E.n ops L d g x=some (.pointer (lP A m))) {nn:Nat} (ht:tK E.P t=some (false,nn)) (hR:gI C (rd A n sz es).holds) (he:es[k]? =some e) (hm:m=k*sz+o) (hz:0<sz) (hv:(e.drop o).take 1=[v]):
 SE E ops ⟨some d,.load t x,ty,ps,af,g⟩ D L C v d:=by
 obtain ⟨B,F,G⟩:=iI h; exact ⟨uI B G ht (Nx hR he hm hz hv),rfl,F⟩
theorem l4 (k o:Nat) (vs:List Value) {x:Operand} {A:OA} {t m n sz:Nat} {es:List (List Value)} {e:List Value} (h:vF E.n ops L d g x=some (.pointer (lP A m))) {nn:Nat} (ht:tK E.P t=some (true,nn)) (hR:gI C (rd A n sz es).holds) (he:es[k]? =some e) (hm:m=k*sz+o) (hz:0<sz) (hv:(e.drop o).take vs.length=vs) (hn:vs.length=nn):
 SE E ops ⟨some d,.load t x,ty,ps,af,g⟩ D L C (.agg vs.toArray) d:=by
 obtain ⟨B,F,G⟩:=iI h; exact ⟨xo B G ht (Nx hR he hm hz hv) hn,rfl,F⟩
theorem CL {fop:Operand} {xs:Array Operand} {ts:Array TypeId} {f:FuncId} {args:List Value} {Cp:List aw} {v:Value} (c:eA E.P f args Cp v) (hC:j9 C Cp) (h:cF E.n ops L d g fop xs.toList=some (f,args)):
 SE E ops ⟨some d,.call {callee:= .value fop,args:=xs,argTypes:=ts},ty,ps,af,g⟩ D L C v d:=by
 unfold cF at h
 split at h
 ·rename_i hb
  split at h
  ·rename_i hf hx; cases h; exact ⟨Fm (Nu hb) hf hx rfl c hC,rfl,N3 hb⟩
  ·cases h
 ·cases h
theorem FU {fn:Fn} {xs ys:Array Operand} {us vs:List Value} (h:uF E.n ops L d g xs.toList ys.toList=some (us,vs)):SE E ops ⟨some d,.makeFunc fn xs ys,ty,ps,af,g⟩ D L C (.func fn us.toArray vs.toArray) d:=by
 obtain ⟨A,B,F,G⟩:=OG h; exact ⟨LU A F G,rfl,B⟩
theorem cX {fop:Operand} {xs:Array Operand} {ts:Array TypeId} {f:FuncId} {args:List Value} {Cp:List aw} {α:Type} {V:α→Value} {p:α→Prop} {N:α→List aw} (c:lg E.P f args Cp V p N) (hC:j9 C Cp)
 (h:cF E.n ops L d g fop xs.toList=some (f,args)) (k: ∀ x,p x→RJ E ops Q rest D ((d,V x)::L) (N x++C)):
 RJ E ops Q (⟨some d,.call {callee:= .value fop,args:=xs,argTypes:=ts},ty,ps,af,g⟩::rest) D L C:=by
 unfold cF at h
 split at h
 ·rename_i hb
  split at h
  ·rename_i hf hx; cases h; exact Oi (Nu hb) hf hx rfl c hC (N3 hb) k
  ·cases h
 ·cases h
/-- a box of a struct, of one cell -/
theorem fm {t:TypeId} {x:Operand} {cs:List Value} (h:vF E.n ops L d g x=some (.agg cs.toArray)) (k: ∀ b,RJ E ops Q rest D ((d,.pointer (some ⟨b,0,none⟩))::L) (cq b t cs::C)):
 RJ E ops Q (⟨some d,.box t x,ty,ps,af,g⟩::rest) D L C:=by
 obtain ⟨A,B,F⟩:=iI h; exact NB A F rfl B k
theorem ux {t:TypeId} {x:Operand} {v:Value} (h:vF E.n ops L d g x=some v) (hv:v.cells.toList=[v]) (k: ∀ b,RJ E ops Q rest D ((d,.pointer (some ⟨b,0,none⟩))::L) (cq b t [v]::C)):
 RJ E ops Q (⟨some d,.box t x,ty,ps,af,g⟩::rest) D L C:=by
 obtain ⟨A,B,F⟩:=iI h; exact NB A F hv B k
theorem AL {t:TypeId} {cs:List Value} (h:gB E.n ops L d g=true) (hz:tZ E.P t=some cs) (k: ∀ b,RJ E ops Q rest D ((d,.pointer (some ⟨b,0,none⟩))::L) (cq b t cs::C)):
 RJ E ops Q (⟨some d,.alloc t,ty,ps,af,g⟩::rest) D L C:=Nh (Nu h) hz (N3 h) k
/-- a store into the block at the place i of the state -/
def sF (ops:Array Oper) (L:List (Nat×Value)) (g:Option (Nat×Bool)) (x y:Operand):Option (Value×Value):=match jx ops L g with
 |true=>match ev L x,ev L y with
  |some u,some v=>some (u,v)
  |_,_=>none
 |false=>none
theorem Da {ops:Array Oper} {L:List (Nat×Value)} {g:Option (Nat×Bool)} {x y:Operand} {u v:Value} (h:sF ops L g x y=some (u,v)):jx ops L g=true∧ev L x=some u∧ev L y=some v:=by
 unfold sF at h
 split at h
 ·rename_i hb
  split at h
  ·rename_i hx hy; cases h; exact ⟨hb,hx,hy⟩
  ·cases h
 ·cases h
theorem Nt {t n b o tt:Nat} {x y:Operand} {v:Value} {cs cs':List Value} {C':List aw} (i:Nat) (h:sF ops L g x y=some (.pointer (some ⟨b,o,none⟩),v)) (ht:(tK E.P t).map (·.2)=some n) (hC:C[i]? =some (cq b tt cs))
 (hk:(v.cells.toList.length==n&&v.cells.toList.all Value.oneCell'&&Nat.ble (o+n) cs.length)=true) (hcs:cs.take o++v.cells.toList++cs.drop (o+n)=cs') (hC':C.set i (cq b tt cs')=C') (k:RJ E ops Q rest D L C'):
 RJ E ops Q (⟨none,.store t x y,ty,ps,af,g⟩::rest) D L C:=by
 obtain ⟨A,B,F⟩:=Da h
 simp only [cQ,beq_iff_eq] at hk
 exact iB i A B F ht U hk.1.1 hk.1.2 hC hk.2 hcs hC' k
/-- a store of a whole block, by a struct, by one cell -/
theorem Lg {t n b tt:Nat} {x y:Operand} {cs cs':List Value} {C':List aw} (i:Nat) (h:sF ops L g x y=some (.pointer (some ⟨b,0,none⟩),.agg cs'.toArray)) (ht:(tK E.P t).map (·.2)=some n) (hC:C[i]? =some (cq b tt cs))
 (hk:(Nat.beq cs'.length n&&cs'.all Value.oneCell'&&Nat.beq n cs.length)=true) (hC':C.set i (cq b tt cs')=C') (k:RJ E ops Q rest D L C'):
 RJ E ops Q (⟨none,.store t x y,ty,ps,af,g⟩::rest) D L C:=by
 obtain ⟨AA,J,K⟩:=Da h
 simp only [cQ] at hk
 obtain ⟨⟨A,B⟩,F⟩:=hk
 have H:=Nat.eq_of_beq_eq_true A
 have G:=Nat.eq_of_beq_eq_true F
 exact iB i AA J K ht U H B hC (by rw [Nat.zero_add,G]; exact Nat.ble_self_eq_true _) (by rw [Nat.zero_add,G,List.take_zero,List.drop_length]; show []++cs'++[]=cs'; simp) hC' k
theorem TP {t n b tt:Nat} {x y:Operand} {v u:Value} {C':List aw} (i:Nat) (h:sF ops L g x y=some (.pointer (some ⟨b,0,none⟩),v)) (ht:(tK E.P t).map (·.2)=some n) (hC:C[i]? =some (cq b tt [u]))
 (hv:v.cells.toList=[v]) (hk:(Nat.beq n 1&&v.oneCell')=true) (hC':C.set i (cq b tt [v])=C') (k:RJ E ops Q rest D L C'):
 RJ E ops Q (⟨none,.store t x y,ty,ps,af,g⟩::rest) D L C:=by
 obtain ⟨G,H,AA⟩:=Da h
 rw [cQ] at hk
 obtain ⟨A,B⟩:=hk
 have F:=Nat.eq_of_beq_eq_true A
 subst F
 exact iB i G H AA ht hv U (by simp [B]) hC U U hC' k
theorem fq {t n b tt:Nat} {x y:Operand} {cs cs':List Value} (h:sF ops L g x y=some (.pointer (some ⟨b,0,none⟩),.agg cs'.toArray)) (ht:(tK E.P t).map (·.2)=some n) (hk:(Nat.beq cs'.length n&&cs'.all Value.oneCell'&&Nat.beq n cs.length)=true) (k:RJ E ops Q rest D L (cq b tt cs'::C)):RJ E ops Q (⟨none,.store t x y,ty,ps,af,g⟩::rest) D L (cq b tt cs::C):=Lg 0 h ht rfl hk rfl k
theorem HH {t n b tt:Nat} {x y:Operand} {v u:Value} (h:sF ops L g x y=some (.pointer (some ⟨b,0,none⟩),v)) (ht:(tK E.P t).map (·.2)=some n) (hv:v.cells.toList=[v]) (hk:(Nat.beq n 1&&v.oneCell')=true) (k:RJ E ops Q rest D L (cq b tt [v]::C)):RJ E ops Q (⟨none,.store t x y,ty,ps,af,g⟩::rest) D L (cq b tt [u]::C):=TP 0 h ht rfl hv hk rfl k
theorem sK {t n b tt:Nat} {x y:Operand} {cs cs':List Value} {A0:aw} (h:sF ops L g x y=some (.pointer (some ⟨b,0,none⟩),.agg cs'.toArray)) (ht:(tK E.P t).map (·.2)=some n) (hk:(Nat.beq cs'.length n&&cs'.all Value.oneCell'&&Nat.beq n cs.length)=true) (k:RJ E ops Q rest D L (A0::cq b tt cs'::C)):RJ E ops Q (⟨none,.store t x y,ty,ps,af,g⟩::rest) D L (A0::cq b tt cs::C):=Lg 1 h ht rfl hk rfl k
theorem Fi {t n b tt:Nat} {x y:Operand} {cs cs':List Value} {A0 A1:aw} (h:sF ops L g x y=some (.pointer (some ⟨b,0,none⟩),.agg cs'.toArray)) (ht:(tK E.P t).map (·.2)=some n) (hk:(Nat.beq cs'.length n&&cs'.all Value.oneCell'&&Nat.beq n cs.length)=true) (k:RJ E ops Q rest D L (A0::A1::cq b tt cs'::C)):RJ E ops Q (⟨none,.store t x y,ty,ps,af,g⟩::rest) D L (A0::A1::cq b tt cs::C):=Lg 2 h ht rfl hk rfl k
theorem Tc (cs':List Value) {t n b o tt:Nat} {x y:Operand} {v:Value} {cs:List Value} {A0 A1:aw} (h:sF ops L g x y=some (.pointer (some ⟨b,o,none⟩),v)) (ht:(tK E.P t).map (·.2)=some n) (hk:(v.cells.toList.length==n&&v.cells.toList.all Value.oneCell'&&Nat.ble (o+n) cs.length)=true) (hcs:cs.take o++v.cells.toList++cs.drop (o+n)=cs') (k:RJ E ops Q rest D L (A0::A1::cq b tt cs'::C)):RJ E ops Q (⟨none,.store t x y,ty,ps,af,g⟩::rest) D L (A0::A1::cq b tt cs::C):=Nt 2 h ht rfl hk hcs rfl k
theorem SG {t n b tt:Nat} {x y:Operand} {cs cs':List Value} {A0 A1 A2:aw} (h:sF ops L g x y=some (.pointer (some ⟨b,0,none⟩),.agg cs'.toArray)) (ht:(tK E.P t).map (·.2)=some n) (hk:(Nat.beq cs'.length n&&cs'.all Value.oneCell'&&Nat.beq n cs.length)=true) (k:RJ E ops Q rest D L (A0::A1::A2::cq b tt cs'::C)):RJ E ops Q (⟨none,.store t x y,ty,ps,af,g⟩::rest) D L (A0::A1::A2::cq b tt cs::C):=Lg 3 h ht rfl hk rfl k
theorem S4 {t n b tt:Nat} {x y:Operand} {v u:Value} {A0 A1 A2:aw} (h:sF ops L g x y=some (.pointer (some ⟨b,0,none⟩),v)) (ht:(tK E.P t).map (·.2)=some n) (hv:v.cells.toList=[v]) (hk:(Nat.beq n 1&&v.oneCell')=true) (k:RJ E ops Q rest D L (A0::A1::A2::cq b tt [v]::C)):RJ E ops Q (⟨none,.store t x y,ty,ps,af,g⟩::rest) D L (A0::A1::A2::cq b tt [u]::C):=TP 3 h ht rfl hv hk rfl k
theorem OY (cs':List Value) {t n b o tt:Nat} {x y:Operand} {v:Value} {cs:List Value} {A0 A1 A2:aw} (h:sF ops L g x y=some (.pointer (some ⟨b,o,none⟩),v)) (ht:(tK E.P t).map (·.2)=some n) (hk:(v.cells.toList.length==n&&v.cells.toList.all Value.oneCell'&&Nat.ble (o+n) cs.length)=true) (hcs:cs.take o++v.cells.toList++cs.drop (o+n)=cs') (k:RJ E ops Q rest D L (A0::A1::A2::cq b tt cs'::C)):RJ E ops Q (⟨none,.store t x y,ty,ps,af,g⟩::rest) D L (A0::A1::A2::cq b tt cs::C):=Nt 3 h ht rfl hk hcs rfl k
theorem O7 {t n b tt:Nat} {x y:Operand} {cs cs':List Value} {A0 A1 A2 A3:aw} (h:sF ops L g x y=some (.pointer (some ⟨b,0,none⟩),.agg cs'.toArray)) (ht:(tK E.P t).map (·.2)=some n) (hk:(Nat.beq cs'.length n&&cs'.all Value.oneCell'&&Nat.beq n cs.length)=true) (k:RJ E ops Q rest D L (A0::A1::A2::A3::cq b tt cs'::C)):RJ E ops Q (⟨none,.store t x y,ty,ps,af,g⟩::rest) D L (A0::A1::A2::A3::cq b tt cs::C):=Lg 4 h ht rfl hk rfl k
theorem Tu (cs':List Value) {t n b o tt:Nat} {x y:Operand} {v:Value} {cs:List Value} {A0 A1 A2 A3:aw} (h:sF ops L g x y=some (.pointer (some ⟨b,o,none⟩),v)) (ht:(tK E.P t).map (·.2)=some n) (hk:(v.cells.toList.length==n&&v.cells.toList.all Value.oneCell'&&Nat.ble (o+n) cs.length)=true) (hcs:cs.take o++v.cells.toList++cs.drop (o+n)=cs') (k:RJ E ops Q rest D L (A0::A1::A2::A3::cq b tt cs'::C)):RJ E ops Q (⟨none,.store t x y,ty,ps,af,g⟩::rest) D L (A0::A1::A2::A3::cq b tt cs::C):=Nt 4 h ht rfl hk hcs rfl k
theorem I2 {t n b tt:Nat} {x y:Operand} {cs cs':List Value} {A0 A1 A2 A3 A4:aw} (h:sF ops L g x y=some (.pointer (some ⟨b,0,none⟩),.agg cs'.toArray)) (ht:(tK E.P t).map (·.2)=some n) (hk:(Nat.beq cs'.length n&&cs'.all Value.oneCell'&&Nat.beq n cs.length)=true) (k:RJ E ops Q rest D L (A0::A1::A2::A3::A4::cq b tt cs'::C)):RJ E ops Q (⟨none,.store t x y,ty,ps,af,g⟩::rest) D L (A0::A1::A2::A3::A4::cq b tt cs::C):=Lg 5 h ht rfl hk rfl k
theorem Ul (cs':List Value) {t n b o tt:Nat} {x y:Operand} {v:Value} {cs:List Value} {A0 A1 A2 A3 A4:aw} (h:sF ops L g x y=some (.pointer (some ⟨b,o,none⟩),v)) (ht:(tK E.P t).map (·.2)=some n) (hk:(v.cells.toList.length==n&&v.cells.toList.all Value.oneCell'&&Nat.ble (o+n) cs.length)=true) (hcs:cs.take o++v.cells.toList++cs.drop (o+n)=cs') (k:RJ E ops Q rest D L (A0::A1::A2::A3::A4::cq b tt cs'::C)):RJ E ops Q (⟨none,.store t x y,ty,ps,af,g⟩::rest) D L (A0::A1::A2::A3::A4::cq b tt cs::C):=Nt 5 h ht rfl hk hcs rfl k
theorem Qq {t n b tt:Nat} {x y:Operand} {cs cs':List Value} {A0 A1 A2 A3 A4 A5:aw} (h:sF ops L g x y=some (.pointer (some ⟨b,0,none⟩),.agg cs'.toArray)) (ht:(tK E.P t).map (·.2)=some n) (hk:(Nat.beq cs'.length n&&cs'.all Value.oneCell'&&Nat.beq n cs.length)=true) (k:RJ E ops Q rest D L (A0::A1::A2::A3::A4::A5::cq b tt cs'::C)):RJ E ops Q (⟨none,.store t x y,ty,ps,af,g⟩::rest) D L (A0::A1::A2::A3::A4::A5::cq b tt cs::C):=Lg 6 h ht rfl hk rfl k
theorem Ut {t n b tt:Nat} {x y:Operand} {v u:Value} {A0 A1 A2 A3 A4 A5:aw} (h:sF ops L g x y=some (.pointer (some ⟨b,0,none⟩),v)) (ht:(tK E.P t).map (·.2)=some n) (hv:v.cells.toList=[v]) (hk:(Nat.beq n 1&&v.oneCell')=true) (k:RJ E ops Q rest D L (A0::A1::A2::A3::A4::A5::cq b tt [v]::C)):RJ E ops Q (⟨none,.store t x y,ty,ps,af,g⟩::rest) D L (A0::A1::A2::A3::A4::A5::cq b tt [u]::C):=TP 6 h ht rfl hv hk rfl k
theorem SF (cs':List Value) {t n b o tt:Nat} {x y:Operand} {v:Value} {cs:List Value} {A0 A1 A2 A3 A4 A5:aw} (h:sF ops L g x y=some (.pointer (some ⟨b,o,none⟩),v)) (ht:(tK E.P t).map (·.2)=some n) (hk:(v.cells.toList.length==n&&v.cells.toList.all Value.oneCell'&&Nat.ble (o+n) cs.length)=true) (hcs:cs.take o++v.cells.toList++cs.drop (o+n)=cs') (k:RJ E ops Q rest D L (A0::A1::A2::A3::A4::A5::cq b tt cs'::C)):RJ E ops Q (⟨none,.store t x y,ty,ps,af,g⟩::rest) D L (A0::A1::A2::A3::A4::A5::cq b tt cs::C):=Nt 6 h ht rfl hk hcs rfl k
theorem Uh (cs':List Value) {t n b o tt:Nat} {x y:Operand} {v:Value} {cs:List Value} {A0 A1 A2 A3 A4 A5 A6:aw} (h:sF ops L g x y=some (.pointer (some ⟨b,o,none⟩),v)) (ht:(tK E.P t).map (·.2)=some n) (hk:(v.cells.toList.length==n&&v.cells.toList.all Value.oneCell'&&Nat.ble (o+n) cs.length)=true) (hcs:cs.take o++v.cells.toList++cs.drop (o+n)=cs') (k:RJ E ops Q rest D L (A0::A1::A2::A3::A4::A5::A6::cq b tt cs'::C)):RJ E ops Q (⟨none,.store t x y,ty,ps,af,g⟩::rest) D L (A0::A1::A2::A3::A4::A5::A6::cq b tt cs::C):=Nt 7 h ht rfl hk hcs rfl k
theorem Up {t n b tt:Nat} {x y:Operand} {cs cs':List Value} {A0 A1 A2 A3 A4 A5 A6 A7:aw} (h:sF ops L g x y=some (.pointer (some ⟨b,0,none⟩),.agg cs'.toArray)) (ht:(tK E.P t).map (·.2)=some n) (hk:(Nat.beq cs'.length n&&cs'.all Value.oneCell'&&Nat.beq n cs.length)=true) (k:RJ E ops Q rest D L (A0::A1::A2::A3::A4::A5::A6::A7::cq b tt cs'::C)):RJ E ops Q (⟨none,.store t x y,ty,ps,af,g⟩::rest) D L (A0::A1::A2::A3::A4::A5::A6::A7::cq b tt cs::C):=Lg 8 h ht rfl hk rfl k
theorem Uo (cs':List Value) {t n b o tt:Nat} {x y:Operand} {v:Value} {cs:List Value} {A0 A1 A2 A3 A4 A5 A6 A7:aw} (h:sF ops L g x y=some (.pointer (some ⟨b,o,none⟩),v)) (ht:(tK E.P t).map (·.2)=some n) (hk:(v.cells.toList.length==n&&v.cells.toList.all Value.oneCell'&&Nat.ble (o+n) cs.length)=true) (hcs:cs.take o++v.cells.toList++cs.drop (o+n)=cs') (k:RJ E ops Q rest D L (A0::A1::A2::A3::A4::A5::A6::A7::cq b tt cs'::C)):RJ E ops Q (⟨none,.store t x y,ty,ps,af,g⟩::rest) D L (A0::A1::A2::A3::A4::A5::A6::A7::cq b tt cs::C):=Nt 8 h ht rfl hk hcs rfl k
theorem Ui {t n b tt:Nat} {x y:Operand} {cs cs':List Value} {A0 A1 A2 A3 A4 A5 A6 A7 A8:aw} (h:sF ops L g x y=some (.pointer (some ⟨b,0,none⟩),.agg cs'.toArray)) (ht:(tK E.P t).map (·.2)=some n) (hk:(Nat.beq cs'.length n&&cs'.all Value.oneCell'&&Nat.beq n cs.length)=true) (k:RJ E ops Q rest D L (A0::A1::A2::A3::A4::A5::A6::A7::A8::cq b tt cs'::C)):RJ E ops Q (⟨none,.store t x y,ty,ps,af,g⟩::rest) D L (A0::A1::A2::A3::A4::A5::A6::A7::A8::cq b tt cs::C):=Lg 9 h ht rfl hk rfl k
theorem SW (cs':List Value) {t n b o tt:Nat} {x y:Operand} {v:Value} {cs:List Value} {A0 A1 A2 A3 A4 A5 A6 A7 A8 A9:aw} (h:sF ops L g x y=some (.pointer (some ⟨b,o,none⟩),v)) (ht:(tK E.P t).map (·.2)=some n) (hk:(v.cells.toList.length==n&&v.cells.toList.all Value.oneCell'&&Nat.ble (o+n) cs.length)=true) (hcs:cs.take o++v.cells.toList++cs.drop (o+n)=cs') (k:RJ E ops Q rest D L (A0::A1::A2::A3::A4::A5::A6::A7::A8::A9::cq b tt cs'::C)):RJ E ops Q (⟨none,.store t x y,ty,ps,af,g⟩::rest) D L (A0::A1::A2::A3::A4::A5::A6::A7::A8::A9::cq b tt cs::C):=Nt 10 h ht rfl hk hcs rfl k
theorem S0 {t n b tt:Nat} {x y:Operand} {cs cs':List Value} {A0 A1 A2 A3 A4 A5 A6 A7 A8 A9 A10:aw} (h:sF ops L g x y=some (.pointer (some ⟨b,0,none⟩),.agg cs'.toArray)) (ht:(tK E.P t).map (·.2)=some n) (hk:(Nat.beq cs'.length n&&cs'.all Value.oneCell'&&Nat.beq n cs.length)=true) (k:RJ E ops Q rest D L (A0::A1::A2::A3::A4::A5::A6::A7::A8::A9::A10::cq b tt cs'::C)):RJ E ops Q (⟨none,.store t x y,ty,ps,af,g⟩::rest) D L (A0::A1::A2::A3::A4::A5::A6::A7::A8::A9::A10::cq b tt cs::C):=Lg 11 h ht rfl hk rfl k
end
section
variable {E:eU} {y:Code} {Q:cY} {D:List Deferred} {L:List (Nat×Value)} {C:List aw}
theorem WS {id:Nat} {ops:Array Oper} (h: ∀ K:Act→World→Prop,(∀ D L C,WJ E y Q D L C→KJ E K D L C)→RJ E ops (Exit.then K Q) ops.toList D L C):WJ E (.seq (.region id ops false) y) Q D L C:=ai fun K hK=>ag (h K hK)
theorem RK {ops:Array Oper} {K:Act→World→Prop} {Q':cY} (hK: ∀ D L C,WJ E y Q D L C→KJ E K D L C) (k:WJ E y Q D L C):RJ E ops (Exit.then K Q') [] D L C:=ax (aI (hK _ _ _ k))
theorem KK {K:Act→World→Prop} {Q':cY} (hK: ∀ D L C,WJ E y Q D L C→KJ E K D L C) (k:WJ E y Q D L C):KJ E (Exit.then K Q' .normal) D L C:=aI (hK _ _ _ k)
theorem WK {K:Act→World→Prop} {Q':cY} (hK: ∀ D L C,WJ E y Q D L C→KJ E K D L C) (k:WJ E y Q D L C):WJ E .skip (Exit.then K Q') D L C:=bM (aI (hK _ _ _ k))
end
theorem DT {p:Prop} [Decidable p] (h:decide p=true):p:=of_decide_eq_true h
theorem DF {p:Prop} [Decidable p] (h:decide p=false): ¬ p:=of_decide_eq_false h
theorem XT {p:Prop} [Decidable p] (h:(!decide p)=true): ¬ p:=by simpa using h
theorem XF {p:Prop} [Decidable p] (h:(!decide p)=false):p:=by simpa using h
/-- what a function hands back: one result, two, three, that lie in slots -/
theorem Q1 {E:eU} {fn:Func} {K:Act→World→Prop} {L:List (Nat×Value)} {C:List aw} {t:Nat} {u v:Value} (hQ: ∀ D L C,LJ E fn (DD E.w0 v) D L C→KJ E K D L C) (hS:E.S=tR) (hr:fn.results.toList=[.tmp t]) (hl:L.lookup t=some u) (e:u=v):KJ E K [] L C:=
 hQ _ _ _ (g3 (vs:=[u]) (by rw [hr]; exact ⟨hl,trivial⟩) fun w hs=>G7 e (by rw [hS] at hs; exact hs))
theorem N1 {E:eU} {ops:Array Oper} {D:List Deferred} {C' C1:List aw} {F:List (Nat×Value)→List aw→Prop} {tb rem:List Nat} {n:Nat} {L:List (Nat×Value)} {C:List aw} (i:Nat)
 (h:Bt E ops D C' C1 F tb n (rem.filter (· != i)) i L C) (hm:rem.filter (fun i=>rem.all fun j=> !ib (qc ops) j i)=[i]:=by kernel_rfl):TN E ops D C' C1 F tb (n+1) rem L C:=oH [i] hm (jg h rT)
theorem NO {E:eU} {ops:Array Oper} {D:List Deferred} {C' C1:List aw} {F:List (Nat×Value)→List aw→Prop} {tb rem:List Nat} {n i:Nat} {L:List (Nat×Value)} {C:List aw} {o:Oper} (ho:ops[i]? =some o) (ht:tb.contains i=false) (rem':List Nat)
 (h: ∀ K:Act→World→Prop,(∀ L' C'',(∀ w,St E.S E.w0 C'' w→St E.S E.w0 C' w)→TN E ops D C' C1 F tb n rem' L' C''→KJ E K D L' C'')→RJ E ops (NQ K) [o] D L C) (hr:rem=rem':=by kernel_rfl):Bt E ops D C' C1 F tb n rem i L C:=Tm ho hr ht h
theorem RD {E:eU} {ops:Array Oper} {K:Act→World→Prop} {D:List Deferred} {L:List (Nat×Value)} {C C':List aw} {X:List (Nat×Value)→List aw→Prop} (hT: ∀ L' C'',(∀ w,St E.S E.w0 C'' w→St E.S E.w0 C' w)→X L' C''→KJ E K D L' C'')
 (k:Nat) (h2:C.drop k=C') (h:X L C):RJ E ops (NQ K) [] D L C:=ax (hT _ _ (fun w hs=>h2▸hs.take (List.drop_sublist k C)) h)
theorem aN {L L':List (Nat×Value)} (h:L'.map (fun p=>L.lookup p.1)=L'.map (fun p=>some p.2)):cO L L':=by
 induction L' with
 |nil=>exact cO.nil _
 |cons p t ih=>
  simp only [List.map_cons,List.cons.injEq] at h
  exact cO.cons h.1 (ih h.2)
theorem MH {C:List aw} {A A' B B' D D':aw} (i j k:Nat) (h1:C[i]? =some A') (e1:A'.holds=A.holds) (h2:C[j]? =some B') (e2:B'.holds=B.holds) (h3:C[k]? =some D') (e3:D'.holds=D.holds):j9 C [A,B,D]:=fG i h1 e1 (fG j h2 e2 (fG k h3 e3 aS))
theorem bE {E:eU} {c:Operand} {x y:Code} {b:Bool} {Q:cY} {D:List Deferred} {L:List (Nat×Value)} {C:List aw} (hc:ev L c=some (.bool b)) (h2:b=false→WJ E y Q D L C) (h1:b=true→WJ E x Q D L C):WJ E (.cond c x y) Q D L C:=cK hc h1 h2
theorem cv {E:eU} {ops:Array Oper} {Q:cY} {rest:List Oper} {D:List Deferred} {L:List (Nat×Value)} {C:List aw} {t:Nat} {b:Bool} (h:L.lookup t=some (.bool b)) (h2:b=false→RJ E ops Q rest D ((t,.bool false)::L) C) (h1:b=true→RJ E ops Q rest D ((t,.bool true)::L) C):RJ E ops Q rest D L C:=cE h h1 h2
theorem j2 {E:eU} {ops:Array Oper} {Q:cY} {rest:List Oper} {D:List Deferred} {L:List (Nat×Value)} {C:List aw} {t:Nat} {b:Bool} {os:List Oper} (h:L.lookup t=some (.bool b)) (h2:b=false→DJ E ops D C (fun L2=>RJ E ops Q rest D L2 C) os ((t,.bool false)::L)) (h1:b=true→DJ E ops D C (fun L2=>RJ E ops Q rest D L2 C) os ((t,.bool true)::L)):DJ E ops D C (fun L2=>RJ E ops Q rest D L2 C) os L:=iO h h1 h2
theorem bY {L:List (Nat×Value)}: ∀ (k:Nat) {L2:List (Nat×Value)} (q:cO L (L2.drop k)) (h:(L2.take k).map (fun p=>L.lookup p.1)=(L2.take k).map (fun p=>some p.2):=by rfl),cO L L2
 |0,_,q,_=>q
 |_+1,[],_,_=>cO.nil _
 |k+1,p::L2,q,h=>by
  obtain ⟨A,B⟩:=List.cons.inj (show L.lookup p.1::(L2.take k).map (fun p=>L.lookup p.1)=some p.2::(L2.take k).map (fun p=>some p.2) from h)
  exact cO.cons (t:=p.1) (v:=p.2) A (bY k q B)
theorem oX {E:eU} {ops:Array Oper} {Q:cY} {rest:List Oper} {D:List Deferred} {L:List (Nat×Value)} {C:List aw} {d:Nat} {ty:TypeId} {ps:String} {af:Array Edge} {g:Option (Nat×Bool)} {op:Op} (k:RJ E ops Q rest D ((d,undef)::L) C) (h:(CE ops L g&&Nat.blt d E.n)=true:=by rfl):RJ E ops Q (⟨some d,op,ty,ps,af,g⟩::rest) D L C:=rS (OX h) k
theorem dX {E:eU} {ops:Array Oper} {F:List (Nat×Value)→Prop} {rest:List Oper} {D:List Deferred} {L:List (Nat×Value)} {C:List aw} {d:Nat} {ty:TypeId} {ps:String} {af:Array Edge} {g:Option (Nat×Bool)} {op:Op} (k:DJ E ops D C F rest ((d,undef)::L)) (h:(CE ops L g&&Nat.blt d E.n)=true:=by rfl):DJ E ops D C F (⟨some d,op,ty,ps,af,g⟩::rest) L:=dS (OX h) k
end
section
open Go.RowKit
/-- what of a slice is left from k on -/
def Pe (A:OA) (c k sz:Nat):OA:=if c=k then A else A.map (·.add (k*sz))
section
variable {E:eU} {ops:Array Oper} {Q:cY} {rest:List Oper} {D:List Deferred} {L:List (Nat×Value)} {C:List aw}
variable {d:Nat} {ty:TypeId} {ps:String} {af:Array Edge} {g:Option (Nat×Bool)}
theorem Mn {P:Program} {t e sz:Nat} (h:tE P t=some (e,sz)) (w:World):P.underlying t=some (.slice e)∧(sizeOf e).run P w= .ok sz w:=by
 unfold tE at h
 split at h
 ·rename_i e' hu
  split at h
  ·rename_i i hi
   cases h
   exact ⟨hu,by simp [sizeOf,typeInfo,hi]⟩
  ·cases h
 ·cases h
theorem Ev {P:Program} {t e:Nat} (h:P.underlying t=some (.slice e)):P.underlying t=some (.slice (P.elem t)):=by
 rw [h]; simp [Program.elem,h]
theorem M9 {P:Program} {t e:Nat} (h:P.underlying t=some (.slice e)):P.elem t=e:=by simp [Program.elem,h]
/-- s[:k] -/
theorem Uk (k:Nat) {x hi:Operand} {t e sz n c:Nat} {A:OA} {j:Int} (h:bF E.n ops L d g x hi=some (.slice A n c,.int .i64 j)) (ht:tE E.P t=some (e,sz)) (hj:j=(k:Int)) (hk:k≤c):
 SE E ops ⟨some d,.slice t x none (some hi) none,ty,ps,af,g⟩ D L C (.slice A k c) d:=by
 obtain ⟨H,AA,J,K⟩:=se h
 subst hj
 refine ⟨dH H sm fun a w B hs=>?_,U,AA⟩
 obtain ⟨hu,hz⟩:=Mn ht w
 have hr:=run_slice_h (P:=E.P) w t A n c (Ev hu) .i64 (k:Int) I I
 rw [M9 hu,hz] at hr
 have G:(if c=0 then A else A.map (·.add (0*sz)))=A:=by
  split
  ·rfl
  ·cases A with
   |none=>rfl
   |some ad=>simp [Addr.add]
 simp only [Result.andThen,Int.toNat_natCast,sliced,G,Nat.sub_zero] at hr
 have F:=run_sliceAt_slice (P:=E.P) w t (.slice A n c) none (some (.int .i64 (k:Int))) none (Ev hu)
 simp [execOp,B.ev J,B.ev K,F,hr]
/-- an element of a row whose place is known -/
theorem Um (k:Nat) {x ix:Operand} {A:OA} {ad:Addr} {n c sz e t:Nat} {j:Int} (h:bF E.n ops L d g x ix=some (.slice A n c,.int .i64 j)) (hA:A=some ad) (ht:tE E.P t=some (e,sz)) (hj:j=(k:Int)) (hk:k<n):
 SE E ops ⟨some d,.indexAddr t x ix,ty,ps,af,g⟩ D L C (.pointer (lP A (k*sz))) d:=by
 obtain ⟨F,G,H,AA⟩:=se h
 refine ⟨dH F sm fun a w B hs=>?_,U,G⟩
 subst hA hj
 simp [execOp,B.ev H,B.ev AA,lP,qI ht hk]
end
theorem FF {w:World} {a:OA} {c e sz:Nat} {es:List (List Value)} (h:(own a c e sz es).holds w):es.length≤c:=by
 rcases h.2.2 with ⟨A,B⟩|⟨g,cap,cur,hv,_,_,C,_⟩
 ·omega
 ·injection hv with _ _ hc; omega
end
section
open Go.RowKit
/-- an array's length, its elements' type and their size -/
def aE (P:Program) (t:TypeId):Option (Nat×TypeId×Nat):=
 match P.underlying t with
 |some (.array n e)=>match P.info? e with
  |some i=>some (n,e,i.size)
  |none=>none
 |_=>none
theorem FH {P:Program} {t n e sz:Nat} (h:aE P t=some (n,e,sz)) (w:World):P.underlying t=some (.array n e)∧(sizeOf e).run P w= .ok sz w:=by
 unfold aE at h
 split at h
 ·rename_i n' e' hu
  split at h
  ·rename_i i hi
   cases h
   exact ⟨hu,by simp [sizeOf,typeInfo,hi]⟩
  ·cases h
 ·cases h
theorem vn {P:Program} {t n e sz:Nat} (h:aE P t=some (n,e,sz)) (a:Addr) (w:World):
 (Instr.sliceAt t (.pointer (some a)) none none none).run P w= .ok (.slice (some a) n n) w:=by
 obtain ⟨hu,hz⟩:=FH h w
 have A:a.add 0=a:=by simp [Addr.add]
 simp [Instr.sliceAt,underlying,hu,Instr.sureAddr,Instr.sliceBounds,hz,A]
theorem vk {P:Program} {t n e sz:Nat} (h:aE P t=some (n,e,sz)) (a:Addr) {k:Nat} (hk:k<n) (w:World):
 (Instr.indexAt t (.pointer (some a)) (.int .i64 (k:Int))).run P w= .ok (.pointer (some (a.add (k*sz)))) w:=by
 obtain ⟨hu,hz⟩:=FH h w
 have A: ¬ n≤k:=by omega
 simp [Instr.indexAt,underlying,hu,Instr.sureAddr,asIntOf,hz,A]
 try exact fun h=>absurd h A
 try omega
section
variable {E:eU} {ops:Array Oper} {Q:cY} {rest:List Oper} {D:List Deferred} {L:List (Nat×Value)} {C:List aw}
variable {dst:Option Nat} {ty:TypeId} {ps:String} {af:Array Edge} {g:Option (Nat×Bool)}
theorem Ek {x:Operand} {a:Addr} {t n e sz:Nat} (hg:jx ops L g=true) (hx:ev L x=some (.pointer (some a))) (ht:aE E.P t=some (n,e,sz)):
 SD E ops ⟨dst,.slice t x none none none,ty,ps,af,g⟩ D L C (.slice (some a) n n):=
 dH hg sm fun b w A hs=>by
  simp [execOp,A.ev hx,vn ht]
theorem DG {x ix:Operand} {a:Addr} {t n e sz k:Nat} {j:Int} (hg:jx ops L g=true) (hx:ev L x=some (.pointer (some a))) (hi:ev L ix=some (.int .i64 j)) (ht:aE E.P t=some (n,e,sz)) (hj:j=(k:Int)) (hk:k<n):
 SD E ops ⟨dst,.indexAddr t x ix,ty,ps,af,g⟩ D L C (.pointer (lP (some a) (k*sz))):=
 dH hg sm fun b w A hs=>by
  subst hj
  simp [execOp,A.ev hx,A.ev hi,lP,vk ht a hk]
end
end
section
open Go.RowKit
/-- a table of facts on the program's types -/
structure CJ where
 tk:List (Nat×Bool×Nat)
 fo:List (Nat×List (Option Nat))
 sl:List Nat
def P1 {α:Type}:List (Nat×α)→Nat→Option α
 |[],_=>none
 |(k,v)::l,t=>match Nat.beq k t with
  |true=>some v
  |false=>P1 l t
theorem zH {α:Type}: ∀ {l:List (Nat×α)} {t:Nat} {v:α},P1 l t=some v→(t,v)∈l
 |[],t,v,h=>by simp [P1] at h
 |(k,u)::l,t,v,h=>by
  unfold P1 at h
  split at h
  ·rename_i hb
   cases h
   rw [Nat.eq_of_beq_eq_true hb]; exact bZ
  ·exact cW _ (zH h)
def Lf:List Nat→Nat→Bool
 |[],_=>false
 |k::l,t=>match Nat.beq k t with
  |true=>true
  |false=>Lf l t
theorem Cs: ∀ {l:List Nat} {t:Nat},Lf l t=true→t∈l
 |[],t,h=>by simp [Lf] at h
 |k::l,t,h=>by
  unfold Lf at h
  split at h
  ·rename_i hb
   rw [Nat.eq_of_beq_eq_true hb]; exact bZ
  ·exact cW _ (Cs h)
def CJ.JI (T:CJ) (t:Nat):Option (Bool×Nat):=P1 T.tk t
def CJ.foF (T:CJ) (s f:Nat):Option Nat:=match P1 T.fo s with
 |some l=>match l[f]? with
  |some (some k)=>some k
  |_=>none
 |none=>none
structure kP (P:Program) (T:CJ):Prop where
 tk: ∀ p∈T.tk,tK P p.1=some p.2
 fo: ∀ p∈T.fo,∀ f k,p.2[f]? =some (some k)→qP P p.1 f=some k
 sl: ∀ t∈T.sl,∃ e,P.underlying t=some (.slice e)
theorem kP.JI {P:Program} {T:CJ} (h:kP P T) {t:Nat} {r:Bool×Nat} (e:T.JI t=some r):tK P t=some r:=h.tk _ (zH e)
theorem kP.foF {P:Program} {T:CJ} (h:kP P T) {s f k:Nat} (e:T.foF s f=some k):qP P s f=some k:=by
 unfold CJ.foF at e
 split at e
 ·rename_i l hl
  split at e
  ·rename_i k' hk
   cases e
   exact h.fo _ (zH hl) f k hk
  ·cases e
 ·cases e
def Sw (P:Program) (T:CJ):Bool:=(T.tk.all fun p=>decide (tK P p.1=some p.2))&&(T.fo.all fun p=>(List.range p.2.length).all fun f=>match p.2[f]? with
 |some (some k)=>decide (qP P p.1 f=some k)
 |_=>true)&&T.sl.all fun t=>match P.underlying t with
 |some (.slice _)=>true
 |_=>false
theorem Oa {P:Program} {T:CJ} (h:Sw P T=true):kP P T:=by
 unfold Sw at h
 rw [cQ,cQ] at h
 obtain ⟨⟨B,C⟩,D⟩:=h
 refine ⟨fun p hp=>by simpa using List.all_eq_true.1 B p hp,fun p hp f k hk=>?_,fun t ht=>?_⟩
 ·have A:=List.all_eq_true.1 (List.all_eq_true.1 C p hp) f (List.mem_range.2 (List.getElem?_eq_some_iff.1 hk).1)
  rw [hk] at A
  simpa using A
 ·have A:=List.all_eq_true.1 D t ht
  split at A
  ·rename_i e he; exact ⟨e,he⟩
  ·cases A
end
section
theorem wH:tK Tryz.prog 3=some (false,1):=by kernel_rfl
theorem Ug:tK Tryz.prog 4=some (false,1):=by kernel_rfl
theorem TY:tK Tryz.prog 5=some (false,1):=by kernel_rfl
theorem TX:tK Tryz.prog 22=some (false,1):=by kernel_rfl
theorem RS:tK Tryz.prog 24=some (true,1):=by kernel_rfl
theorem Pj:tK Tryz.prog 25=some (false,1):=by kernel_rfl
theorem TB:tK Tryz.prog 26=some (false,1):=by kernel_rfl
theorem S8:tK Tryz.prog 28=some (true,7):=by kernel_rfl
theorem Tq:tK Tryz.prog 29=some (false,1):=by kernel_rfl
theorem Te:tK Tryz.prog 30=some (false,1):=by kernel_rfl
theorem Rx:tK Tryz.prog 32=some (true,11):=by kernel_rfl
theorem wE:tK Tryz.prog 47=some (true,2):=by kernel_rfl
theorem Pf:tK Tryz.prog 71=some (false,1):=by kernel_rfl
theorem TA:tK Tryz.prog 72=some (false,1):=by kernel_rfl
theorem To:tK Tryz.prog 74=some (true,3):=by kernel_rfl
theorem TH:tK Tryz.prog 76=some (true,7):=by kernel_rfl
theorem TL:tK Tryz.prog 77=some (false,1):=by kernel_rfl
theorem TG:tK Tryz.prog 78=some (false,1):=by kernel_rfl
theorem Tl:tK Tryz.prog 82=some (false,1):=by kernel_rfl
theorem TS:tK Tryz.prog 86=some (false,1):=by kernel_rfl
theorem RT:tK Tryz.prog 114=some (false,1):=by kernel_rfl
theorem NN:tK Tryz.prog 117=some (false,1):=by kernel_rfl
theorem RU:tK Tryz.prog 119=some (true,2):=by kernel_rfl
theorem QP:tK Tryz.prog 121=some (false,1):=by kernel_rfl
theorem Sm:tK Tryz.prog 137=some (true,3):=by kernel_rfl
theorem Kq:tK Tryz.prog 139=some (true,3):=by kernel_rfl
theorem RY:tK Tryz.prog 150=some (true,1):=by kernel_rfl
theorem RI:tK Tryz.prog 151=some (true,4):=by kernel_rfl
theorem QT:tK Tryz.prog 163=some (true,9):=by kernel_rfl
theorem RF:tK Tryz.prog 165=some (true,2):=by kernel_rfl
theorem RV:tK Tryz.prog 216=some (true,1):=by kernel_rfl
theorem Q8:tK Tryz.prog 232=some (true,3):=by kernel_rfl
theorem Sj:tK Tryz.prog 274=some (false,1):=by kernel_rfl
theorem QO:tK Tryz.prog 280=some (false,1):=by kernel_rfl
theorem QQ:tK Tryz.prog 282=some (true,2):=by kernel_rfl
theorem DL:(tK Tryz.prog 3).map (·.2)=some 1:=by rw [wH]; rfl
theorem Ua:(tK Tryz.prog 4).map (·.2)=some 1:=by rw [Ug]; rfl
theorem Ta:(tK Tryz.prog 22).map (·.2)=some 1:=by rw [TX]; rfl
theorem Qe:(tK Tryz.prog 24).map (·.2)=some 1:=by rw [RS]; rfl
theorem RM:(tK Tryz.prog 25).map (·.2)=some 1:=by rw [Pj]; rfl
theorem Sc:(tK Tryz.prog 26).map (·.2)=some 1:=by rw [TB]; rfl
theorem RW:(tK Tryz.prog 28).map (·.2)=some 7:=by rw [S8]; rfl
theorem wq:(tK Tryz.prog 29).map (·.2)=some 1:=by rw [Tq]; rfl
theorem QC:(tK Tryz.prog 30).map (·.2)=some 1:=by rw [Te]; rfl
theorem kT:(tK Tryz.prog 32).map (·.2)=some 11:=by rw [Rx]; rfl
theorem cu:(tK Tryz.prog 47).map (·.2)=some 2:=by rw [wE]; rfl
theorem Q2:(tK Tryz.prog 71).map (·.2)=some 1:=by rw [Pf]; rfl
theorem R_:(tK Tryz.prog 72).map (·.2)=some 1:=by rw [TA]; rfl
theorem RR:(tK Tryz.prog 74).map (·.2)=some 3:=by rw [To]; rfl
theorem Pv:(tK Tryz.prog 76).map (·.2)=some 7:=by rw [TH]; rfl
theorem QK:(tK Tryz.prog 77).map (·.2)=some 1:=by rw [TL]; rfl
theorem QB:(tK Tryz.prog 78).map (·.2)=some 1:=by rw [TG]; rfl
theorem S9:(tK Tryz.prog 82).map (·.2)=some 1:=by rw [Tl]; rfl
theorem OO:(tK Tryz.prog 86).map (·.2)=some 1:=by rw [TS]; rfl
theorem Qi:(tK Tryz.prog 114).map (·.2)=some 1:=by rw [RT]; rfl
theorem Nn:(tK Tryz.prog 117).map (·.2)=some 1:=by rw [NN]; rfl
theorem yV:(tK Tryz.prog 119).map (·.2)=some 2:=by rw [RU]; rfl
theorem Sp:(tK Tryz.prog 121).map (·.2)=some 1:=by rw [QP]; rfl
theorem tG:(tK Tryz.prog 137).map (·.2)=some 3:=by rw [Sm]; rfl
theorem N5:(tK Tryz.prog 139).map (·.2)=some 3:=by rw [Kq]; rfl
theorem EZ:(tK Tryz.prog 150).map (·.2)=some 1:=by rw [RY]; rfl
theorem Sr:(tK Tryz.prog 151).map (·.2)=some 4:=by rw [RI]; rfl
theorem JJ:(tK Tryz.prog 163).map (·.2)=some 9:=by rw [QT]; rfl
theorem wT:(tK Tryz.prog 165).map (·.2)=some 2:=by rw [RF]; rfl
theorem Ix:(tK Tryz.prog 216).map (·.2)=some 1:=by rw [RV]; rfl
theorem Q3:(tK Tryz.prog 232).map (·.2)=some 3:=by rw [Q8]; rfl
theorem yM:(tK Tryz.prog 274).map (·.2)=some 1:=by rw [Sj]; rfl
theorem Ir:(tK Tryz.prog 280).map (·.2)=some 1:=by rw [QO]; rfl
theorem rV:(tK Tryz.prog 282).map (·.2)=some 2:=by rw [QQ]; rfl
theorem yU:aE Tryz.prog 158=some (3,157,2):=by kernel_rfl
theorem K7:qP Tryz.prog 28 2=some 2:=by kernel_rfl
theorem Py:qP Tryz.prog 76 0=some 0:=by kernel_rfl
theorem FN:qP Tryz.prog 119 1=some 1:=by kernel_rfl
theorem Tw:rG Tryz.prog 40=true:=by kernel_rfl
theorem Tz:rG Tryz.prog 58=true:=by kernel_rfl
theorem S_:rG Tryz.prog 64=true:=by kernel_rfl
theorem jl (l:List ab): ∀ v∈(l.map ab.cells).flatten,v.oneCell'=true:=l5 (fun _=>rfl) l
theorem p6 (l:List ck): ∀ v∈(l.map ck.cells).flatten,v.oneCell'=true:=l5 (fun _=>rfl) l
theorem pY (l:List bI): ∀ v∈(l.map bI.cells).flatten,v.oneCell'=true:=l5 (fun _=>rfl) l
theorem nI (l:List al): ∀ v∈(l.map al.cells).flatten,v.oneCell'=true:=l5 (fun _=>rfl) l
theorem nT (l:List aK): ∀ v∈(l.map aK.cells).flatten,v.oneCell'=true:=l5 (fun _=>rfl) l
theorem P3:tA Tryz.prog 22=some (163,9,72,(Value.agg [(vI 0),(vI 0),(vI 0),(vI 0),(vI 0),(vI 0),(vI 0),(Value.int .u8 0),(vI 0)].toArray)):=by kernel_rfl
theorem Su:tA Tryz.prog 25=some (119,2,32,(Value.agg [(vI 0),(vS none 0 0)].toArray)):=by kernel_rfl
theorem QZ:tA Tryz.prog 26=some (141,4,32,(Value.agg [(vI 0),(vI 0),(vI 0),(vI 0)].toArray)):=by kernel_rfl
theorem mJ:tA Tryz.prog 29=some (3,1,8,(vI 0)):=by kernel_rfl
theorem Qf:tA Tryz.prog 30=some (71,1,24,(vS none 0 0)):=by kernel_rfl
theorem Qz:tA Tryz.prog 57=some (29,1,24,(vS none 0 0)):=by kernel_rfl
theorem P4:tA Tryz.prog 71=some (76,7,64,(Value.agg [(vB false),(vB false),(vI 0),(vI 0),(vI 0),(vI 0),(vS none 0 0)].toArray)):=by kernel_rfl
theorem Qa:tA Tryz.prog 72=some (165,2,16,(Value.agg [(vI 0),(vI 0)].toArray)):=by kernel_rfl
theorem K1:tA Tryz.prog 78=some (47,2,16,(Value.agg [(vI 0),(vI 0)].toArray)):=by kernel_rfl
theorem O4:tA Tryz.prog 82=some (78,1,24,(vS none 0 0)):=by kernel_rfl
theorem K3:tA Tryz.prog 114=some (4,1,1,(vB false)):=by kernel_rfl
theorem N9:tA Tryz.prog 117=some (137,3,24,(Value.agg [(vI 0),(vI 0),(vI 0)].toArray)):=by kernel_rfl
theorem NU:tA Tryz.prog 209=some (235,3,72,(Value.agg [(vS none 0 0),(vS none 0 0),(vS none 0 0)].toArray)):=by kernel_rfl
theorem QD:tA Tryz.prog 273=some (86,1,8,(Value.map none)):=by kernel_rfl
theorem BU:tA Tryz.prog 274=some (280,1,8,(Value.map none)):=by kernel_rfl
theorem SO:tB Tryz.prog 24=some ([(vS none 0 0)],[(0,1)]):=by kernel_rfl
theorem x_:tB Tryz.prog 32=some ([(vS none 0 0),(vI 0),(vS none 0 0),(vS none 0 0),(vI 0),(vI 0),(vI 0),(vS none 0 0),(vS none 0 0),(vI 0),(vS none 0 0)],[(0,7),(7,1),(8,1),(9,1),(10,1)]):=by kernel_rfl
theorem gK:tB Tryz.prog 47=some ([(vI 0),(vI 0)],[(0,1),(1,1)]):=by kernel_rfl
theorem Qw:tB Tryz.prog 76=some ([(vB false),(vB false),(vI 0),(vI 0),(vI 0),(vI 0),(vS none 0 0)],[(0,1),(1,1),(2,2),(4,3)]):=by kernel_rfl
theorem Rq:tB Tryz.prog 100=some ([(vS none 0 0),(vI 0),(vS none 0 0),(vS none 0 0),(vI 0),(vI 0),(vI 0),(vS none 0 0),(vS none 0 0),(vI 0),(vS none 0 0),(vS none 0 0),(Value.map none)],[(0,11),(11,1),(12,1)]):=by kernel_rfl
theorem Qk:tB Tryz.prog 148=some ([(vI 0),(vI 0)],[(0,1),(1,1)]):=by kernel_rfl
theorem E_:tB Tryz.prog 150=some ([Value.nilFunc],[(0,1)]):=by kernel_rfl
theorem P7:tB Tryz.prog 151=some ([Value.nilFunc,Value.nilFunc,Value.nilFunc,Value.nilFunc],[(0,1),(1,1),(2,1),(3,1)]):=by kernel_rfl
theorem Rv:tB Tryz.prog 165=some ([(vI 0),(vI 0)],[(0,1),(1,1)]):=by kernel_rfl
theorem P6:tB Tryz.prog 216=some ([(vS none 0 0)],[(0,1)]):=by kernel_rfl
theorem Rw:tB Tryz.prog 235=some ([(vS none 0 0),(vS none 0 0),(vS none 0 0)],[(0,1),(1,1),(2,1)]):=by kernel_rfl
theorem Qh:tB Tryz.prog 276=some ([(vS none 0 0),(vI 0),(vS none 0 0),(vS none 0 0),(vI 0),(vI 0),(vI 0),(vI 0),(vI 0),(vS none 0 0),(vS none 0 0),(vS none 0 0),(vS none 0 0),(vS none 0 0)],[(0,7),(7,3),(10,1),(11,1),(12,1),(13,1)]):=by kernel_rfl
theorem AA:tB Tryz.prog 282=some ([(vI 0),(vI 0)],[(0,1),(1,1)]):=by kernel_rfl
theorem vf:tE Tryz.prog 22=some (163,9):=by kernel_rfl
theorem uq:tE Tryz.prog 25=some (119,2):=by kernel_rfl
theorem sQ:tE Tryz.prog 26=some (141,4):=by kernel_rfl
theorem di:tE Tryz.prog 29=some (3,1):=by kernel_rfl
theorem lk:tE Tryz.prog 30=some (71,1):=by kernel_rfl
theorem zZ:tE Tryz.prog 57=some (29,1):=by kernel_rfl
theorem rI:tE Tryz.prog 71=some (76,7):=by kernel_rfl
theorem wv:tE Tryz.prog 72=some (165,2):=by kernel_rfl
theorem mM:tE Tryz.prog 78=some (47,2):=by kernel_rfl
theorem zD:tE Tryz.prog 82=some (78,1):=by kernel_rfl
theorem uT:tE Tryz.prog 114=some (4,1):=by kernel_rfl
theorem nF:tE Tryz.prog 117=some (137,3):=by kernel_rfl
theorem IB:tE Tryz.prog 154=some (157,2):=by kernel_rfl
theorem Ey:tE Tryz.prog 209=some (235,3):=by kernel_rfl
theorem Jc:tE Tryz.prog 236=some (139,3):=by kernel_rfl
theorem Ns:tE Tryz.prog 272=some (268,1):=by kernel_rfl
theorem EN:tE Tryz.prog 273=some (86,1):=by kernel_rfl
theorem nZ:tE Tryz.prog 274=some (280,1):=by kernel_rfl
theorem uc:(match Tryz.prog.underlying 47 with |some (.struct fs)=>(fs[0]?).map (fun fl=>tK Tryz.prog fl.type)|_=>none)=some (some (false,1)):=by kernel_rfl
theorem Ds:(match Tryz.prog.underlying 47 with |some (.struct fs)=>(fs[1]?).map (fun fl=>tK Tryz.prog fl.type)|_=>none)=some (some (false,1)):=by kernel_rfl
theorem T1:tV Tryz.prog 3=some (vI 0):=by kernel_rfl
theorem si:tV Tryz.prog 47=some (Value.agg [(vI 0),(vI 0)].toArray):=by kernel_rfl
theorem Fp:tX Tryz.prog 148=some (2,3):=by kernel_rfl
theorem EA:tX Tryz.prog 151=some (4,150):=by kernel_rfl
theorem lh:tZ Tryz.prog 3=some [(vI 0)]:=by kernel_rfl
theorem Uq:tZ Tryz.prog 4=some [(vB false)]:=by kernel_rfl
theorem QL:tZ Tryz.prog 12=some [(Value.int .u64 0)]:=by kernel_rfl
theorem TR:tZ Tryz.prog 24=some [(vS none 0 0)]:=by kernel_rfl
theorem TU:tZ Tryz.prog 28=some [(vS none 0 0),(vI 0),(vS none 0 0),(vS none 0 0),(vI 0),(vI 0),(vI 0)]:=by kernel_rfl
theorem Sa:tZ Tryz.prog 29=some [(vS none 0 0)]:=by kernel_rfl
theorem qC:tZ Tryz.prog 32=some [(vS none 0 0),(vI 0),(vS none 0 0),(vS none 0 0),(vI 0),(vI 0),(vI 0),(vS none 0 0),(vS none 0 0),(vI 0),(vS none 0 0)]:=by kernel_rfl
theorem dk:tZ Tryz.prog 47=some [(vI 0),(vI 0)]:=by kernel_rfl
theorem Tp:tZ Tryz.prog 53=some [Value.nilFunc]:=by kernel_rfl
theorem Td:tZ Tryz.prog 74=some [(vI 0),(vI 0),(vS none 0 0)]:=by kernel_rfl
theorem Ty:tZ Tryz.prog 76=some [(vB false),(vB false),(vI 0),(vI 0),(vI 0),(vI 0),(vS none 0 0)]:=by kernel_rfl
theorem RC:tZ Tryz.prog 77=some [(Value.pointer none)]:=by kernel_rfl
theorem Qy:tZ Tryz.prog 78=some [(vS none 0 0)]:=by kernel_rfl
theorem SP:tZ Tryz.prog 86=some [(Value.map none)]:=by kernel_rfl
theorem zm:tZ Tryz.prog 119=some [(vI 0),(vS none 0 0)]:=by kernel_rfl
theorem RG:tZ Tryz.prog 121=some [(Value.map none)]:=by kernel_rfl
theorem th:tZ Tryz.prog 137=some [(vI 0),(vI 0),(vI 0)]:=by kernel_rfl
theorem EK:tZ Tryz.prog 139=some [(vI 0),(vI 0),(vI 0)]:=by kernel_rfl
theorem Fk:tZ Tryz.prog 150=some [Value.nilFunc]:=by kernel_rfl
theorem Qg:tZ Tryz.prog 151=some [Value.nilFunc,Value.nilFunc,Value.nilFunc,Value.nilFunc]:=by kernel_rfl
theorem JP:tZ Tryz.prog 163=some [(vI 0),(vI 0),(vI 0),(vI 0),(vI 0),(vI 0),(vI 0),(Value.int .u8 0),(vI 0)]:=by kernel_rfl
theorem Kg:tZ Tryz.prog 165=some [(vI 0),(vI 0)]:=by kernel_rfl
theorem I5:tZ Tryz.prog 216=some [(vS none 0 0)]:=by kernel_rfl
theorem NA:tZ Tryz.prog 232=some [(vS none 0 0),(vS none 0 0),(vS none 0 0)]:=by kernel_rfl
theorem Sq:tZ Tryz.prog 235=some [(vS none 0 0),(vS none 0 0),(vS none 0 0)]:=by kernel_rfl
theorem Rg:tZ Tryz.prog 268=some [Value.nilFunc]:=by kernel_rfl
theorem sO:tZ Tryz.prog 282=some [(vI 0),(vI 0)]:=by kernel_rfl
theorem mF:Tryz.prog.underlying 3=some (.int .i64):=by kernel_rfl
theorem SI:Tryz.prog.underlying 4=some .bool:=by kernel_rfl
theorem Rj:Tryz.prog.underlying 5=some (.int .u8):=by kernel_rfl
theorem Uj:Tryz.prog.underlying 9=some .string:=by kernel_rfl
theorem O9:Tryz.prog.underlying 22=some (.slice 163):=by kernel_rfl
theorem Ra:Tryz.prog.underlying 25=some (.slice 119):=by kernel_rfl
theorem Pa:Tryz.prog.underlying 26=some (.slice 141):=by kernel_rfl
theorem Rr:Tryz.prog.underlying 29=some (.slice 3):=by kernel_rfl
theorem QU:Tryz.prog.underlying 30=some (.slice 71):=by kernel_rfl
theorem Sv:Tryz.prog.underlying 71=some (.slice 76):=by kernel_rfl
theorem Qv:Tryz.prog.underlying 72=some (.slice 165):=by kernel_rfl
theorem lH:Tryz.prog.underlying 86=some (.map 3 47):=by kernel_rfl
theorem N6:Tryz.prog.underlying 117=some (.slice 137):=by kernel_rfl
theorem vc:Tryz.prog.underlying 121=some (.map 3 4):=by kernel_rfl
theorem QE:Tryz.prog.underlying 145=some (.int .u64):=by kernel_rfl
theorem QS:Tryz.prog.underlying 179=some (.int .u64):=by kernel_rfl
theorem oM:Tryz.prog.underlying 280=some (.map 282 3):=by kernel_rfl
theorem OM:fL Tryz.prog 47=some [(3,0),(3,1)]:=by kernel_rfl
theorem wQ (d:Nat) (s z:ab) (w:World):(Op.equalIn (d+2) 47 (.agg s.cells.toArray) (.agg z.cells.toArray)).run Tryz.prog w= .ok (decide (s=z)) w:=by
 have hc:(decide (s.Lo=z.Lo)&&(decide (s.Hi=z.Hi)&&true))=decide (s=z):=by rw [Bool.eq_iff_iff]; simp [ab.ext_iff]
 rw [← hc]
 exact kE (d+1) OM w (gu w (eo wH U w) (eo wH U w) (ks _ mF w) (gu w (eo wH U w) (eo wH U w) (ks _ mF w) (pE w)))
theorem xh (x y:Operand) (s z:ab):gj Tryz.prog .eql 47 x y (.agg s.cells.toArray) (.agg z.cells.toArray) (.bool (decide (s=z))):=Gw x y (oY OM) fun w=>wQ 9998 s z w
theorem Ru (x y:Operand) (s z:ab):gj Tryz.prog .neq 47 x y (.agg s.cells.toArray) (.agg z.cells.toArray) (.bool (!decide (s=z))):=o4 x y (oY OM) fun w=>wQ 9998 s z w
theorem N8:fL Tryz.prog 137=some [(3,0),(47,1)]:=by kernel_rfl
theorem OP (d:Nat) (s z:ck) (w:World):(Op.equalIn (d+3) 137 (.agg s.cells.toArray) (.agg z.cells.toArray)).run Tryz.prog w= .ok (decide (s=z)) w:=by
 have hc:(decide (s.At=z.At)&&(decide (s.dD=z.dD)&&true))=decide (s=z):=by rw [Bool.eq_iff_iff]; simp [ck.ext_iff]
 rw [← hc]
 exact kE (d+2) N8 w (gu w (eo wH U w) (eo wH U w) (ks _ mF w) (gu w (iL (vs:=ab.cells s.dD) wE U w) (iL (vs:=ab.cells z.dD) wE U w) (wQ (d+0) s.dD z.dD w) (pE w)))
theorem Jm (x y:Operand) (s z:ck):gj Tryz.prog .neq 137 x y (.agg s.cells.toArray) (.agg z.cells.toArray) (.bool (!decide (s=z))):=o4 x y (oY N8) fun w=>OP 9997 s z w
theorem Sd:fL Tryz.prog 139=some [(3,0),(47,1)]:=by kernel_rfl
theorem ON (d:Nat) (s z:cP) (w:World):(Op.equalIn (d+3) 139 (.agg s.cells.toArray) (.agg z.cells.toArray)).run Tryz.prog w= .ok (decide (s=z)) w:=by
 have hc:(decide (s.aV=z.aV)&&(decide (s.lf=z.lf)&&true))=decide (s=z):=by rw [Bool.eq_iff_iff]; simp [cP.ext_iff]
 rw [← hc]
 exact kE (d+2) Sd w (gu w (eo wH U w) (eo wH U w) (ks _ mF w) (gu w (iL (vs:=ab.cells s.lf) wE U w) (iL (vs:=ab.cells z.lf) wE U w) (wQ (d+0) s.lf z.lf w) (pE w)))
theorem NC:fL Tryz.prog 141=some [(139,0),(3,3)]:=by kernel_rfl
theorem PS (d:Nat) (s z:bI) (w:World):(Op.equalIn (d+4) 141 (.agg s.cells.toArray) (.agg z.cells.toArray)).run Tryz.prog w= .ok (decide (s=z)) w:=by
 have hc:(decide (s.kv=z.kv)&&(decide (s.jr=z.jr)&&true))=decide (s=z):=by rw [Bool.eq_iff_iff]; simp [bI.ext_iff]
 rw [← hc]
 exact kE (d+3) NC w (gu w (iL (vs:=cP.cells s.kv) Kq U w) (iL (vs:=cP.cells z.kv) Kq U w) (ON (d+0) s.kv z.kv w) (gu w (eo wH U w) (eo wH U w) (ks _ mF w) (pE w)))
theorem PG (x y:Operand) (s z:bI):gj Tryz.prog .neq 141 x y (.agg s.cells.toArray) (.agg z.cells.toArray) (.bool (!decide (s=z))):=o4 x y (oY NC) fun w=>PS 9996 s z w
theorem Nv:fL Tryz.prog 163=some [(3,0),(47,1),(47,3),(47,5),(5,7),(3,8)]:=by kernel_rfl
theorem Og (d:Nat) (s z:al) (w:World):(Op.equalIn (d+3) 163 (.agg s.cells.toArray) (.agg z.cells.toArray)).run Tryz.prog w= .ok (decide (s=z)) w:=by
 have hc:(decide (s.Id=z.Id)&&(decide (s.jn=z.jn)&&(decide (s.j_=z.j_)&&(decide (s.dC=z.dC)&&(decide (s.iv=z.iv)&&(decide (s.wF=z.wF)&&true))))))=decide (s=z):=by rw [Bool.eq_iff_iff]; simp [al.ext_iff]
 rw [← hc]
 exact kE (d+2) Nv w (gu w (eo wH U w) (eo wH U w) (ks _ mF w) (gu w (iL (vs:=ab.cells s.jn) wE U w) (iL (vs:=ab.cells z.jn) wE U w) (wQ (d+0) s.jn z.jn w) (gu w (iL (vs:=ab.cells s.j_) wE U w) (iL (vs:=ab.cells z.j_) wE U w) (wQ (d+0) s.j_ z.j_ w) (gu w (iL (vs:=ab.cells s.dC) wE U w) (iL (vs:=ab.cells z.dC) wE U w) (wQ (d+0) s.dC z.dC w) (gu w (eo TY U w) (eo TY U w) (ks _ Rj w) (gu w (eo wH U w) (eo wH U w) (ks _ mF w) (pE w)))))))
theorem Pn (x y:Operand) (s z:al):gj Tryz.prog .neq 163 x y (.agg s.cells.toArray) (.agg z.cells.toArray) (.bool (!decide (s=z))):=o4 x y (oY Nv) fun w=>Og 9997 s z w
theorem NZ:fL Tryz.prog 165=some [(3,0),(3,1)]:=by kernel_rfl
theorem O3 (d:Nat) (s z:aK) (w:World):(Op.equalIn (d+2) 165 (.agg s.cells.toArray) (.agg z.cells.toArray)).run Tryz.prog w= .ok (decide (s=z)) w:=by
 have hc:(decide (s.fM=z.fM)&&(decide (s.Read=z.Read)&&true))=decide (s=z):=by rw [Bool.eq_iff_iff]; simp [aK.ext_iff]
 rw [← hc]
 exact kE (d+1) NZ w (gu w (eo wH U w) (eo wH U w) (ks _ mF w) (gu w (eo wH U w) (eo wH U w) (ks _ mF w) (pE w)))
theorem OL (x y:Operand) (s z:aK):gj Tryz.prog .neq 165 x y (.agg s.cells.toArray) (.agg z.cells.toArray) (.bool (!decide (s=z))):=o4 x y (oY NZ) fun w=>O3 9998 s z w
theorem NX:fL Tryz.prog 282=some [(3,0),(3,1)]:=by kernel_rfl
theorem Oz (d:Nat) (s z:aF) (w:World):(Op.equalIn (d+2) 282 (.agg s.cells.toArray) (.agg z.cells.toArray)).run Tryz.prog w= .ok (decide (s=z)) w:=by
 have hc:(decide (s.right=z.right)&&(decide (s.eE=z.eE)&&true))=decide (s=z):=by rw [Bool.eq_iff_iff]; simp [aF.ext_iff]
 rw [← hc]
 exact kE (d+1) NX w (gu w (eo wH U w) (eo wH U w) (ks _ mF w) (gu w (eo wH U w) (eo wH U w) (ks _ mF w) (pE w)))
theorem cf:Tryz.prog.follows .mixedOrders=true:=by kernel_rfl
def TT:CJ:=⟨[(1,false,1),(2,false,1),(3,false,1),(4,false,1),(5,false,1),(6,false,1),(7,true,4),(8,true,4),(12,false,1),(15,false,1),(16,false,1),(17,false,1),(18,true,1),(19,true,1),(21,false,1),(22,false,1),(23,true,1),(24,true,1),(25,false,1),(26,false,1),(27,true,7),(28,true,7),(29,false,1),(30,false,1),(31,true,11),(32,true,11),(33,false,1),(34,false,1),(36,false,1),(38,false,1),(40,false,1),(42,false,1),(43,false,1),(44,false,1),(45,false,1),(46,true,2),(47,true,2),(49,false,1),(51,false,1),(52,false,1),(53,false,1),(54,false,1),(55,false,1),(56,false,1),(57,false,1),(59,false,1),(61,false,1),(63,false,1),(65,false,1),(66,false,1),(67,false,1),(68,false,1),(69,false,1),(70,false,1),(71,false,1),(72,false,1),(73,true,3),(74,true,3),(75,true,7),(76,true,7),(77,false,1),(78,false,1),(80,false,1),(81,false,1),(82,false,1),(84,false,1),(85,false,1),(86,false,1),(87,false,1),(89,false,1),(90,false,1),(92,false,1),(93,false,1),(94,false,1),(96,false,1),(97,false,1),(98,false,1),(99,true,13),(100,true,13),(101,false,1),(102,false,1),(103,false,1),(104,false,1),(105,false,1),(106,false,1),(107,false,1),(108,false,1),(109,false,1),(110,false,1),(111,false,1),(112,false,1),(113,false,1),(114,false,1),(115,false,1),(116,false,1),(117,false,1),(118,true,2),(119,true,2),(120,false,1),(121,false,1),(122,false,1),(123,false,1),(124,false,1),(125,false,1),(127,false,1),(128,false,1),(129,false,1),(130,false,1),(131,false,1),(132,false,1),(133,false,1),(134,false,1),(135,false,1),(136,true,3),(137,true,3),(138,true,3),(139,true,3),(140,true,4),(141,true,4),(142,false,1),(143,false,1),(144,false,1),(145,false,1),(146,false,1),(147,false,1),(148,true,2),(149,false,1),(150,true,1),(151,true,4),(152,false,1),(153,false,1),(154,false,1),(155,false,1),(156,true,2),(157,true,2),(158,true,6),(159,false,1),(160,false,1),(161,false,1),(162,true,9),(163,true,9),(164,true,2),(165,true,2),(166,false,1),(167,false,1),(168,false,1),(170,false,1),(171,false,1),(172,false,1),(173,false,1),(175,false,1),(176,false,1),(177,false,1),(178,false,1),(179,false,1),(180,false,1),(181,false,1),(182,false,1),(183,false,1),(184,false,1),(185,false,1),(186,false,1),(187,false,1),(188,false,1),(189,false,1),(190,false,1),(191,false,1),(192,false,1),(193,false,1),(194,false,1),(195,false,1),(196,false,1),(197,false,1),(198,false,1),(199,false,1),(200,false,1),(201,false,1),(202,false,1),(203,false,1),(204,false,1),(205,false,1),(206,false,1),(207,false,1),(208,false,1),(209,false,1),(211,false,1),(212,false,1),(213,false,1),(214,false,1),(215,true,1),(216,true,1),(218,false,1),(219,false,1),(221,false,1),(222,false,1),(223,false,1),(224,false,1),(226,false,1),(227,false,1),(228,false,1),(229,false,1),(230,false,1),(231,true,3),(232,true,3),(233,false,1),(234,true,3),(235,true,3),(236,false,1),(237,false,1),(238,false,1),(239,false,1),(240,false,1),(241,false,1),(242,false,1),(243,false,1),(244,false,1),(245,false,1),(246,false,1),(247,false,1),(250,true,0),(251,true,0),(252,true,0),(253,false,1),(254,false,1),(255,false,1),(256,false,1),(257,false,1),(258,false,1),(259,false,1),(260,true,11),(261,true,11),(263,false,1),(264,false,1),(265,false,1),(267,false,1),(268,false,1),(269,false,1),(270,false,1),(271,false,1),(272,false,1),(273,false,1),(274,false,1),(275,true,14),(276,true,14),(277,false,1),(278,false,1),(279,false,1),(280,false,1),(281,true,2),(282,true,2),(283,false,1),(284,false,1),(285,false,1),(286,false,1)],[(7,[some 0,some 1,some 2,some 3]),(8,[some 0,some 1,some 2,some 3]),(18,[some 0]),(19,[some 0]),(23,[some 0]),(24,[some 0]),(27,[some 0,some 1,some 2,some 3,some 4,some 5,some 6]),(28,[some 0,some 1,some 2,some 3,some 4,some 5,some 6]),(31,[some 0,some 7,some 8,some 9,some 10]),(32,[some 0,some 7,some 8,some 9,some 10]),(46,[some 0,some 1]),(47,[some 0,some 1]),(73,[some 0,some 1,some 2]),(74,[some 0,some 1,some 2]),(75,[some 0,some 1,some 2,some 4]),(76,[some 0,some 1,some 2,some 4]),(99,[some 0,some 11,some 12]),(100,[some 0,some 11,some 12]),(118,[some 0,some 1]),(119,[some 0,some 1]),(136,[some 0,some 1]),(137,[some 0,some 1]),(138,[some 0,some 1]),(139,[some 0,some 1]),(140,[some 0,some 3]),(141,[some 0,some 3]),(150,[some 0]),(156,[some 0,some 1]),(157,[some 0,some 1]),(162,[some 0,some 1,some 3,some 5,some 7,some 8]),(163,[some 0,some 1,some 3,some 5,some 7,some 8]),(164,[some 0,some 1]),(165,[some 0,some 1]),(215,[some 0]),(216,[some 0]),(231,[some 0,some 1,some 2]),(232,[some 0,some 1,some 2]),(234,[some 0,some 1,some 2]),(235,[some 0,some 1,some 2]),(260,[some 0,some 1,some 2,some 3,some 4,some 5,some 6,some 7,some 8,some 9,some 10]),(261,[some 0,some 1,some 2,some 3,some 4,some 5,some 6,some 7,some 8,some 9,some 10]),(275,[some 0,some 7,some 10,some 11,some 12,some 13]),(276,[some 0,some 7,some 10,some 11,some 12,some 13]),(281,[some 0,some 1]),(282,[some 0,some 1])],[22,25,26,29,30,57,71,72,78,82,114,117,154,209,236,272,273,274]⟩
theorem p5:kP Tryz.prog TT:=Oa kr
theorem bX {t:TypeId} {x:Bool×Nat} (h:TT.JI t=some x:=by rfl):tK Tryz.prog t=some x:=p5.JI h
theorem e_ {s f k:Nat} (h:TT.foF s f=some k:=by rfl):qP Tryz.prog s f=some k:=p5.foF h
end
section
open Go.RowKit
/-- blocks that are read -/
def MM (C:List aw) (M:List (Nat×List Value)):Prop:= ∀ p∈M,∀ o vs,(p.2.drop o).take vs.length=vs→At C (some ⟨p.1,o,none⟩) vs
theorem mn {C:List aw}:MM C []:=fun p h=>by cases h
theorem mc {C:List aw} {b t:Nat} {cs:List Value} {M:List (Nat×List Value)} (i:Nat) (hC:C[i]? =some (cq b t cs)) (h:MM C M):MM C ((b,cs)::M):=fun p hp o vs hv=>by
 rcases List.mem_cons.1 hp with rfl|hp
 ·exact pc i hC hv
 ·exact h p hp o vs hv
theorem mr {C:List aw} {b t:Nat} {cs:List Value} {M:List (Nat×List Value)} (i:Nat) (hC:C[i]? =some (cq b t cs).ro) (h:MM C M):MM C ((b,cs)::M):=fun p hp o vs hv=>by
 rcases List.mem_cons.1 hp with rfl|hp
 ·exact vp i hC hv
 ·exact h p hp o vs hv
def pV:List Prop→Prop
 |[]=>True
 |p::l=>p∧pV l
theorem j0 {p:Prop} {l:List Prop} (h:p) (h2:pV l):pV (p::l):=⟨h,h2⟩
/-- the value of an operation, what it asks for, and what is left of the list of places -/
def pv (T:CJ) (ops:Array Oper) (M:List (Nat×List Value)) (L:List (Nat×Value)) (hs:List Nat) (g:Option (Nat×Bool)) (op:Op):Option (Value×List Prop×List Nat):=
 match CE ops L g with
 |true=>some (undef,[],hs)
 |false=>match jx ops L g with
  |false=>none
  |true=>match op with
   | .move x=>match ev L x with
    |some v=>some (v,[],hs)
    |none=>none
   | .assign x=>match ev L x with
    |some v=>some (v,[],hs)
    |none=>none
   | .pick c x y=>match ev L c with
    |some (.bool true)=>match ev L x with
     |some v=>some (v,[],hs)
     |none=>none
    |some (.bool false)=>match ev L y with
     |some v=>some (v,[],hs)
     |none=>none
    |_=>none
   | .unOp .not _ x=>match ev L x with
    |some (.bool b)=>some (.bool !b,[],hs)
    |_=>none
   | .extract x i=>match ev L x with
    |some (.tuple vs)=>match vs.toList[i]? with
     |some v=>some (v,[],hs)
     |none=>none
    |_=>none
   | .fieldAddr s x f=>match ev L x with
    |some (.pointer (some ⟨b,o,none⟩))=>match T.foF s f with
     |some k=>some (.pointer (some ⟨b,o+k,none⟩),[],hs)
     |none=>none
    |_=>none
   | .binOp op _ x y _=>match ev L x with
    |some (.int .i64 a)=>match ev L y with
     |some (.int .i64 b)=>match op with
      | .lss=>some (.bool (decide (a<b)),[],hs)
      | .leq=>some (.bool (decide (a≤b)),[],hs)
      | .gtr=>some (.bool (decide (b<a)),[],hs)
      | .geq=>some (.bool (decide (b≤a)),[],hs)
      | .eql=>some (.bool (decide (a=b)),[],hs)
      | .neq=>some (.bool (!decide (a=b)),[],hs)
      | .add=>some (.int .i64 (a+b),[-9223372036854775808≤a+b,a+b≤9223372036854775807],hs)
      | .sub=>some (.int .i64 (a-b),[-9223372036854775808≤a-b,a-b≤9223372036854775807],hs)
      |_=>none
     |_=>none
    |_=>none
   | .load t x=>match ev L x with
    |some (.pointer (some ⟨b,o,none⟩))=>match M[hs.headD 0]? with
     |some (b',cs)=>match T.JI t with
      |some (false,_)=>match cs[o]? with
       |some v=>some (v,[b'=b],hs.tail)
       |none=>none
      |some (true,n)=>match Nat.beq o 0 with
       |true=>match Nat.beq cs.length n with
        |true=>some (.agg cs.toArray,[b'=b],hs.tail)
        |false=>none
       |false=>none
      |none=>none
     |none=>none
    |_=>none
   | .call c=>match c with
    |{callee:= .builtin .len,args:=xs,argTypes:=ts}=>match xs.toList with
     |[x]=>match ts.toList with
      |[t]=>match ev L x with
       |some (.slice A n c)=>match Lf T.sl t with
        |true=>some (.int .i64 n,[],hs)
        |false=>none
       |_=>none
      |_=>none
     |_=>none
    |_=>none
   |_=>none
section
variable {E:eU} {T:CJ} {ops:Array Oper} {M:List (Nat×List Value)} {D:List Deferred} {L:List (Nat×Value)} {C:List aw} {hs hs':List Nat}
theorem uQ {cs:List Value} {o:Nat} {v:Value} (h:cs[o]? =some v):(cs.drop o).take [v].length=[v]:=by
 obtain ⟨hl,rfl⟩:=List.getElem?_eq_some_iff.1 h
 rw [List.drop_eq_getElem_cons hl]; rfl
theorem Q6 {o:Oper} {v:Value} {S:List Prop} (hT:kP E.P T) (hM:MM C M) (h:pv T ops M L hs o.guard o.op=some (v,S,hs')) (hS:pV S):SD E ops o D L C v:=by
 obtain ⟨dst,op,ty,ps,af,g⟩:=o
 unfold pv at h
 simp only at h
 split at h
 ·rename_i hg
  cases h
  exact IS hg
 ·split at h
  ·cases h
  ·rename_i hg
   split at h
   ·split at h
    ·rename_i hx; cases h; exact FE hg hx
    ·cases h
   ·split at h
    ·rename_i hx; cases h; exact zd hg hx
    ·cases h
   ·split at h
    ·rename_i hc
     split at h
     ·rename_i hx; cases h; exact yI hg hc hx
     ·cases h
    ·rename_i hc
     split at h
     ·rename_i hx; cases h; exact zt hg hc hx
     ·cases h
    ·cases h
   ·split at h
    ·rename_i hx; cases h; exact H8 hg hx
    ·cases h
   ·split at h
    ·rename_i vs hx
     split at h
     ·rename_i v' hv; cases h; exact w4 (vs:=vs.toList) hg (by simpa using hx) hv
     ·cases h
    ·cases h
   ·split at h
    ·rename_i hx
     split at h
     ·rename_i hk; cases h; exact N0 hg hx (hT.foF hk) rfl
     ·cases h
    ·cases h
   ·split at h
    ·rename_i hx
     split at h
     ·rename_i hy
      split at h
      ·cases h; exact cM hg hx hy jG
      ·cases h; exact cM hg hx hy Rp
      ·cases h; exact cM hg hx hy QG
      ·cases h; exact cM hg hx hy Fb
      ·cases h; exact cM hg hx hy qp
      ·cases h; exact cM hg hx hy rQ
      ·cases h; exact cM hg hx hy (iP ⟨hS.1,hS.2.1⟩)
      ·cases h; exact cM hg hx hy (s8 ⟨hS.1,hS.2.1⟩)
      ·cases h
     ·cases h
    ·cases h
   ·split at h
    ·rename_i hx
     split at h
     ·rename_i b' cs hm
      have A:=aR hm
      split at h
      ·rename_i hk
       split at h
       ·rename_i hv
        cases h
        obtain rfl:=hS.1
        exact uI hg hx (hT.JI hk) (hM _ A _ _ (uQ hv))
       ·cases h
      ·rename_i n hk
       split at h
       ·rename_i ho
        split at h
        ·rename_i hn
         cases h
         obtain rfl:=hS.1
         have H:=Nat.eq_of_beq_eq_true ho
         subst H
         exact xo hg hx (hT.JI hk) (hM _ A 0 cs sm) (Nat.eq_of_beq_eq_true hn)
        ·cases h
       ·cases h
      ·cases h
     ·cases h
    ·cases h
   ·split at h
    ·rename_i xs ts
     split at h
     ·rename_i x G
      split at h
      ·rename_i t F
       split at h
       ·rename_i hx
        split at h
        ·rename_i B
         cases h
         obtain ⟨e,he⟩:=hT.sl t (Cs B)
         have AA:xs= #[x]:=by apply Array.ext'; simpa using G
         have J:ts= #[t]:=by apply Array.ext'; simpa using F
         subst AA J
         exact Jr hg hx he
        ·cases h
       ·cases h
      ·cases h
     ·cases h
    ·cases h
   ·cases h
def pr (T:CJ) (n:Nat) (ops:Array Oper) (M:List (Nat×List Value)):Nat→List Nat→List (Nat×Value)→List Oper→Option (List (Nat×Value)×List Oper×List Prop)
 |0,_,L,rest=>some (L,rest,[])
 |k+1,hs,L,[]=>none
 |k+1,hs,L,o::rest=>match o.dst with
  |none=>none
  |some d=>match Nat.blt d n with
   |false=>none
   |true=>match pv T ops M L hs o.guard o.op with
    |none=>none
    |some (v,S,hs')=>match pr T n ops M k hs' ((d,v)::L) rest with
     |none=>none
     |some (L',rest',S')=>some (L',rest',S++S')
theorem wO: ∀ {S S':List Prop},pV (S++S')→pV S∧pV S'
 |[],S',h=>⟨trivial,h⟩
 |p::S,S',h=>⟨⟨h.1,(wO h.2).1⟩,(wO h.2).2⟩
/-- whatever is closed under single steps -/
theorem JX {J:List Oper→List (Nat×Value)→Prop} (hT:kP E.P T) (hM:MM C M) (hJ: ∀ o rest L d v,SD E ops o D L C v→o.dst=some d→Nat.blt d E.n=true→J rest ((d,v)::L)→J (o::rest) L):
 ∀ (k:Nat) (hs:List Nat) (L:List (Nat×Value)) (rest:List Oper) {L':List (Nat×Value)} {rest':List Oper} {S:List Prop},pr T E.n ops M k hs L rest=some (L',rest',S)→pV S→J rest' L'→J rest L
 |0,hs,L,rest,L',rest',S,h,hS,hj=>by
  unfold pr at h
  cases h
  exact hj
 |k+1,hs,L,[],L',rest',S,h,hS,hj=>by unfold pr at h; cases h
 |k+1,hs,L,o::rest,L',rest',S,h,hS,hj=>by
  unfold pr at h
  split at h
  ·cases h
  ·rename_i d hd
   split at h
   ·cases h
   ·rename_i hn
    split at h
    ·cases h
    ·rename_i v S1 A hv
     split at h
     ·cases h
     ·rename_i L1 G S2 hr
      cases h
      obtain ⟨B,F⟩:=wO hS
      exact hJ o rest L d v (Q6 hT hM hv B) hd hn (JX hT hM hJ k A _ rest hr F hj)
variable {Q:cY} {rest rest':List Oper} {L0 L':List (Nat×Value)} {S:List Prop} {F:List (Nat×Value)→Prop}
/-- a run of operations, one after the other -/
theorem rP (k:Nat) (hs:List Nat) (hM:MM C M) (j:RJ E ops Q rest' D L' C) (hT:kP E.P T:=by exact p5) (h:pr T E.n ops M k hs L rest=some (L0,rest',S):=by rfl) (hL:L0=L':=by (try dsimp only)<;>rfl) (hS:pV S:=by repeat' first|exact True.intro |refine j0 ?_ ?_ |exact rfl|omega|(dsimp only; omega)):RJ E ops Q rest D L C:=by
 subst hL
 exact JX (J:=fun r L=>RJ E ops Q r D L C) hT hM (fun o rest L d v A B F G=>Sf A B F G) k hs L rest h hS j
theorem dP (k:Nat) (hs:List Nat) (hM:MM C M) (j:DJ E ops D C F rest' L') (hT:kP E.P T:=by exact p5) (h:pr T E.n ops M k hs L rest=some (L0,rest',S):=by rfl) (hL:L0=L':=by (try dsimp only)<;>rfl) (hS:pV S:=by repeat' first|exact True.intro |refine j0 ?_ ?_ |exact rfl|omega):DJ E ops D C F rest L:=by
 subst hL
 exact JX (J:=fun r L=>DJ E ops D C F r L) hT hM (fun o rest L d v A B G H=>Rf A B G H) k hs L rest h hS j
end
section
variable {P:Program} {r:Option Nat} {n:Nat} {B:BS} {w0:World} {ops:Array Oper} {M:List (Nat×List Value)} {D:List Deferred} {L L':List (Nat×Value)} {C:List aw} {Q:cY} {rest rest':List Oper} {S:List Prop} {F:List (Nat×Value)→Prop}
theorem e7 (k:Nat) (hs:List Nat) (hM:MM C M) (h:pr TT n ops M k hs L rest=some (L',rest',S)) (j:RJ ⟨P,r,n,B,w0⟩ ops Q rest' D L' C) (hS:pV S:=by repeat' first|exact True.intro |refine j0 ?_ ?_ |exact rfl|omega|(dsimp only; omega)) (hT:kP P TT:=by exact p5):RJ ⟨P,r,n,B,w0⟩ ops Q rest D L C:=rP k hs hM j hT h rfl hS
theorem l0 (k:Nat) (hs:List Nat) (hM:MM C M) (h:pr TT n ops M k hs L rest=some (L',rest',S)) (j:DJ ⟨P,r,n,B,w0⟩ ops D C F rest' L') (hS:pV S:=by repeat' first|exact True.intro |refine j0 ?_ ?_ |exact rfl|omega|(dsimp only; omega)) (hT:kP P TT:=by exact p5):DJ ⟨P,r,n,B,w0⟩ ops D C F rest L:=dP k hs hM j hT h rfl hS
theorem aY (k:Nat) (h:pr TT n ops [] k [] L rest=some (L',rest',S)) (j:RJ ⟨P,r,n,B,w0⟩ ops Q rest' D L' C) (hS:pV S:=by repeat' first|exact True.intro |refine j0 ?_ ?_ |exact rfl|omega|(dsimp only; omega)) (hT:kP P TT:=by exact p5):RJ ⟨P,r,n,B,w0⟩ ops Q rest D L C:=rP k [] mn j hT h rfl hS
theorem lq (k:Nat) (h:pr TT n ops [] k [] L rest=some (L',rest',S)) (j:DJ ⟨P,r,n,B,w0⟩ ops D C F rest' L') (hS:pV S:=by repeat' first|exact True.intro |refine j0 ?_ ?_ |exact rfl|omega|(dsimp only; omega)) (hT:kP P TT:=by exact p5):DJ ⟨P,r,n,B,w0⟩ ops D C F rest L:=dP k [] mn j hT h rfl hS
end
end
section
open Go.RowKit
/-- parts of a context, reckoned to the end -/
def qO (C:List aw):List Nat→Option (List aw)
 |[]=>some []
 |i::is=>match C[i]? with
  |some A=>match qO C is with
   |some l=>some (A::l)
   |none=>none
  |none=>none
theorem k8 {C:List aw}: ∀ {is:List Nat} {C':List aw},qO C is=some C'→kz C is=C'
 |[],C',h=>by cases h; rfl
 |i::is,C',h=>by
  unfold qO at h
  split at h
  ·rename_i A hA
   split at h
   ·rename_i l hl
    cases h
    show List.filterMap (C[·]?) (i::is)=A::l
    rw [List.filterMap_cons_some hA]
    exact congrArg _ (k8 hl)
   ·cases h
  ·cases h
/-- a part of a context in place of the whole -/
theorem aD {S:BS} {w0:World} {C C':List aw} (is:List Nat) (hn:decide is.Nodup=true:=by rfl) (hC:kz C is=C':=by rfl): ∀ w,St S w0 C w→St S w0 C' w:=fun w h=>St.kz is hn hC h
theorem Rt {S:BS} {w0:World} {C C':List aw} (is:List Nat) (hC:qO C is=some C') (hn:decide is.Nodup=true:=by rfl): ∀ w,St S w0 C w→St S w0 C' w:=fun w h=>St.kz is hn (k8 hC) h
def Nl (C:List aw) (i:Nat) (B:aw):Option (List aw):=match i,C with
 |0,_::C=>some (B::C)
 |i+1,A::C=>match Nl C i B with
  |some l=>some (A::l)
  |none=>none
 |_,[]=>none
theorem Ft: ∀ {C:List aw} {i:Nat} {B:aw} {C':List aw},Nl C i B=some C'→C.set i B=C'
 |[],0,B,C',h=>by cases h
 |[],i+1,B,C',h=>by cases h
 |A::C,0,B,C',h=>by cases h; rfl
 |A::C,i+1,B,C',h=>by
  unfold Nl at h
  split at h
  ·rename_i l hl
   cases h
   exact congrArg _ (Ft hl)
  ·cases h
theorem gP {E:eU} {K:Act→World→Prop} {D:List Deferred} {L:List (Nat×Value)} {C C':List aw} {A B:aw} (i:Nat) (hC:C[i]? =some A) (hh:(∀ w,A.holds w→B.holds w)∧(∀ b,B.e9 b→A.e9 b)∧ ∀ b,B.wf b→A.wf b) (hC':Nl C i B=some C') (h:KJ E K D L C'):KJ E K D L C:=It i hC hh (Ft hC') h
/-- the operations of a region but these; marks of some places -/
def Tb (n:Nat) (T:List Nat):List Nat:=(List.range n).filter fun i=> !T.contains i
def T_ (k:Nat) (t:List Nat):List Bool:=(List.range k).map fun i=>t.contains i
theorem dp {E:eU} {id:Nat} {ops:Array Oper} {Q:cY} {D:List Deferred} {L:List (Nat×Value)} {C:List aw} (hm:E.P.follows .mixedOrders=true) (T fe tb i1 i2:List Nat) {C' C1:List aw} {free:List Nat} {feb tbb:List Bool}
 (h1:qO C i1=some C') (h2:qO C i2=some C1) (hf:free=Tb ops.size T) (hfe:feb=T_ free.length fe) (htb:tbb=T_ T.length tb)
 (h:qe E ops D C' C1 (fun L'=>TJ E ops D C' C1 (fun L C=>KJ E (Q .normal) D L C) tbb (eG ops T) L' C) feb (eG ops free) L)
 (hc:LD ops free T feb tbb=true:=by kernel_rfl) (n1:decide i1.Nodup=true:=by rfl) (n2:decide i2.Nodup=true:=by rfl):WJ E (.region id ops true) Q D L C:=
 Mq hm free T feb tbb C' C1 hc (Rt i1 h1 n1) (Rt i2 h2 n2) h
end
section
open Go.RowKit
def vo (T:CJ) (M:List (Nat×List Value)) (L:List (Nat×Value)):List ResultVar→List Nat→Option (List Value×List Prop)
 |[],_=>some ([],[])
 | .tmp t::rs,hs=>match L.lookup t with
  |some v=>match vo T M L rs hs with
   |some (vs,S)=>some (v::vs,S)
   |none=>none
  |none=>none
 | .cell a t::rs,hs=>match L.lookup a with
  |some (.pointer (some ⟨b,o,none⟩))=>match M[hs.headD 0]? with
   |some (b',cs)=>match T.JI t with
    |some (false,_)=>match cs[o]? with
     |some v=>match vo T M L rs hs.tail with
      |some (vs,S)=>some (v::vs,(b'=b)::S)
      |none=>none
     |none=>none
    |some (true,n)=>match Nat.beq o 0 with
     |true=>match Nat.beq cs.length n with
      |true=>match vo T M L rs hs.tail with
       |some (vs,S)=>some (.agg cs.toArray::vs,(b'=b)::S)
       |none=>none
      |false=>none
     |false=>match vo T M L rs hs.tail with
      |some (vs,S)=>some (.agg ((cs.drop o).take n).toArray::vs,(b'=b)::(((cs.drop o).take n).length=n)::S)
      |none=>none
    |none=>none
   |none=>none
  |_=>none
theorem oh {P:Program} {T:CJ} {M:List (Nat×List Value)} {L:List (Nat×Value)} {C:List aw} (hT:kP P T) (hM:MM C M): ∀ (rs:List ResultVar) (hs:List Nat) {vs:List Value} {S:List Prop},vo T M L rs hs=some (vs,S)→pV S→F1 P L C rs vs
 |[],_,vs,S,h,hS=>by unfold vo at h; cases h; exact trivial
 | .tmp t::rs,hs,vs,S,h,hS=>by
  unfold vo at h
  split at h
  ·rename_i v hv
   split at h
   ·rename_i vs' S' hr
    cases h
    exact ⟨hv,oh hT hM rs hs hr hS⟩
   ·cases h
  ·cases h
 | .cell a t::rs,hs,vs,S,h,hS=>by
  unfold vo at h
  split at h
  ·rename_i b o hl
   split at h
   ·rename_i b' cs hm
    have A:=aR hm
    split at h
    ·rename_i hk
     split at h
     ·rename_i v hv
      split at h
      ·rename_i vs' S' hr
       cases h
       obtain ⟨rfl,hS⟩:=hS
       exact ⟨⟨_,hl,.inr ⟨_,hT.JI hk,hM _ A _ _ (uQ hv)⟩⟩,oh hT hM rs _ hr hS⟩
      ·cases h
     ·cases h
    ·rename_i n hk
     split at h
     ·rename_i ho
      split at h
      ·rename_i hn
       split at h
       ·rename_i vs' S' hr
        cases h
        obtain ⟨rfl,hS⟩:=hS
        have D:=Nat.eq_of_beq_eq_true ho
        subst D
        exact ⟨⟨_,hl,.inl ⟨_,cs,hT.JI hk,hM _ A 0 cs sm,Nat.eq_of_beq_eq_true hn,U⟩⟩,oh hT hM rs _ hr hS⟩
       ·cases h
      ·cases h
     ·split at h
      ·rename_i vs' S' hr
       cases h
       obtain ⟨rfl,B,hS⟩:=hS
       exact ⟨⟨_,hl,.inl ⟨_,_,hT.JI hk,hM _ A o _ (by rw [B]),B,U⟩⟩,oh hT hM rs _ hr hS⟩
      ·cases h
    ·cases h
   ·cases h
  ·cases h
section
variable {P:Program} {n:Nat} {fn:Func} {w0:World} {K:Act→World→Prop} {L:List (Nat×Value)} {C:List aw} {M:List (Nat×List Value)} {vs:List Value} {S:List Prop} {u x v:Value}
theorem Lt (hQ: ∀ D L C,LJ ⟨P,none,n,tR,w0⟩ fn (DD w0 v) D L C→KJ ⟨P,none,n,tR,w0⟩ K D L C) (hs:List Nat) (hM:MM C M) (h:vo TT M L fn.results.toList hs=some ([u],S)) (e:u=v) (hS:pV S:=by repeat' first|exact True.intro |refine j0 rfl ?_) (hT:kP P TT:=by exact p5):KJ ⟨P,none,n,tR,w0⟩ K [] L C:=
 hQ _ _ _ (g3 (oh hT hM _ _ h hS) fun w hs=>G7 e hs)
theorem mo (hQ: ∀ D L C,LJ ⟨P,none,n,tR,w0⟩ fn (DD w0 v) D L C→KJ ⟨P,none,n,tR,w0⟩ K D L C) (hs:List Nat) (hM:MM C M) (h:vo TT M L fn.results.toList hs=some (u::x::vs,S)) (e:Value.tuple (u::x::vs).toArray=v) (hS:pV S:=by repeat' first|exact True.intro |refine j0 rfl ?_) (hT:kP P TT:=by exact p5):KJ ⟨P,none,n,tR,w0⟩ K [] L C:=
 hQ _ _ _ (g3 (oh hT hM _ _ h hS) fun w hs=>G7 e hs)
theorem LX {α:Type} {V:α→Value} {p:α→Prop} {N:α→List aw} (hQ: ∀ D L C,LJ ⟨P,none,n,tR,w0⟩ fn (JE w0 V p N) D L C→KJ ⟨P,none,n,tR,w0⟩ K D L C) (x:α) (is hs:List Nat) (hM:MM C M) (h:vo TT M L fn.results.toList hs=some (vs,S)) (hw:(N x).all (·.wr)=true) (hN:kz C is=N x) (hV:PT vs=V x) (hp:p x) (hn:decide is.Nodup=true:=by rfl) (hS:pV S:=by repeat' first|exact True.intro |refine j0 rfl ?_) (hT:kP P TT:=by exact p5):KJ ⟨P,none,n,tR,w0⟩ K [] L C:=
 hQ _ _ _ (g3 (oh hT hM _ _ h hS) fun w hs=>Kp x is hV hp hn hN hw hs)
theorem LM {A:aw} {α:Type} {V:α→Value} {p:α→Prop} {A':α→aw} (hQ: ∀ D L C,LJ ⟨P,none,n,⟨A.wf,fun _=>True⟩,w0⟩ fn (MB w0 A V p A') D L C→KJ ⟨P,none,n,⟨A.wf,fun _=>True⟩,w0⟩ K D L C) (x:α) (i:Nat) (hs:List Nat) (hM:MM C M) (h:vo TT M L fn.results.toList hs=some (vs,S)) (hw:(A' x).wr=true) (hC:C[i]? =some (A' x)) (hV:PT vs=V x) (hp:p x) (hS:pV S:=by repeat' exact True.intro) (hT:kP P TT:=by exact p5):KJ ⟨P,none,n,⟨A.wf,fun _=>True⟩,w0⟩ K [] L C:=
 hQ _ _ _ (g3 (oh hT hM _ _ h hS) fun w hs=>Si x i hV hp hC hw hs)
end
end
section
open Go.RowKit
def Er {α:Type _}:List α→List α→Option (List α)
 |[],m=>some m
 |a::l,m=>match Er l m with
  |some r=>some (a::r)
  |none=>none
theorem Fs {α:Type _}: ∀ {l m r:List α},Er l m=some r→l++m=r
 |[],m,r,h=>by cases h; rfl
 |a::l,m,r,h=>by
  unfold Er at h
  split at h
  ·rename_i r' hr
   cases h
   exact congrArg (a:: ·) (Fs hr)
  ·cases h
def Sx (L:List (Nat×Value)):List Nat→Option (List (Nat×Value))
 |[]=>some []
 |t::ts=>match L.lookup t with
  |some v=>match Sx L ts with
   |some r=>some ((t,v)::r)
   |none=>none
  |none=>none
theorem EO {L M:List (Nat×Value)} (k:cO L M): ∀ {ts:List Nat} {r:List (Nat×Value)},Sx L ts=some r→cO L (r++M)
 |[],r,h=>by cases h; exact k
 |t::ts,r,h=>by
  unfold Sx at h
  split at h
  ·rename_i v hv
   split at h
   ·rename_i r' hr
    cases h
    exact cO.cons hv (EO k hr)
   ·cases h
  ·cases h
section
variable {E:eU} {Q:cY} {D:List Deferred} {L L0:List (Nat×Value)} {C C0:List aw} {ι:Type} {Li:ι→List (Nat×Value)} {Ci:ι→List aw}
theorem bx {c:Code} (kL kC:List Nat) (hL:Sx L kL=some L0) (hC0:qO C kC=some C0) (S:ι→List (Nat×Value)) (G:ι→List aw) (hLi: ∀ x,Er L0 (S x)=some (Li x)) (hCi: ∀ x,Er C0 (G x)=some (Ci x)) (μ:ι→Nat) (x0:ι)
 (h0:cO L (S x0)) (hC: ∀ w,St E.S E.w0 C w→St E.S E.w0 (Ci x0) w)
 (round: ∀ x (J:Act→World→Prop),(∀ y D' L' C',D'=D→μ y<μ x→cO L' (Li y)→(∀ w,St E.S E.w0 C' w→St E.S E.w0 (Ci y) w)→KJ E J D' L' C')→WJ E c (Exit.then J Q) D (Li x) (Ci x)):WJ E (.loop c) Q D L C:=
 Ot Li Ci μ x0 (Fs (hLi x0)▸EO h0 hL) hC round
theorem nV {x y:Code} (kL kC:List Nat) (hL:Sx L kL=some L0) (hC0:qO C kC=some C0) (S:ι→List (Nat×Value)) (G:ι→List aw) (hLi: ∀ x,Er L0 (S x)=some (Li x)) (hCi: ∀ x,Er C0 (G x)=some (Ci x))
 (hy: ∀ z,WJ E y Q D (Li z) (Ci z)) (h: ∀ K:Act→World→Prop,(∀ z,KJ E K D (Li z) (Ci z))→WJ E x (Exit.then K Q) D L C):WJ E (.seq x y) Q D L C:=OW Li Ci hy h
end
end
section
open Go.RowKit
set_option linter.unusedSectionVars false
/-- what is asked of keys -/
structure ua (P:Program) (kt:Nat) {K:Type} (kV:K→Value):Prop where
 check: ∀ (e:Bool) (x:K) (w:World),(Instr.checkKey e 10000 kt (kV x)).run P w= .ok () w
 find: ∀ (x:K) (w:World) (es:List MapEntry),(∀ e∈es,∃ k,e.key=kV k)→
  ((Instr.findKey kt (kV x) es).run P w= .ok none w∧ ∀ e∈es,e.key≠kV x)∨ ∃ j e,(Instr.findKey kt (kV x) es).run P w= .ok (some (j,e.val)) w∧es[j]? =some e∧e.key=kV x
 bits: ∀ x,Instr.sameBits 10000 (kV x) (kV x)=true
 inj: ∀ x y,kV x=kV y→x=y
section
variable {K:Type} [DecidableEq K] {kV:K→Value}
def er {β:Type} (l:List (K×β)) (x:K) (y:β):List (K×β):=if (l.lookup x).isSome then l.map (fun p=>if p.1=x then (x,y) else p) else l++[(x,y)]
def ct {β:Type} (l:List (K×β)) (x:K):List (K×β):=l.filter fun p=> !decide (p.1=x)
def bQ {β γ:Type} (f:β→γ) (l:List (K×β)):List (K×γ):=l.map fun p=>(p.1,f p.2)
theorem Gd {β γ:Type} (f:β→γ) (l:List (K×β)):(bQ f l).length=l.length:=by simp [bQ]
theorem mN {β γ:Type} (f:β→γ) (x:K): ∀ l:List (K×β),(bQ f l).lookup x=(l.lookup x).map f
 |[]=>rfl
 |p::l=>by
  obtain ⟨k,v⟩:=p
  have ih:=mN f x l
  by_cases h:x=k
  ·subst h; simp [bQ,List.lookup]
  ·have:(x==k)=false:=by simpa using h
   simp only [bQ,List.map_cons,List.lookup,this] at ih ⊢
   exact ih
theorem gT {β γ:Type} (f:β→γ) (l:List (K×β)) (x:K) (y:β):bQ f (er l x y)=er (bQ f l) x (f y):=by
 unfold er
 rw [mN,Option.isSome_map]
 split
 ·simp only [bQ,List.map_map]
  refine List.map_congr_left fun p _=>?_
  simp only [Function.comp]
  split<;>rfl
 ·simp [bQ]
theorem lR {β γ:Type} (f:β→γ) (l:List (K×β)) (x:K):bQ f (ct l x)=ct (bQ f l) x:=by
 unfold ct bQ
 rw [List.filter_map]
 rfl
theorem jf {β:Type} {x:K}: ∀ {l:List (K×β)},l.lookup x=none↔ ∀ p∈l,p.1≠x
 |[]=>by simp
 |p::l=>by
  obtain ⟨k,v⟩:=p
  by_cases h:x=k
  ·subst h; simp [List.lookup]
  ·have hb:(x==k)=false:=by simpa using h
   simp only [List.lookup,hb,dL,forall_eq_or_imp]
   rw [jf (l:=l)]
   exact ⟨fun q=>⟨fun e=>h e.symm,q⟩,fun q=>q.2⟩
theorem jQ {β:Type} {x:K} {y:β}: ∀ {l:List (K×β)},(l.map (·.1)).Nodup→((x,y)∈l↔l.lookup x=some y)
 |[],_=>by simp
 |p::l,hn=>by
  obtain ⟨k,v⟩:=p
  simp only [List.map_cons,List.nodup_cons] at hn
  by_cases h:x=k
  ·subst h
   simp only [List.lookup,beq_self_eq_true,dL,Prod.mk.injEq,true_and,Option.some.injEq]
   constructor
   ·rintro (e|e)
    ·exact e.symm
    ·exact absurd (List.mem_map.2 ⟨_,e,U⟩) hn.1
   ·intro e; exact .inl e.symm
  ·have hb:(x==k)=false:=by simpa using h
   simp only [List.lookup,hb,dL,Prod.mk.injEq,h,false_and,false_or]
   exact jQ hn.2
structure iJ (kV:K→Value) (es:Array MapEntry) (c:Nat) (m:List (K×Value)):Prop where
 list:es.toList.map (fun (e:MapEntry)=>(e.key,e.val))=m.map (fun p=>(kV p.1,p.2))
 keys:(m.map (·.1)).Nodup
 Iv: ∀ e∈es.toList,e.born<c
 born:(es.toList.map (·.born)).Nodup
def hU (kV:K→Value) (b:Nat) (m:List (K×Value)):aw where
 e9 k:=k=b
 wf k:=k=b
 holds w:= ∃ es c,w.heap[b]? =some (.map es c)∧iJ kV es c m
 wr:=true
 kq _ h:=h
 whole _ _ h:=h
 lt w h k hk:=by obtain ⟨es,c,he,_⟩:=h; exact hk▸dR he
 oq w w' hk h:=by obtain ⟨es,c,he,hm⟩:=h; exact ⟨es,c,(hk b rfl).trans he,hm⟩
theorem iJ.nil:iJ kV #[] 0 []:=⟨rfl,List.nodup_nil,sm,List.nodup_nil⟩
theorem iJ.size {es:Array MapEntry} {c:Nat} {m:List (K×Value)} (h:iJ kV es c m):es.size=m.length:=by
 have:=congrArg List.length h.list
 simpa using this
theorem Dx {P:Program} {kt:Nat} (hk:ua P kt kV) (x:K): ∀ (es:List MapEntry) (m:List (K×Value)),es.map (fun (e:MapEntry)=>(e.key,e.val))=m.map (fun p=>(kV p.1,p.2))→
 ((∀ e∈es,e.key≠kV x)→m.lookup x=none)∧ ∀ (j:Nat) (e:MapEntry),es[j]? =some e→e.key=kV x→m[j]? =some (x,e.val):=by
 intro es m h
 refine ⟨fun hn=>jf.2 fun p hp e=>?_,fun j e he hx=>?_⟩
 ·have:(kV p.1,p.2)∈es.map (fun (e:MapEntry)=>(e.key,e.val)):=by rw [h]; exact List.mem_map.2 ⟨p,hp,rfl⟩
  obtain ⟨z,hz,B⟩:=List.mem_map.1 this
  simp only [Prod.mk.injEq] at B
  exact hn z hz (by rw [B.1,e])
 ·have A:(es.map (fun (e:MapEntry)=>(e.key,e.val)))[j]? =some (e.key,e.val):=by rw [fj,he]; rfl
  rw [h,fj] at A
  cases hm:m[j]? with
  |none=>simp [hm] at A
  |some p=>
   simp only [hm,Option.map_some,Option.some.injEq,Prod.mk.injEq] at A
   have:=hk.inj _ _ (A.1.trans hx)
   obtain ⟨k,v⟩:=p
   simp only at this A
   rw [this,A.2]
theorem oV {P:Program} {w:World} {kt:Nat} {x:K} {es:Array MapEntry} {c:Nat} {m:List (K×Value)} (hk:ua P kt kV) (h:iJ kV es c m):
 ((Instr.findKey kt (kV x) es.toList).run P w= .ok none w∧m.lookup x=none)∨
 ∃ j v,(Instr.findKey kt (kV x) es.toList).run P w= .ok (some (j,v)) w∧m[j]? =some (x,v)∧m.lookup x=some v:=by
 obtain ⟨D,E⟩:=Dx hk x es.toList m h.list
 rcases hk.find x w es.toList (fun e he=>by
  have:(e.key,e.val)∈m.map (fun p=>(kV p.1,p.2)):=by rw [← h.list]; exact List.mem_map.2 ⟨e,he,rfl⟩
  obtain ⟨p,_,hp⟩:=List.mem_map.1 this
  simp only [Prod.mk.injEq] at hp
  exact ⟨p.1,hp.1.symm⟩) with ⟨A,B⟩|⟨j,e,A,B,C⟩
 ·exact .inl ⟨A,D B⟩
 ·have:=E j e B C
  exact .inr ⟨j,e.val,A,this,(jQ h.keys).1 (aR this)⟩
theorem iu {P:Program} {w:World} {kt:Nat} {x:K} (hk:ua P kt kV) (e:Bool):(Instr.checkKey e 10000 kt (kV x)).run P w= .ok () w:=hk.check e x w
section
variable {E:eU} {ops:Array Oper} {Q:cY} {rest:List Oper} {D:List Deferred} {L:List (Nat×Value)} {C:List aw}
variable {dst:Option Tmp} {d:Nat} {ty:TypeId} {ps:String} {af:Array Edge} {g:Option (Nat×Bool)}
theorem nA {t:TypeId} (hg:jx ops L g=true) (hd:Nat.blt d E.n=true) (k: ∀ b,RJ E ops Q rest D ((d,.map (some b))::L) (hU kV b []::C)):RJ E ops Q (⟨some d,.makeMap t none,ty,ps,af,g⟩::rest) D L C:=by
 intro a w B hs
 have hd':d<E.n:=by rw [← Nat.blt_eq]; exact hd
 unfold rY
 rw [if_pos (dV B hg)]
 refine hE (v:= .map (some w.heap.size)) (w':=w.alloc (.map #[] 0)) sm ?_ ?_
 ·simp [execOp,Instr.makeMap,newObj,Sem.run]
 ·refine k _ _ _ (B.put hd' _) (hs.grow (dI.alloc no w _) (N:=[hU kV w.heap.size []]) ⟨fun A hA=>?_,fun A hA b hb=>?_,List.pairwise_singleton _ _⟩)
  ·simp at hA; subst hA; exact ⟨#[],0,heap_alloc_new w _,iJ.nil⟩
  ·simp at hA; subst hA; exact Nat.le_of_eq (Eq.symm hb)
theorem iJ.push {es:Array MapEntry} {c:Nat} {m:List (K×Value)} (h:iJ kV es c m) {x:K} (hx:m.lookup x=none) (v:Value):iJ kV (es.push {key:=kV x,val:=v,born:=c}) (c+1) (m++[(x,v)]):=by
 refine ⟨by simp [h.list],?_,?_,?_⟩
 ·rw [List.map_append,List.nodup_append]
  refine ⟨h.keys,sm,fun a ha b hb=>?_⟩
  simp at hb; subst hb
  obtain ⟨p,hp,rfl⟩:=List.mem_map.1 ha
  exact jf.1 hx p hp
 ·intro e he
  simp only [Array.toList_push,jB,bK] at he
  rcases he with he|rfl
  ·exact Nat.lt_succ_of_lt (h.Iv e he)
  ·exact Nat.lt_succ_self _
 ·simp only [Array.toList_push,List.map_append,List.map_cons,List.map_nil]
  rw [List.nodup_append]
  refine ⟨h.born,sm,fun a ha b hb=>?_⟩
  simp at hb; subst hb
  obtain ⟨p,hp,rfl⟩:=List.mem_map.1 ha
  exact Nat.ne_of_lt (h.Iv p hp)
theorem M4 {m:List (K×Value)} {j:Nat} {x:K} {v0 v:Value} (hn:(m.map (·.1)).Nodup) (hj:m[j]? =some (x,v0)):m.map (fun p=>if p.1=x then (x,v) else p)=m.set j (x,v):=by
 refine List.ext_getElem? fun i=>?_
 rw [fj,List.getElem?_set]
 by_cases e:j=i
 ·subst e
  have hl:=(List.getElem?_eq_some_iff.1 hj).1
  rw [hj]; simp [hl]
 ·rw [if_neg e]
  cases hi:m[i]? with
  |none=>rfl
  |some p=>
   simp only [Option.map_some]
   rw [if_neg]
   intro hp
   have B:(m.map (·.1))[i]? =some x:=by rw [fj,hi]; simp [hp]
   have C:(m.map (·.1))[j]? =some x:=by rw [fj,hj]; rfl
   have A:=(List.getElem?_eq_some_iff.1 B).1
   exact e (((List.getElem?_inj A hn).1 (B.trans C.symm)).symm)
theorem iJ.set {es:Array MapEntry} {c:Nat} {m:List (K×Value)} (h:iJ kV es c m) {x:K} {j:Nat} {v0:Value} (hj:m[j]? =some (x,v0)) (hx:m.lookup x=some v0) (v:Value):
 iJ kV (es.modify j fun e=>{e with key:=kV x,val:=v}) c (er m x v):=by
 have C:er m x v=m.set j (x,v):=by unfold er; rw [hx]; simpa using M4 h.keys hj
 have hl:=(List.getElem?_eq_some_iff.1 hj).1
 have E:=h.size
 have A:j<es.size:=by omega
 have B:(es.modify j fun e=>{e with key:=kV x,val:=v}).toList=es.toList.set j {(es[j]) with key:=kV x,val:=v}:=by
  refine List.ext_getElem? fun i=>?_
  rw [Array.getElem?_toList,Array.getElem?_modify,List.getElem?_set]
  by_cases e:j=i
  ·subst e; simp [A]
  ·simp [e]
 have D:(es.toList.set j {(es[j]) with key:=kV x,val:=v}).map (·.born)=es.toList.map (·.born):=by
  rw [List.map_set]
  refine List.ext_getElem? fun i=>?_
  rw [List.getElem?_set]
  by_cases e:j=i
  ·subst e; simp [A]
  ·rw [if_neg e]
 refine ⟨?_,?_,?_,?_⟩
 ·rw [B,C,List.map_set,List.map_set,h.list]
 ·rw [C,List.map_set]
  have:(m.map (·.1)).set j x=m.map (·.1):=by
   refine List.ext_getElem? fun i=>?_
   rw [List.getElem?_set]
   by_cases e:j=i
   ·subst e; simp [hl]; simpa using (congrArg Prod.fst ((List.getElem?_eq_some_iff.1 hj).2)).symm
   ·rw [if_neg e]
  simp only [this]
  exact h.keys
 ·intro e he
  rw [B] at he
  have hb:e.born∈(es.toList.set j {(es[j]) with key:=kV x,val:=v}).map (·.born):=List.mem_map.2 ⟨e,he,rfl⟩
  rw [D] at hb
  obtain ⟨e',he',hq⟩:=List.mem_map.1 hb
  rw [← hq]; exact h.Iv e' he'
 ·rw [B,D]; exact h.born
/-- m[x] = y -/
theorem jw {t kt et:TypeId} {xm xk xv:Operand} {b:Nat} {x:K} {v:Value} {m m':List (K×Value)} {C':List aw} (i:Nat) (hg:jx ops L g=true) (hm:ev L xm=some (.map (some b))) (hk:ev L xk=some (kV x)) (hv:ev L xv=some v)
 (ht:E.P.underlying t=some (.map kt et)) (hkt:ua E.P kt kV) (hC:C[i]? =some (hU kV b m)) (hm':er m x v=m') (hC':C.set i (hU kV b m')=C') (k:RJ E ops Q rest D L C'):
 RJ E ops Q (⟨none,.mapUpdate t xm xk xv,ty,ps,af,g⟩::rest) D L C:=by
 subst hm' hC'
 intro a w A hs
 unfold rY
 rw [if_pos (dV A hg)]
 obtain ⟨es,c,he,hi⟩:=hs.holds _ (aR hC)
 have B:(getObj b).run E.P w= .ok (.map es c) w:=MapKept.run_getObj_map he
 rcases oV (P:=E.P) (w:=w) (x:=x) hkt hi with ⟨AA,F⟩|⟨j,N,AA,F,J⟩
 ·refine ru (w':={w with heap:=w.heap.setIfInBounds b (.map (es.push {key:=kV x,val:=v,born:=c}) (c+1))}) sm ?_ ?_
  ·simp [execOp,A.ev hm,A.ev hk,A.ev hv,Instr.mapUpdate,run_underlying ht,B,iu hkt,AA,MapKept.run_setObj_map _ he]
  ·refine k _ _ ⟨A.defers,A.size,A.at_⟩ (hs.Bp (b:=b) i hC U U (mS _) (fun _ h=>h) ⟨_,_,o6 he,?_⟩)
   have:er m x v=m++[(x,v)]:=by unfold er; rw [F]; rfl
   rw [this]; exact hi.push F v
 ·have M:=hi.size
  have G:j<es.size:=by have:=(List.getElem?_eq_some_iff.1 F).1; omega
  have H:(es[j]).key=kV x:=by
   have:=congrArg (fun l=>l[j]?) hi.list
   simp [G,F] at this
   exact this.1
  refine ru (w':={w with heap:=w.heap.setIfInBounds b (.map (es.modify j fun e=>{e with key:=kV x,val:=v}) c)}) sm ?_ ?_
  ·simp [execOp,A.ev hm,A.ev hk,A.ev hv,Instr.mapUpdate,run_underlying ht,B,iu hkt,AA,MapKept.run_setObj_map _ he,Instr.keyThatStays,G,H,hkt.bits x]
  ·exact k _ _ ⟨A.defers,A.size,A.at_⟩ (hs.Bp (b:=b) i hC U U (mS _) (fun _ h=>h) ⟨_,_,o6 he,hi.set F J v⟩)
theorem iJ.del {es:Array MapEntry} {c:Nat} {m:List (K×Value)} (h:iJ kV es c m) {x:K} {j:Nat} {v0:Value} (hj:m[j]? =some (x,v0)):iJ kV (es.eraseIdxIfInBounds j) c (ct m x):=by
 have hl:=(List.getElem?_eq_some_iff.1 hj).1
 have D:=h.size
 have A:j<es.size:=by omega
 have B:(es.eraseIdxIfInBounds j).toList=es.toList.eraseIdx j:=by simp [Array.eraseIdxIfInBounds,A]
 have E:ct m x=m.eraseIdx j:=by
  have hn:=h.keys
  clear h D A B
  induction m generalizing j with
  |nil=>simp at hj
  |cons p m ih=>
   obtain ⟨k,v⟩:=p
   simp only [List.map_cons,List.nodup_cons] at hn
   cases j with
   |zero=>
    simp at hj
    obtain ⟨rfl,rfl⟩:=hj
    simp only [ct,List.eraseIdx_zero,List.tail_cons]
    rw [List.filter_cons_of_neg sm]
    refine List.filter_eq_self.2 fun p hp=>?_
    have:p.1≠k:=fun e=>hn.1 (List.mem_map.2 ⟨p,hp,e⟩)
    simpa using this
   |succ j=>
    simp only [List.getElem?_cons_succ] at hj
    have C:k≠x:=fun e=>hn.1 (List.mem_map.2 ⟨_,aR hj,e.symm⟩)
    simp only [ct,List.eraseIdx_cons_succ] at ih ⊢
    rw [List.filter_cons_of_pos (by simpa using C),ih hj (by simpa using (List.getElem?_eq_some_iff.1 hj).1) hn.2]
 have sub:(es.eraseIdxIfInBounds j).toList.Sublist es.toList:=by rw [B]; exact List.eraseIdx_sublist _ _
 refine ⟨?_,?_,fun e he=>h.Iv e (sub.subset he),h.born.sublist (sub.map _)⟩
 ·rw [B,E,ChangeMaps.map_eraseIdx,ChangeMaps.map_eraseIdx,h.list]
 ·rw [E]; exact h.keys.sublist ((List.eraseIdx_sublist _ _).map _)
theorem Em {m:List (K×Value)} {x:K} (h:m.lookup x=none):ct m x=m:=List.filter_eq_self.2 fun p hp=>by simpa using jf.1 h p hp
/-- y, ok := m[x] -/
theorem Ku {t kt et:TypeId} {xm xk:Operand} {b:Nat} {x:K} {z:Value} {m:List (K×Value)} (hg:jx ops L g=true) (hm:ev L xm=some (.map (some b))) (hk:ev L xk=some (kV x))
 (ht:E.P.underlying t=some (.map kt et)) (hkt:ua E.P kt kV) (hz:tV E.P et=some z) (hC:gI C (hU kV b m).holds):
 SD E ops ⟨dst,.lookup t xm xk true,ty,ps,af,g⟩ D L C (.tuple [(m.lookup x).getD z,.bool (m.lookup x).isSome].toArray):=
 dH hg sm fun a w A hs=>by
  obtain ⟨es,c,he,hi⟩:=hs.has hC
  have B:(getObj b).run E.P w= .ok (.map es c) w:=MapKept.run_getObj_map he
  rcases oV (P:=E.P) (w:=w) (x:=x) hkt hi with ⟨F,G⟩|⟨j,AA,F,G,H⟩
  ·simp [execOp,Instr.lookup,A.ev hm,A.ev hk,run_underlying ht,B,iu hkt,F,G,JY hz]
  ·simp [execOp,Instr.lookup,A.ev hm,A.ev hk,run_underlying ht,B,iu hkt,F,H]
/-- m[x] -/
theorem FY {t kt et:TypeId} {xm xk:Operand} {b:Nat} {x:K} {z:Value} {m:List (K×Value)} (hg:jx ops L g=true) (hm:ev L xm=some (.map (some b))) (hk:ev L xk=some (kV x))
 (ht:E.P.underlying t=some (.map kt et)) (hkt:ua E.P kt kV) (hz:tV E.P et=some z) (hC:gI C (hU kV b m).holds):
 SD E ops ⟨dst,.lookup t xm xk false,ty,ps,af,g⟩ D L C ((m.lookup x).getD z):=
 dH hg sm fun a w A hs=>by
  obtain ⟨es,c,he,hi⟩:=hs.has hC
  have B:(getObj b).run E.P w= .ok (.map es c) w:=MapKept.run_getObj_map he
  rcases oV (P:=E.P) (w:=w) (x:=x) hkt hi with ⟨F,G⟩|⟨j,AA,F,G,H⟩
  ·simp [execOp,Instr.lookup,A.ev hm,A.ev hk,run_underlying ht,B,iu hkt,F,G,JY hz]
  ·simp [execOp,Instr.lookup,A.ev hm,A.ev hk,run_underlying ht,B,iu hkt,F,H]
/-- len(m) -/
theorem Js {t kt et:TypeId} {xm:Operand} {b:Nat} {m:List (K×Value)} (hg:jx ops L g=true) (hm:ev L xm=some (.map (some b))) (ht:E.P.underlying t=some (.map kt et)) (hC:gI C (hU kV b m).holds):
 SD E ops ⟨dst,.call {callee:= .builtin .len,args:= #[xm],argTypes:= #[t]},ty,ps,af,g⟩ D L C (.int .i64 (m.length:Int)):=
 dH hg sm fun a w B hs=>by
  obtain ⟨es,c,he,hi⟩:=hs.has hC
  have A:(getObj b).run E.P w= .ok (.map es c) w:=MapKept.run_getObj_map he
  simp [execOp,resolve,invoke,builtin,B.ev hm,Builtin.len_,run_underlying ht,A,hi.size,goInt]
theorem jd {β:Type} {t kt et:TypeId} {xm xk:Operand} {b:Nat} {x:K} {f:β→Value} {z:β} {l:List (K×β)} (hg:jx ops L g=true) (hm:ev L xm=some (.map (some b))) (hk:ev L xk=some (kV x))
 (ht:E.P.underlying t=some (.map kt et)) (hkt:ua E.P kt kV) (hz:tV E.P et=some (f z)) (hC:gI C (hU kV b (bQ f l)).holds):
 SD E ops ⟨dst,.lookup t xm xk true,ty,ps,af,g⟩ D L C (.tuple [f ((l.lookup x).getD z),.bool (l.lookup x).isSome].toArray):=by
 have:=Ku (dst:=dst) (ty:=ty) (ps:=ps) (af:=af) (D:=D) hg hm hk ht hkt hz hC
 rw [mN] at this
 have A:((l.lookup x).map f).getD (f z)=f ((l.lookup x).getD z):=by cases l.lookup x<;>rfl
 rw [A,Option.isSome_map] at this
 exact this
theorem iU {β:Type} {t kt et:TypeId} {xm xk:Operand} {b:Nat} {x:K} {f:β→Value} {z:β} {l:List (K×β)} (hg:jx ops L g=true) (hm:ev L xm=some (.map (some b))) (hk:ev L xk=some (kV x))
 (ht:E.P.underlying t=some (.map kt et)) (hkt:ua E.P kt kV) (hz:tV E.P et=some (f z)) (hC:gI C (hU kV b (bQ f l)).holds):
 SD E ops ⟨dst,.lookup t xm xk false,ty,ps,af,g⟩ D L C (f ((l.lookup x).getD z)):=by
 have:=FY (dst:=dst) (ty:=ty) (ps:=ps) (af:=af) (D:=D) hg hm hk ht hkt hz hC
 rw [mN] at this
 have A:((l.lookup x).map f).getD (f z)=f ((l.lookup x).getD z):=by cases l.lookup x<;>rfl
 rw [A] at this
 exact this
theorem DB {β:Type} {t kt et:TypeId} {xm:Operand} {b:Nat} {f:β→Value} {l:List (K×β)} (hg:jx ops L g=true) (hm:ev L xm=some (.map (some b))) (ht:E.P.underlying t=some (.map kt et)) (hC:gI C (hU kV b (bQ f l)).holds):
 SD E ops ⟨dst,.call {callee:= .builtin .len,args:= #[xm],argTypes:= #[t]},ty,ps,af,g⟩ D L C (.int .i64 (l.length:Int)):=by
 have:=Js (dst:=dst) (ty:=ty) (ps:=ps) (af:=af) (D:=D) hg hm ht hC
 rwa [Gd] at this
end
theorem eI {β:Type} {x:K} {y:β} {l:List (K×β)} (h:(x,y)∈l):(ct l x).length<l.length:=by
 unfold ct
 exact List.length_filter_lt_length_iff_exists.2 ⟨_,h,sm⟩
theorem jZ {β:Type} {x:K} {p:K×β} {l:List (K×β)}:p∈ct l x↔p∈l∧p.1≠x:=by simp [ct]
/-- an iterator over a map: what is left; what came last -/
def yo (kV:K→Value) (r b:Nat) (m left:List (K×Value)) (cur:Option (K×Value)):aw where
 e9 k:=k=r∨k=b
 wf k:=k=r∨k=b
 holds w:=r≠b∧ ∃ (es:Array MapEntry) (c since:Nat) (seen:Array Nat) (st:Nat),w.heap[b]? =some (.map es c)∧iJ kV es c m∧w.heap[r]? =some (.mapIter (some b) since seen st)∧(∀ e∈es.toList,e.born<since)∧since≤st∧since≤c∧
  (leftOf es seen).toList.map (fun (e:MapEntry)=>(e.key,e.val))=left.map (fun p=>(kV p.1,p.2))∧
  ∀ p,cur=some p→ ∃ (e:MapEntry) (seen0:Array Nat),e∈es.toList∧seen=seen0.push e.born∧st=c∧e.key=kV p.1∧e.val=p.2
 wr:=true
 kq _ h:=h
 whole _ _ h:=h
 lt w h k hk:=by
  obtain ⟨_,es,c,since,seen,st,h1,_,h2,_⟩:=h
  rcases hk with rfl|rfl
  ·exact dR h2
  ·exact dR h1
 oq w w' hk h:=by
  obtain ⟨hne,es,c,since,seen,st,h1,h2,h3,h4⟩:=h
  exact ⟨hne,es,c,since,seen,st,(hk b (.inr rfl)).trans h1,h2,(hk r (.inl rfl)).trans h3,h4⟩
theorem wZ {r b:Nat} {m left:List (K×Value)} {cur:Option (K×Value)}:(∀ w,(yo kV r b m left cur).holds w→(yo kV r b m left none).holds w)∧(∀ k,(yo kV r b m left none).e9 k→(yo kV r b m left cur).e9 k)∧ ∀ k,(yo kV r b m left none).wf k→(yo kV r b m left cur).wf k:=
 ⟨fun w h=>by
  obtain ⟨A,es,c,since,seen,st,B,C,D,E,F,h5',G,_⟩:=h
  exact ⟨A,es,c,since,seen,st,B,C,D,E,F,h5',G,fun p hp=>by cases hp⟩,fun _ h=>h,fun _ h=>h⟩
theorem KT {r b:Nat} {m left:List (K×Value)} {cur:Option (K×Value)}:(∀ w,(yo kV r b m left cur).holds w→(hU kV b m).holds w)∧(∀ k,(hU kV b m).e9 k→(yo kV r b m left cur).e9 k)∧ ∀ k,(hU kV b m).wf k→(yo kV r b m left cur).wf k:=
 ⟨fun w h=>by
  obtain ⟨C,es,c,since,seen,st,A,B,_⟩:=h
  exact ⟨es,c,A,B⟩,fun _ h=> .inr h,fun _ h=> .inr h⟩
theorem Ba {es:Array MapEntry} {c:Nat} {m:List (K×Value)} (hinj: ∀ x y,kV x=kV y→x=y) (hi:iJ kV es c m) {x y:MapEntry} (hx:x∈es.toList) (hy:y∈es.toList) (e:x.key=y.key):x=y:=by
 have hk:(es.toList.map (·.key))=(m.map (·.1)).map kV:=by
  have:=congrArg (List.map Prod.fst) hi.list
  simpa [Function.comp_def] using this
 have h:(es.toList.map (·.key)).Nodup:=by
  rw [hk,List.nodup_iff_pairwise_ne,List.pairwise_map]
  exact hi.keys.imp (fun B he=>B (hinj _ _ he))
 obtain ⟨i,A⟩:=List.getElem?_of_mem hx
 obtain ⟨j,hj⟩:=List.getElem?_of_mem hy
 have C:(es.toList.map (·.key))[i]? =some x.key:=by rw [fj,A]; rfl
 have D:(es.toList.map (·.key))[j]? =some x.key:=by rw [fj,hj,e]; rfl
 have E:=(List.getElem?_inj (List.getElem?_eq_some_iff.1 C).1 h).1 (C.trans D.symm)
 subst E
 exact Option.some.inj (A.symm.trans hj)
section
variable {E:eU} {ops:Array Oper} {Q:cY} {rest:List Oper} {D:List Deferred} {L:List (Nat×Value)} {C:List aw}
variable {dst:Option Tmp} {d:Nat} {ty:TypeId} {ps:String} {af:Array Edge} {g:Option (Nat×Bool)}
theorem tY {t kt et:TypeId} {xm:Operand} {b:Nat} {m:List (K×Value)} (i:Nat) (hg:jx ops L g=true) (hm:ev L xm=some (.map (some b))) (ht:E.P.underlying t=some (.map kt et)) (hC:C[i]? =some (hU kV b m)) (hd:Nat.blt d E.n=true)
 (k: ∀ r,RJ E ops Q rest D ((d,.pointer (some ⟨r,0,none⟩))::L) (C.set i (yo kV r b m m none))):RJ E ops Q (⟨some d,.range t xm,ty,ps,af,g⟩::rest) D L C:=by
 intro a w A hs
 have hd':d<E.n:=by rw [← Nat.blt_eq]; exact hd
 unfold rY
 rw [if_pos (dV A hg)]
 obtain ⟨es,c,he,hi⟩:=hs.holds _ (aR hC)
 have F:b<w.heap.size:=dR he
 have B:(getObj b).run E.P w= .ok (.map es c) w:=MapKept.run_getObj_map he
 refine hE (v:= .pointer (some ⟨w.heap.size,0,none⟩)) (w':=w.alloc (.mapIter (some b) c #[] c)) sm ?_ ?_
 ·simp [execOp,Instr.range,A.ev hm,run_underlying ht,B,newObj,Sem.run]
 ·refine k _ _ _ (A.put hd' _) (hs.mv i hC ⟨⟨I,es,c,c,#[],c,?_,hi,heap_alloc_new w _,hi.Iv,Nat.le_refl _,Nat.le_refl _,?_,fun p hp=>by cases hp⟩,dI.alloc _ w _,fun q hq=>?_,fun q hq=>?_⟩)
  ·rw [Below.heap_alloc w _ b F]; exact he
  ·have:leftOf es #[]=es:=by unfold leftOf; exact Array.filter_eq_self.2 sm
   rw [this]; exact hi.list
  ·rcases hq with rfl|rfl
   ·exact .inr (Nat.le_refl _)
   ·exact .inl U
  ·rcases hq with rfl|rfl
   ·exact .inr (Nat.le_refl _)
   ·exact .inl U
theorem xR {es:Array MapEntry} {c:Nat} {m left:List (K×Value)} {seen:Array Nat} (hinj: ∀ x y,kV x=kV y→x=y) (hi:iJ kV es c m) (h:(leftOf es seen).toList.map (fun (e:MapEntry)=>(e.key,e.val))=left.map (fun p=>(kV p.1,p.2))):(left.map (·.1)).Nodup:=by
 have B:((leftOf es seen).toList.map (·.key)).Sublist (es.toList.map (·.key)):=by
  unfold leftOf; rw [Array.toList_filter]; exact List.filter_sublist.map _
 have D:(es.toList.map (·.key))=(m.map (·.1)).map kV:=by
  have:=congrArg (List.map Prod.fst) hi.list
  simpa [Function.comp_def] using this
 have E:((leftOf es seen).toList.map (·.key))=(left.map (·.1)).map kV:=by
  have:=congrArg (List.map Prod.fst) h
  simpa [Function.comp_def] using this
 rw [D,E] at B
 have F:((m.map (·.1)).map kV).Nodup:=by
  rw [List.nodup_iff_pairwise_ne,List.pairwise_map]
  exact hi.keys.imp (fun A he=>A (hinj _ _ he))
 have C:=F.sublist B
 rw [List.nodup_iff_pairwise_ne,List.pairwise_map] at C
 rw [List.nodup_iff_pairwise_ne]
 exact C.imp (fun A he=>A (by rw [he]))
theorem Ki (hinj: ∀ x y,kV x=kV y→x=y) {xi:Operand} {r b:Nat} {m left:List (K×Value)} {cur:Option (K×Value)} (i:Nat) (hg:jx ops L g=true) (hm:ev L xi=some (.pointer (some ⟨r,0,none⟩))) (hC:C[i]? =some (yo kV r b m left cur)) (hd:Nat.blt d E.n=true)
 (k0:left=[]→RJ E ops Q rest D ((d,.tuple [.bool false].toArray)::L) C)
 (k1: ∀ x v,(x,v)∈left→(left.map (·.1)).Nodup→RJ E ops Q rest D ((d,.tuple [.bool true,kV x,v].toArray)::L) (C.set i (yo kV r b m (ct left x) (some (x,v))))):
 RJ E ops Q (⟨some d,.next xi false,ty,ps,af,g⟩::rest) D L C:=by
 intro a w G hs
 have hd':d<E.n:=by rw [← Nat.blt_eq]; exact hd
 unfold rY
 rw [if_pos (dV G hg)]
 obtain ⟨R,es,c,since,seen,st,X,hi,Y,J,V,M,A,_⟩:=hs.holds _ (aR hC)
 rcases run_next_at (P:=E.P) w ty r b since st seen es c Y X J V with ⟨Z,hr⟩|⟨e,he,N,H,hr⟩
 ·refine hE (v:= .tuple #[.bool false]) (w':=w) sm ?_ ?_
  ·simp [execOp,G.ev hm,hr]
  ·refine k0 ?_ _ _ (G.put hd' _) hs
   have:(leftOf es seen).toList=[]:=by rw [← List.length_eq_zero_iff,Array.length_toList]; exact Z
   rw [this] at A
   exact List.map_eq_nil_iff.1 A.symm
 ·have O:(e.key,e.val)∈left.map (fun p=>(kV p.1,p.2)):=by rw [← A]; exact List.mem_map.2 ⟨e,he,rfl⟩
  obtain ⟨p,hp,S⟩:=List.mem_map.1 O
  obtain ⟨x,v⟩:=p
  simp only [Prod.mk.injEq] at S
  obtain ⟨hk,hv⟩:=S
  refine hE (v:= .tuple #[.bool true,e.key,e.val]) (w':=ChangeMaps.setBlock N r (.mapIter (some b) since (seen.push e.born) c)) sm ?_ ?_
  ·simp [execOp,G.ev hm,hr]
  ·rw [← hk,← hv]
   have AA:=xR hinj hi A
   have F:e∈es.toList:=by unfold leftOf at he; rw [Array.toList_filter] at he; exact (List.mem_filter.1 he).1
   have f:c=c:=rfl
   have B:N.heap=w.heap:=by rcases H with rfl|rfl<;>rfl
   refine k1 x v hp AA _ _ (G.put hd' _) (hs.mv i hC ⟨⟨R,es,c,since,seen.push e.born,c,?_,hi,?_,J,M,M,?_,fun q hq=>?_⟩,?_,fun q hq=> .inl hq,fun q hq=> .inl hq⟩)
   ·show (N.heap.setIfInBounds r _)[b]? =_
    rw [Array.getElem?_setIfInBounds_ne R,B]; exact X
   ·show (N.heap.setIfInBounds r _)[r]? =_
    rw [Array.getElem?_setIfInBounds_self_of_lt (by rw [B]; exact dR Y)]
   ·have T:leftOf es (seen.push e.born)=(leftOf es seen).filter (fun z=> !(z.born==e.born)):=by
     unfold leftOf
     rw [Array.filter_filter]
     congr 1
     funext z
     simp only [Array.contains_push,Bool.not_or]
     rw [Bool.and_comm]
    rw [T,Array.toList_filter]
    have key: ∀ (l:List MapEntry) (ll:List (K×Value)),(∀ z∈l,z∈es.toList)→l.map (fun (e:MapEntry)=>(e.key,e.val))=ll.map (fun p=>(kV p.1,p.2))→
     (l.filter (fun z=> !(z.born==e.born))).map (fun (e:MapEntry)=>(e.key,e.val))=(ct ll x).map (fun p=>(kV p.1,p.2)):=by
     intro l
     induction l with
     |nil=>intro ll _ h; cases ll with
      |nil=>rfl
      |cons p ll=>simp at h
     |cons z l ih=>
      intro ll hz h
      cases ll with
      |nil=>simp at h
      |cons p ll=>
       simp only [List.map_cons,List.cons.injEq,Prod.mk.injEq] at h
       have ih':=ih ll (fun y hy=>hz y (by simp [hy])) h.2
       have AB:(z.born=e.born)↔(p.1=x):=by
        constructor
        ·intro hb
         have:z=e:=CF hi.born (hz z sm) F hb
         rw [this] at h
         have:=h.1.1.symm.trans hk.symm
         exact hinj _ _ this
        ·intro hx
         have W:z.key=e.key:=by rw [h.1.1,hx,hk]
         rw [Ba hinj hi (hz z sm) F W]
       unfold ct at ih' ⊢
       by_cases hx:p.1=x
       ·rw [List.filter_cons_of_neg (by simp [AB.2 hx]),List.filter_cons_of_neg (by simp [hx])]; exact ih'
       ·rw [List.filter_cons_of_pos (by simpa using fun hb=>hx (AB.1 hb)),List.filter_cons_of_pos (by simpa using hx)]
        simp only [List.map_cons,h.1.1,h.1.2,ih']
    exact key _ _ (fun z hz=>by unfold leftOf at hz; rw [Array.toList_filter] at hz; exact (List.mem_filter.1 hz).1) A
   ·cases hq
    exact ⟨e,seen,F,U,U,hk.symm,hv.symm⟩
   ·refine ⟨?_,?_,?_,?_,fun q hq hn=>?_⟩
    ·rcases H with rfl|rfl<;>rfl
    ·rcases H with rfl|rfl<;>rfl
    ·rcases H with rfl|rfl<;>rfl
    ·show w.heap.size≤(N.heap.setIfInBounds r _).size
     simp [B]
    ·show (N.heap.setIfInBounds r _)[q]? =_
     rw [Array.getElem?_setIfInBounds_ne (fun e=>hn (.inl e.symm)),B]
theorem sD {xi:Operand} {r b:Nat} {m left:List (K×Value)} {x:K} {v:Value} (i:Nat) (hg:jx ops L g=true) (hm:ev L xi=some (.pointer (some ⟨r,0,none⟩))) (hC:C[i]? =some (yo kV r b m left (some (x,v)))):
 SD E ops ⟨dst,.entry xi,ty,ps,af,g⟩ D L C (.tuple [kV x,v].toArray):=
 dH hg sm fun a w F hs=>by
  obtain ⟨N,es,c,since,seen,st,J,hi,M,H,O,AA,G,B⟩:=hs.holds _ (aR hC)
  obtain ⟨e,A,he,rfl,rfl,hk,hv⟩:=B _ rfl
  have:=run_entry_at (P:=E.P) w r b since A es st e M J he hi.born
  simp [execOp,F.ev hm,this,hk,hv]
theorem sv (hinj: ∀ x y,kV x=kV y→x=y) {β:Type} {f:β→Value} {xi:Operand} {r b:Nat} {m:List (K×Value)} {ll:List (K×β)} {cur:Option (K×Value)} (i:Nat) (hg:jx ops L g=true) (hm:ev L xi=some (.pointer (some ⟨r,0,none⟩))) (hC:C[i]? =some (yo kV r b m (bQ f ll) cur)) (hd:Nat.blt d E.n=true)
 (k0:ll=[]→RJ E ops Q rest D ((d,.tuple [.bool false].toArray)::L) C)
 (k1: ∀ x y,(x,y)∈ll→(ll.map (·.1)).Nodup→RJ E ops Q rest D ((d,.tuple [.bool true,kV x,f y].toArray)::L) (C.set i (yo kV r b m (bQ f (ct ll x)) (some (x,f y))))):
 RJ E ops Q (⟨some d,.next xi false,ty,ps,af,g⟩::rest) D L C:=by
 refine Ki hinj i hg hm hC hd (fun h=>k0 (List.map_eq_nil_iff.1 h)) (fun x v B hn=>?_)
 obtain ⟨p,hp,A⟩:=List.mem_map.1 B
 simp only [Prod.mk.injEq] at A
 obtain ⟨rfl,rfl⟩:=A
 have:=k1 p.1 p.2 hp (by simpa [bQ,Function.comp_def] using hn)
 rwa [lR] at this
end
end
end
section
structure bP where
 Start:Int
 fK:Int
 p8:List Int
 uN:List (List (Int×ab))
 cN:Int
 eg:Int
 On:Int
def bP.n (w:bP):Nat:=w.p8.length
def eQ (s:Int):aF:=if s<0 then ⟨0,1⟩ else ⟨1,0⟩
def dg (a b:aF):aF:=⟨a.right+b.right,a.eE+b.eE⟩
def td (w:bP) (b:Nat):List (Int×ab):=(w.uN[b]?).getD []
def hO (w:bP) (b:Nat):List (Int×ab):=(-1,⟨w.Start,w.fK⟩)::td w b
def bR (w:bP) (b:Nat):Int:=(w.p8[b]?).getD 0
def kB (w:bP) (b:Nat) (p:aF×Int) (o:Int×ab):Option (aF×Int):=if max (p.2+bR w b) o.2.Lo≤min o.2.Hi w.fK then some (dg p.1 (eQ o.1),max (p.2+bR w b) o.2.Lo) else none
def fwd (w:bP):Nat→List (aF×Int)
 |0=>[(⟨0,0⟩,w.Start)]
 |b+1=>(fwd w b).flatMap fun p=>(hO w b).filterMap (kB w b p)
def nQ (w:bP) (b:Nat) (p:aF×Int) (o:Int×ab):Option (aF×Int):=if o.2.Lo≤min p.2 o.2.Hi then some (dg p.1 (eQ o.1),min p.2 o.2.Hi-bR w b) else none
def bwd (w:bP):Nat→List (aF×Int)
 |0=>[(⟨0,0⟩,w.fK)]
 |k+1=>(⟨0,0⟩,w.fK)::(bwd w k).flatMap fun p=>(hO w (w.n-(k+1))).filterMap (nQ w (w.n-(k+1)) p)
def back (w:bP) (b:Nat):List (aF×Int):=bwd w (w.n-b)
def kp (w:bP) (t:aF):Bool:=decide (t.eE≤w.cN∧w.On-t.right≤w.eg)
theorem fE {w:bP} {b:Nat} {q:aF×Int}:q∈fwd w (b+1)↔ ∃ p∈fwd w b,∃ o∈hO w b,kB w b p o=some q:=by
 simp only [fwd,List.mem_flatMap,List.mem_filterMap]
theorem uH {w:bP} {b:Nat} (h:w.n≤b):back w b=[(⟨0,0⟩,w.fK)]:=by
 unfold back; rw [Nat.sub_eq_zero_of_le h]; rfl
theorem o0 {w:bP} {b:Nat} (h:b<w.n) {q:aF×Int}:q∈back w b↔q=(⟨0,0⟩,w.fK)∨ ∃ p∈back w (b+1),∃ o∈hO w b,nQ w b p o=some q:=by
 unfold back
 have e:w.n-b=(w.n-(b+1))+1:=by omega
 rw [e]
 simp only [bwd,dL,List.mem_flatMap,List.mem_filterMap]
 rw [show w.n-(w.n-(b+1)+1)=b by omega]
def sS (m c:List (aF×Int)):Prop:=(∀ t v,m.lookup t=some v→(t,v)∈c)∧ ∀ t y,(t,y)∈c→ ∃ v,m.lookup t=some v∧v≤y
def vb (m c:List (aF×Int)):Prop:=(∀ t v,m.lookup t=some v→(t,v)∈c)∧ ∀ t y,(t,y)∈c→ ∃ v,m.lookup t=some v∧y≤v
def uZ (m c:List (aF×Int)):Prop:= ∀ t v,m.lookup t=some v→(t,v)∈c
theorem mK {K β:Type} [DecidableEq K] {m:List (K×β)} {x t:K} {y:β}:(er m x y).lookup t=if t=x then some y else m.lookup t:=by
 unfold er
 by_cases hx:(m.lookup x).isSome
 ·rw [if_pos hx]
  have key: ∀ l:List (K×β),(l.lookup x).isSome∨True→(l.map (fun p=>if p.1=x then (x,y) else p)).lookup t=if t=x then (if (l.lookup x).isSome then some y else none) else l.lookup t:=by
   intro l _
   induction l with
   |nil=>simp
   |cons p l ih=>
    obtain ⟨k,v⟩:=p
    have ih:=ih (.inr trivial)
    by_cases hk:k=x
    ·subst hk
     by_cases ht:t=k
     ·subst ht; simp [List.lookup]
     ·have:(t==k)=false:=by simpa using ht
      simp only [List.map_cons,if_true,List.lookup,this,ih,if_neg ht]
    ·have hk':(x==k)=false:=by simpa using fun e=>hk e.symm
     by_cases ht:t=k
     ·subst ht; simp [List.lookup,hk]
     ·have A:(t==k)=false:=by simpa using ht
      simp only [List.map_cons,if_neg hk,List.lookup,A,ih,hk']
  rw [key m (.inr trivial)]
  by_cases ht:t=x
  ·subst ht
   rw [if_pos rfl,if_pos rfl,if_pos hx]
  ·rw [if_neg ht,if_neg ht]
 ·rw [if_neg hx]
  have hn:m.lookup x=none:=by cases h0:m.lookup x with
   |none=>rfl
   |some v=>exact absurd (by rw [h0]; rfl) hx
  by_cases ht:t=x
  ·subst ht
   rw [if_pos rfl]
   have:=jf.1 hn
   clear hn hx
   induction m with
   |nil=>simp
   |cons p m ih=>
    obtain ⟨k,v⟩:=p
    have hk:(t==k)=false:=by simpa using fun e=>this (k,v) sm e.symm
    simp only [List.cons_append,List.lookup,hk]
    exact ih (fun q hq=>this q (cW _ hq))
  ·rw [if_neg ht]
   clear hn hx
   induction m with
   |nil=>
    have:(t==x)=false:=by simpa using ht
    simp [List.lookup,this]
   |cons p m ih=>
    obtain ⟨k,v⟩:=p
    by_cases hk:t=k
    ·subst hk; simp [List.lookup]
    ·have:(t==k)=false:=by simpa using hk
     simp only [List.cons_append,List.lookup,this]
     exact ih
/-- what a map is after a try -/
def o7 (m:List (aF×Int)) (q:aF×Int):List (aF×Int):=match m.lookup q.1 with
 |none=>er m q.1 q.2
 |some v=>if q.2<v then er m q.1 q.2 else m
def oN (m:List (aF×Int)) (q:aF×Int):List (aF×Int):=match m.lookup q.1 with
 |none=>er m q.1 q.2
 |some v=>if v<q.2 then er m q.1 q.2 else m
theorem xU {m:List (aF×Int)} {q:aF×Int} {t:aF}:(o7 m q).lookup t=if t=q.1 then some (match m.lookup q.1 with |none=>q.2|some v=>min q.2 v) else m.lookup t:=by
 unfold o7
 cases h:m.lookup q.1 with
 |none=>simp only; rw [mK]
 |some v=>
  simp only
  split
  ·rename_i A
   rw [mK,Int.min_eq_left I]
  ·rename_i A
   split
   ·rename_i e; subst e; rw [h,Int.min_eq_right I]
   ·rfl
theorem xT {m:List (aF×Int)} {q:aF×Int} {t:aF}:(oN m q).lookup t=if t=q.1 then some (match m.lookup q.1 with |none=>q.2|some v=>max q.2 v) else m.lookup t:=by
 unfold oN
 cases h:m.lookup q.1 with
 |none=>simp only; rw [mK]
 |some v=>
  simp only
  split
  ·rename_i A
   rw [mK,Int.max_eq_left I]
  ·rename_i A
   split
   ·rename_i e; subst e; rw [h,Int.max_eq_right I]
   ·rfl
def wR (m m':List (aF×Int)):Prop:= ∀ t v,m.lookup t=some v→ ∃ v',m'.lookup t=some v'∧v'≤v
def wI (m m':List (aF×Int)):Prop:= ∀ t v,m.lookup t=some v→ ∃ v',m'.lookup t=some v'∧v≤v'
theorem wR.refl (m:List (aF×Int)):wR m m:=fun t v h=>⟨v,h,I⟩
theorem wI.refl (m:List (aF×Int)):wI m m:=fun t v h=>⟨v,h,I⟩
theorem uY {m:List (aF×Int)} {q:aF×Int}:wR m (o7 m q):=fun t v h=>by
 rw [xU]
 split
 ·rename_i e; subst e; rw [h]; exact ⟨_,rfl,by simp only; omega⟩
 ·exact ⟨v,h,I⟩
theorem qn {m:List (aF×Int)} {q:aF×Int}:wI m (oN m q):=fun t v h=>by
 rw [xT]
 split
 ·rename_i e; subst e; rw [h]; exact ⟨_,rfl,by simp only; omega⟩
 ·exact ⟨v,h,I⟩
theorem F7 {m c:List (aF×Int)} {q:aF×Int} (h:uZ m c) (hq:q∈c):uZ (o7 m q) c:=fun t v hv=>by
 rw [xU] at hv
 split at hv
 ·rename_i e
  subst e
  cases hm:m.lookup q.1 with
  |none=>simp only [hm,Option.some.injEq] at hv; subst hv; exact hq
  |some x=>
   simp only [hm,Option.some.injEq] at hv; subst hv
   rcases Int.lt_or_le q.2 x with A|A
   ·rw [Int.min_eq_left I]; exact hq
   ·rw [Int.min_eq_right I]; exact h _ _ hm
 ·exact h t v hv
theorem HC {m c:List (aF×Int)} {q:aF×Int} (h:uZ m c) (hq:q∈c):uZ (oN m q) c:=fun t v hv=>by
 rw [xT] at hv
 split at hv
 ·rename_i e
  subst e
  cases hm:m.lookup q.1 with
  |none=>simp only [hm,Option.some.injEq] at hv; subst hv; exact hq
  |some x=>
   simp only [hm,Option.some.injEq] at hv; subst hv
   rcases Int.lt_or_le q.2 x with A|A
   ·rw [Int.max_eq_right I]; exact h _ _ hm
   ·rw [Int.max_eq_left I]; exact hq
 ·exact h t v hv
theorem Gf {m:List (aF×Int)} {q:aF×Int}: ∃ v,(o7 m q).lookup q.1=some v∧v≤q.2:=by
 rw [xU,if_pos rfl]
 refine ⟨_,U,?_⟩
 cases m.lookup q.1<;>simp only <;>omega
theorem Hf {m:List (aF×Int)} {q:aF×Int}: ∃ v,(oN m q).lookup q.1=some v∧q.2≤v:=by
 rw [xT,if_pos rfl]
 refine ⟨_,U,?_⟩
 cases m.lookup q.1<;>simp only <;>omega
/-- all that comes of one entry, by some options, is held -/
def iH (w:bP) (b:Nat) (m:List (aF×Int)) (p:aF×Int) (os:List (Int×ab)):Prop:= ∀ o∈os,∀ q,kB w b p o=some q→ ∃ v,m.lookup q.1=some v∧v≤q.2
def iQ (w:bP) (b:Nat) (m:List (aF×Int)) (p:aF×Int) (os:List (Int×ab)):Prop:= ∀ o∈os,∀ q,nQ w b p o=some q→ ∃ v,m.lookup q.1=some v∧q.2≤v
theorem iH.lower {w:bP} {b:Nat} {m m':List (aF×Int)} {p:aF×Int} {os:List (Int×ab)} (h:iH w b m p os) (hl:wR m m'):iH w b m' p os:=fun o ho q hq=>by
 obtain ⟨v,A,C⟩:=h o ho q hq
 obtain ⟨v',B,D⟩:=hl _ _ A
 exact ⟨v',B,I⟩
theorem iQ.upper {w:bP} {b:Nat} {m m':List (aF×Int)} {p:aF×Int} {os:List (Int×ab)} (h:iQ w b m p os) (hl:wI m m'):iQ w b m' p os:=fun o ho q hq=>by
 obtain ⟨v,A,C⟩:=h o ho q hq
 obtain ⟨v',B,D⟩:=hl _ _ A
 exact ⟨v',B,I⟩
theorem iH.sub {w:bP} {b:Nat} {m:List (aF×Int)} {p:aF×Int} {os os':List (Int×ab)} (h:iH w b m p os) (hs: ∀ o∈os',o∈os):iH w b m p os':=fun o ho=>h o (hs o ho)
theorem iQ.sub {w:bP} {b:Nat} {m:List (aF×Int)} {p:aF×Int} {os os':List (Int×ab)} (h:iQ w b m p os) (hs: ∀ o∈os',o∈os):iQ w b m p os':=fun o ho=>h o (hs o ho)
theorem iH.add {w:bP} {b:Nat} {m m':List (aF×Int)} {p:aF×Int} {os:List (Int×ab)} {o:Int×ab} (h:iH w b m p os) (hl:wR m m') (hn: ∀ q,kB w b p o=some q→ ∃ v,m'.lookup q.1=some v∧v≤q.2):iH w b m' p (os++[o]):=fun o' ho q hq=>by
 rcases List.mem_append.1 ho with ho|ho
 ·exact h.lower hl o' ho q hq
 ·simp only [bK] at ho; subst ho; exact hn q hq
theorem iQ.add {w:bP} {b:Nat} {m m':List (aF×Int)} {p:aF×Int} {os:List (Int×ab)} {o:Int×ab} (h:iQ w b m p os) (hl:wI m m') (hn: ∀ q,nQ w b p o=some q→ ∃ v,m'.lookup q.1=some v∧q.2≤v):iQ w b m' p (os++[o]):=fun o' ho q hq=>by
 rcases List.mem_append.1 ho with ho|ho
 ·exact h.upper hl o' ho q hq
 ·simp only [bK] at ho; subst ho; exact hn q hq
theorem e8 {m:List (aF×Int)} (hn:(m.map (·.1)).Nodup) {t:aF} {v:Int}:(t,v)∈m↔m.lookup t=some v:=jQ hn
theorem oW {z t:aF} {x v:Int}:List.lookup t [(z,x)]=some v↔t=z∧v=x:=by
 by_cases e:t=z
 ·subst e; simp [List.lookup,eq_comm]
 ·have:(t==z)=false:=by simpa using e
  simp [List.lookup,this,e]
theorem Hu {w:bP}:sS [(⟨0,0⟩,w.Start)] (fwd w 0):=by
 refine ⟨fun t v h=>?_,fun t y h=>?_⟩
 ·obtain ⟨rfl,rfl⟩:=oW.1 h
  simp [fwd]
 ·simp only [fwd,bK,Prod.mk.injEq] at h
  obtain ⟨rfl,rfl⟩:=h
  exact ⟨w.Start,oW.2 ⟨U,U⟩,Int.le_refl _⟩
theorem Kl {w:bP} {b:Nat} {mb m:List (aF×Int)} (hn:(mb.map (·.1)).Nodup) (h:sS mb (fwd w b)) (hs:uZ m (fwd w (b+1))) (hd: ∀ p∈mb,iH w b m p (hO w b)):sS m (fwd w (b+1)):=⟨hs,fun t y hy=>by
 obtain ⟨p,hp,o,ho,e⟩:=fE.1 hy
 obtain ⟨v,B,E⟩:=h.2 p.1 p.2 hp
 unfold kB at e
 split at e
 ·rename_i D
  simp only [Option.some.injEq,Prod.mk.injEq] at e
  obtain ⟨v',A,C⟩:=hd (p.1,v) ((e8 hn).2 B) o ho (dg p.1 (eQ o.1),max (v+bR w b) o.2.Lo) (by unfold kB; rw [if_pos (by simp only; omega)])
  simp only at A C
  rw [e.1] at A
  exact ⟨v',A,I⟩
 ·cases e⟩
theorem KS {w:bP} {b:Nat} (hb:w.n≤b):vb [(⟨0,0⟩,w.fK)] (back w b):=by
 rw [uH hb]
 refine ⟨fun t v h=>?_,fun t y h=>?_⟩
 ·obtain ⟨rfl,rfl⟩:=oW.1 h
  simp
 ·simp only [bK,Prod.mk.injEq] at h
  obtain ⟨rfl,rfl⟩:=h
  exact ⟨w.fK,oW.2 ⟨U,U⟩,Int.le_refl _⟩
theorem HV {w:bP} {b:Nat} (hb:b<w.n) {mb m:List (aF×Int)} (hn:(mb.map (·.1)).Nodup) (h:vb mb (back w (b+1))) (hs:uZ m (back w b)) (h0: ∃ v,m.lookup ⟨0,0⟩=some v∧w.fK≤v) (hd: ∀ p∈mb,iQ w b m p (hO w b)):vb m (back w b):=⟨hs,fun t y hy=>by
 rcases (o0 hb).1 hy with e|⟨p,hp,o,ho,e⟩
 ·simp only [Prod.mk.injEq] at e
  obtain ⟨rfl,rfl⟩:=e
  exact h0
 obtain ⟨v,B,E⟩:=h.2 p.1 p.2 hp
 unfold nQ at e
 split at e
 ·rename_i D
  simp only [Option.some.injEq,Prod.mk.injEq] at e
  obtain ⟨v',A,C⟩:=hd (p.1,v) ((e8 hn).2 B) o ho (dg p.1 (eQ o.1),min v o.2.Hi-bR w b) (by unfold nQ; rw [if_pos (by simp only; omega)])
  simp only at A C
  rw [e.1] at A
  exact ⟨v',A,I⟩
 ·cases e⟩
end
section
def js (w:bP) (b:Nat) (p u:aF×Int) (o:Int×ab):ab:=⟨max (p.2+bR w b) o.2.Lo,min u.2 o.2.Hi⟩
def wi (p u:aF×Int) (o:Int×ab):aF:=dg (dg p.1 u.1) (eQ o.1)
def l_ (w:bP) (b:Nat) (p u:aF×Int) (o:Int×ab):Option (Int×ab):=if (js w b p u o).Lo≤(js w b p u o).Hi∧kp w (wi p u o)=true then some (o.1,js w b p u o) else none
def qa (w:bP) (b:Nat) (mf mb:List (aF×Int)):List (Int×ab):=(hO w b).flatMap fun o=>mf.flatMap fun p=>mb.filterMap fun u=>l_ w b p u o
def mD (w:bP) (b:Nat):List (Int×ab):=qa w b (fwd w b) (back w (b+1))
theorem g6 {w:bP} {b:Nat} {mf mb:List (aF×Int)} {q:Int×ab}:q∈qa w b mf mb↔ ∃ o∈hO w b,∃ p∈mf,∃ u∈mb,l_ w b p u o=some q:=by
 simp only [qa,List.mem_flatMap,List.mem_filterMap]
theorem ja {w:bP} {b:Nat} {p u:aF×Int} {o q:Int×ab}:l_ w b p u o=some q↔(js w b p u o).Lo≤(js w b p u o).Hi∧kp w (wi p u o)=true∧q=(o.1,js w b p u o):=by
 unfold l_
 split
 ·rename_i h
  simp only [Option.some.injEq]
  exact ⟨fun e=>⟨h.1,h.2,e.symm⟩,fun e=>e.2.2.symm⟩
 ·rename_i h
  simp only [reduceCtorEq,false_iff]
  exact fun e=>h ⟨e.1,e.2.1⟩
theorem mI {w:bP} {b:Nat} {mf mb:List (aF×Int)} {q:Int×ab} (h:q∈qa w b mf mb):q.2.Lo≤q.2.Hi:=by
 obtain ⟨o,_,p,_,u,_,e⟩:=g6.1 h
 obtain ⟨A,_,rfl⟩:=ja.1 e
 exact A
/-- what the maps tell is what all ways tell -/
theorem LG {w:bP} {b:Nat} {mf mb:List (aF×Int)} (hf:sS mf (fwd w b)) (hb:vb mb (back w (b+1))) (nf:(mf.map (·.1)).Nodup) (nb:(mb.map (·.1)).Nodup) {q:Int×ab} (h:q∈qa w b mf mb):q∈mD w b:=by
 obtain ⟨o,ho,p,hp,u,hu,e⟩:=g6.1 h
 exact g6.2 ⟨o,ho,p,hf.1 _ _ ((e8 nf).1 hp),u,hb.1 _ _ ((e8 nb).1 hu),e⟩
theorem JO {w:bP} {b:Nat} {mf mb:List (aF×Int)} (hf:sS mf (fwd w b)) (hb:vb mb (back w (b+1))) (nf:(mf.map (·.1)).Nodup) (nb:(mb.map (·.1)).Nodup) {q:Int×ab} (h:q∈mD w b): ∃ q'∈qa w b mf mb,q'.1=q.1∧q'.2.Lo≤q.2.Lo∧q.2.Hi≤q'.2.Hi:=by
 obtain ⟨o,ho,p,hp,u,hu,e⟩:=g6.1 h
 obtain ⟨A,B,rfl⟩:=ja.1 e
 obtain ⟨v,hv,C⟩:=hf.2 p.1 p.2 hp
 obtain ⟨y,hy,D⟩:=hb.2 u.1 u.2 hu
 simp only [js] at A
 refine ⟨(o.1,js w b (p.1,v) (u.1,y) o),g6.2 ⟨o,ho,(p.1,v),(e8 nf).2 hv,(u.1,y),(e8 nb).2 hy,ja.2 ⟨?_,B,U⟩⟩,U,?_,?_⟩
 ·simp only [js]; omega
 ·simp only [js]; omega
 ·simp only [js]; omega
def mA:ab:=⟨1,0⟩
def ml (h x:ab):ab:=if h=mA then x else ⟨min x.Lo h.Lo,max x.Hi h.Hi⟩
def wy (l:List (Int×ab)):ab:=l.foldl (fun h q=>ml h q.2) mA
structure ot (l:List (Int×ab)) (h:ab):Prop where
 le:h.Lo≤h.Hi
 lo: ∃ x∈l,x.2.Lo=h.Lo
 hi: ∃ x∈l,x.2.Hi=h.Hi
 all: ∀ x∈l,h.Lo≤x.2.Lo∧x.2.Hi≤h.Hi
def kb (l:List (Int×ab)) (h:ab):Prop:=(l=[]∧h=mA)∨ot l h
theorem ot.ne {l:List (Int×ab)} {h:ab} (hh:ot l h):h≠mA:=fun e=>by
 have:=hh.le; rw [e] at this; simp [mA] at this
theorem BT:kb [] mA:= .inl ⟨rfl,rfl⟩
theorem tT {l:List (Int×ab)} {h:ab} {q:Int×ab} (hh:kb l h) (hq:q.2.Lo≤q.2.Hi):kb (l++[q]) (ml h q.2):=by
 right
 rcases hh with ⟨rfl,rfl⟩|hh
 ·unfold ml
  rw [if_pos rfl]
  exact ⟨hq,⟨q,sm,rfl⟩,⟨q,sm,rfl⟩,fun x hx=>by simp at hx; subst hx; exact ⟨Int.le_refl _,Int.le_refl _⟩⟩
 ·unfold ml
  rw [if_neg hh.ne]
  have A:=hh.le
  obtain ⟨a,ha,ea⟩:=hh.lo
  obtain ⟨c,hc,ec⟩:=hh.hi
  refine ⟨by simp only; omega,?_,?_,fun x hx=>?_⟩
  ·rcases Int.lt_or_le q.2.Lo h.Lo with p|p
   ·exact ⟨q,sm,by simp only; omega⟩
   ·exact ⟨a,by simp [ha],by simp only; omega⟩
  ·rcases Int.lt_or_le h.Hi q.2.Hi with p|p
   ·exact ⟨q,sm,by simp only; omega⟩
   ·exact ⟨c,by simp [hc],by simp only; omega⟩
  ·rcases List.mem_append.1 hx with hx|hx
   ·have:=hh.all x hx; simp only; omega
   ·simp at hx; subst hx; simp only; omega
theorem t_ {l:List (Int×ab)} (hl: ∀ q∈l,q.2.Lo≤q.2.Hi):kb l (wy l):=by
 have key: ∀ (r d:List (Int×ab)) (h:ab),(∀ q∈r,q.2.Lo≤q.2.Hi)→kb d h→kb (d++r) (r.foldl (fun h q=>ml h q.2) h):=by
  intro r
  induction r with
  |nil=>intro d h _ hd; simpa using hd
  |cons q r ih=>
   intro d h hr hd
   have:=ih (d++[q]) (ml h q.2) (fun x hx=>hr x (cW _ hx)) (tT hd (hr q sm))
   simpa using this
 have:=key l [] mA hl BT
 rw [List.nil_append] at this
 exact this
def C6 (a b:List (Int×ab)):Prop:= ∀ x∈b,∃ y∈a,y.2.Lo≤x.2.Lo∧x.2.Hi≤y.2.Hi
theorem Nb {a b:List (Int×ab)} {h k:ab} (ha:kb a h) (hb:kb b k) (hab:C6 a b) (hba:C6 b a):h=k:=by
 rcases ha with ⟨rfl,rfl⟩|ha
 ·rcases hb with ⟨rfl,rfl⟩|hb
  ·rfl
  ·obtain ⟨x,hx,_⟩:=hb.lo
   obtain ⟨y,hy,_⟩:=hab x hx
   cases hy
 ·rcases hb with ⟨rfl,rfl⟩|hb
  ·obtain ⟨x,hx,_⟩:=ha.lo
   obtain ⟨y,hy,_⟩:=hba x hx
   cases hy
  ·have le: ∀ {a b:List (Int×ab)} {h k:ab},ot a h→ot b k→C6 a b→h.Lo≤k.Lo∧k.Hi≤h.Hi:=fun {a b h k} ha hb hab=>by
    obtain ⟨x,hx,ex⟩:=hb.lo
    obtain ⟨z,hz,ez⟩:=hb.hi
    obtain ⟨y,hy,ey⟩:=hab x hx
    obtain ⟨y',hy',ey'⟩:=hab z hz
    have A:=ha.all y hy
    have B:=ha.all y' hy'
    omega
   have A:=le ha hb hab
   have B:=le hb ha hba
   rw [ab.ext_iff]; omega
theorem ze {w:bP} {b:Nat} {mf mb:List (aF×Int)} {l:List (Int×ab)} {h:ab} (hf:sS mf (fwd w b)) (hb:vb mb (back w (b+1))) (nf:(mf.map (·.1)).Nodup) (nb:(mb.map (·.1)).Nodup)
 (hl: ∀ q∈l,q∈qa w b mf mb) (hl2: ∀ q∈qa w b mf mb,q∈l) (hh:kb l h):h=wy (mD w b):=
 Nb hh (t_ fun q hq=>mI hq) (fun x hx=>by
  obtain ⟨q,hq,_,A,B⟩:=JO hf hb nf nb hx
  exact ⟨q,hl2 q hq,A,B⟩) (fun x hx=>⟨x,LG hf hb nf nb (hl x hx),Int.le_refl _,Int.le_refl _⟩)
def jc (w:bP) (m:List (aF×Int)):Bool:=m.any fun p=>kp w p.1
theorem Ca {w:bP} {b:Nat} {m:List (aF×Int)} (h:sS m (fwd w b)) (nf:(m.map (·.1)).Nodup):jc w m=jc w (fwd w b):=by
 unfold jc
 rw [Bool.eq_iff_iff,List.any_eq_true,List.any_eq_true]
 constructor
 ·rintro ⟨p,hp,A⟩
  exact ⟨p,h.1 _ _ ((e8 nf).1 hp),A⟩
 ·rintro ⟨p,hp,A⟩
  obtain ⟨v,hv,_⟩:=h.2 p.1 p.2 hp
  exact ⟨(p.1,v),(e8 nf).2 hv,A⟩
def ke (w:bP) (k:Nat):List Int:=((List.range k).filter fun i=>jc w (fwd w i)).map fun (i:Nat)=>(i:Int)
def jW (w:bP):List Int:=ke w (w.n+1)
theorem DP {w:bP} {k:Nat} (h:jc w (fwd w k)=true):ke w (k+1)=ke w k++[(k:Int)]:=by simp [ke,List.range_succ,h]
theorem Gj {w:bP} {k:Nat} (h:jc w (fwd w k)=false):ke w (k+1)=ke w k:=by simp [ke,List.range_succ,h]
theorem wP {w:bP} {k:Nat}:(ke w k).length≤k:=by
 unfold ke
 rw [List.length_map]
 exact Nat.le_trans (List.length_filter_le _ _) sm
end
section
open Go.RowKit
theorem G2 {P:Program} {t:Nat} {k:IntKind} (hu:P.underlying t=some (.int k)) (e:Bool) (n:Nat) (v:Value) (w:World):(Instr.checkKey e (n+1) t v).run P w= .ok () w:=by
 unfold Instr.checkKey
 simp only [Sem.run_bind,run_underlying hu,Result.andThen]
 cases v<;>rfl
theorem zA {P:Program} {kt:Nat} {l:List (Nat×Nat)} (hl:fL P kt=some l) (e:Bool) (n:Nat) (cs:Array Value) (w:World)
 (hf: ∀ p∈l,(∃ v,(part p.1 cs p.2).run P w= .ok v w)∧ ∃ k,P.underlying p.1=some (.int k)):(Instr.checkKey e (n+2) kt (.agg cs)).run P w= .ok () w:=by
 unfold fL at hl
 cases hu:P.underlying kt with
 |none=>simp [hu] at hl
 |some d=>
  cases d<;>simp [hu] at hl
  rename_i fs
  obtain ⟨hn,hl⟩:=hl
  rw [show n+2=(n+1)+1 from rfl,Instr.checkKey]
  simp only [Sem.run_bind,run_underlying hu,Result.andThen_ok]
  rw [← Array.forIn_toList]
  have A: ∀ f∈fs.toList,(∃ v,(part f.type cs f.offset).run P w= .ok v w)∧ ∃ k,P.underlying f.type=some (.int k):=fun f hf'=>hf (f.type,f.offset) (by rw [← hl]; exact List.mem_map.2 ⟨f,hf',rfl⟩)
  have B: ∀ f∈fs.toList,f.name≠"_":=fun f hf'=>by
   obtain ⟨i,hi,rfl⟩:=List.getElem_of_mem hf'
   exact hn.1.1 i (by simpa using hi)
  clear hl hn hf
  generalize fs.toList=L at A B
  induction L with
  |nil=>simp
  |cons f L ih=>
   obtain ⟨⟨v,hv⟩,k,hk⟩:=A f sm
   have C:=B f sm
   simp only [List.forIn_cons,Sem.run_bind,C,ne_eq,not_false_eq_true,if_true,Result.andThen_ok,hv,G2 hk,Sem.run_pure]
   exact ih (fun y hy=>A y (by simp [hy])) (fun y hy=>B y (by simp [hy]))
theorem BY {P:Program} {kt:Nat} {K:Type} [DecidableEq K] {kV:K→Value} (hw: ∀ (k:Value) (es:List MapEntry) (w:World),(Instr.findKey kt k es).run P w=(Instr.findAsking kt k es).run P w)
 (heq: ∀ x y w,(Op.equal kt (kV x) (kV y)).run P w= .ok (decide (x=y)) w) (inj: ∀ x y,kV x=kV y→x=y) (x:K) (w:World) (es:List MapEntry) (hk: ∀ e∈es,∃ k,e.key=kV k):
 ((Instr.findKey kt (kV x) es).run P w= .ok none w∧ ∀ e∈es,e.key≠kV x)∨ ∃ j e,(Instr.findKey kt (kV x) es).run P w= .ok (some (j,e.val)) w∧es[j]? =some e∧e.key=kV x:=by
 have key: ∀ (es:List MapEntry) (i:Nat),(∀ e∈es,∃ k,e.key=kV k)→((Instr.findAsking kt (kV x) es i).run P w= .ok none w∧ ∀ e∈es,e.key≠kV x)∨ ∃ j e,(Instr.findAsking kt (kV x) es i).run P w= .ok (some (i+j,e.val)) w∧es[j]? =some e∧e.key=kV x:=by
  intro es
  induction es with
  |nil=>intro i _; exact .inl ⟨by simp [Instr.findAsking],sm⟩
  |cons e es ih=>
   intro i B
   obtain ⟨k,A⟩:=B e sm
   by_cases h:x=k
   ·refine .inr ⟨0,e,?_,U,by rw [A,h]⟩
    subst h
    simp [Instr.findAsking,A,heq]
   ·rcases ih (i+1) (fun y hy=>B y (by simp [hy])) with ⟨C,D⟩|⟨j,e',C,D,E⟩
    ·refine .inl ⟨by simp [Instr.findAsking,A,heq,h,C],fun y hy=>?_⟩
     rcases List.mem_cons.1 hy with rfl|hy
     ·rw [A]; exact fun q=>h (inj _ _ q).symm
     ·exact D y hy
    ·exact .inr ⟨j+1,e',by simp [Instr.findAsking,A,heq,h,C]; omega,by simpa using D,E⟩
 rw [hw]
 rcases key es 0 hk with h|⟨j,e,C,D,E⟩
 ·exact .inl h
 ·exact .inr ⟨j,e,by simpa using C,D,E⟩
theorem Dl {P:Program} {kt:Nat} {l:List (Nat×Nat)} (hl:fL P kt=some l) (k:Value) (es:List MapEntry) (w:World):(Instr.findKey kt k es).run P w=(Instr.findAsking kt k es).run P w:=by
 refine run_findKey_eq w ?_ k es
 unfold fL at hl
 cases hu:P.underlying kt with
 |none=>simp [hu] at hl
 |some d=>cases d<;>simp [hu] at hl ⊢
theorem Lv {P:Program} {kt:Nat} {K:Type} [DecidableEq K] {kV:K→Value} {l:List (Nat×Nat)} (hl:fL P kt=some l) (heq: ∀ x y w,(Op.equal kt (kV x) (kV y)).run P w= .ok (decide (x=y)) w) (inj: ∀ x y,kV x=kV y→x=y)
 (hb: ∀ x,Instr.sameBits 10000 (kV x) (kV x)=true) (hp: ∀ x w,∃ cs,kV x= .agg cs∧ ∀ p∈l,(∃ v,(part p.1 cs p.2).run P w= .ok v w)∧ ∃ k,P.underlying p.1=some (.int k)):ua P kt kV:=
 ⟨fun e x w=>by obtain ⟨cs,A,B⟩:=hp x w; rw [A]; exact zA hl e 9998 cs w B,fun x w es=>BY (Dl hl) heq inj x w es,hb,inj⟩
end
section
open Go.RowKit
set_option linter.unusedSectionVars false
theorem dG {P:Program} {kt:Nat} (hk:P.underlying kt=some (.int .i64)):ua P kt (Value.int .i64):=by
 refine ⟨fun e x w=>Gv hk e,fun x w es A=>?_,fun x=>by simp [Instr.sameBits],fun x y h=>by injection h⟩
 have key: ∀ (es:List MapEntry) (i:Nat),(∀ e∈es,∃ k:Int,e.key= .int .i64 k)→(Instr.findNow (.int .i64) (.int .i64 x) es i=some none∧ ∀ e∈es,e.key≠ .int .i64 x)∨ ∃ j e,Instr.findNow (.int .i64) (.int .i64 x) es i=some (some (i+j,e.val))∧es[j]? =some e∧e.key= .int .i64 x:=by
  intro es
  induction es with
  |nil=>intro i _; exact .inl ⟨rfl,sm⟩
  |cons e es ih=>
   intro i A
   obtain ⟨k,B⟩:=A e sm
   by_cases h:x=k
   ·subst h
    exact .inr ⟨0,e,by simp [Instr.findNow,Instr.sameNow,B],U,B⟩
   ·have hb:(x==k)=false:=by simpa using h
    rcases ih (i+1) (fun y hy=>A y (by simp [hy])) with ⟨C,D⟩|⟨j,e',C,D,E⟩
    ·refine .inl ⟨by simp [Instr.findNow,Instr.sameNow,B,hb,C],fun y hy=>?_⟩
     rcases List.mem_cons.1 hy with rfl|hy
     ·rw [B]; intro q; injection q with _ q; exact h q.symm
     ·exact D y hy
    ·refine .inr ⟨j+1,e',?_,by simpa using D,E⟩
     simp only [Instr.findNow,Instr.sameNow,B,hb,if_true,C]
     simp; omega
 rcases key es 0 A with ⟨C,D⟩|⟨j,e,C,D,E⟩
 ·exact .inl ⟨MapKept.run_findKey hk C,D⟩
 ·exact .inr ⟨j,e,MapKept.run_findKey hk (by simpa using C),D,E⟩
theorem St.M_ {S:BS} {w0 w w':World} {C:List aw} {A N:aw} (h:St S w0 C w) (i:Nat) (hA:C[i]? =some A) (k:dI no w w') (hN:N.holds w') (hf: ∀ b,N.e9 b→w.heap.size≤b∨A.e9 b∧ ¬ A.wf b∧ ¬ N.wf b):St S w0 (N::C) w':=by
 have h':=h.same k
 have G:=aR hA
 have hi:=(List.getElem?_eq_some_iff.1 hA).1
 have B:C[i]=A:=(List.getElem?_eq_some_iff.1 hA).2
 refine ⟨h'.keeps,fun X hX=>?_,List.Pairwise.cons (fun X hX b hb hb'=>?_) h'.sep,fun X hX b hb=>?_,fun X hX b hb=>?_⟩
 ·rcases List.mem_cons.1 hX with rfl|hX
  ·exact hN
  ·exact h'.holds X hX
 ·rcases hf b hb with E|⟨E,AA,H⟩
  ·have:=X.lt w (h.holds X hX) b hb'; omega
  ·refine ⟨H,?_⟩
   obtain ⟨j,hj,D⟩:=List.mem_iff_getElem.1 hX
   by_cases e:j=i
   ·subst e; rw [← D,B]; exact AA
   ·rcases Nat.lt_or_gt_of_ne e with F|F
    ·have:=List.pairwise_iff_getElem.1 h.sep j i hj hi F b (by rw [D]; exact hb') (by rw [B]; exact E)
     rw [← D]; exact this.1
    ·have:=List.pairwise_iff_getElem.1 h.sep i j hi hj F b (by rw [B]; exact E) (by rw [D]; exact hb')
     rw [← D]; exact this.2
 ·rcases List.mem_cons.1 hX with rfl|hX
  ·rcases hf b (X.kq b hb) with E|⟨_,_,H⟩
   ·exact .inl (Nat.le_trans h.keeps.size E)
   ·exact absurd hb H
  ·exact h'.own X hX b hb
 ·rcases List.mem_cons.1 hX with rfl|hX
  ·rcases hf b hb with E|⟨E,_,_⟩
   ·exact .inl (Nat.le_trans h.keeps.size E)
   ·exact h.seen A G b E
  ·exact h'.seen X hX b hb
section
variable {K:Type} [DecidableEq K] {kV:K→Value}
/-- an iterator over a map that is read alone -/
def yc (kV:K→Value) (r b:Nat) (m left:List (K×Value)) (cur:Option (K×Value)):aw where
 e9 k:=k=r∨k=b
 wf k:=k=r
 holds w:=r≠b∧ ∃ (es:Array MapEntry) (c since:Nat) (seen:Array Nat) (st:Nat),w.heap[b]? =some (.map es c)∧iJ kV es c m∧w.heap[r]? =some (.mapIter (some b) since seen st)∧(∀ e∈es.toList,e.born<since)∧since≤st∧since≤c∧
  (leftOf es seen).toList.map (fun (e:MapEntry)=>(e.key,e.val))=left.map (fun p=>(kV p.1,p.2))∧
  ∀ p,cur=some p→ ∃ (e:MapEntry) (seen0:Array Nat),e∈es.toList∧seen=seen0.push e.born∧st=c∧e.key=kV p.1∧e.val=p.2
 wr:=false
 kq _ h:= .inl h
 whole h:=by cases h
 lt w h k hk:=by
  obtain ⟨_,es,c,since,seen,st,h1,_,h2,_⟩:=h
  rcases hk with rfl|rfl
  ·exact dR h2
  ·exact dR h1
 oq w w' hk h:=by
  obtain ⟨hne,es,c,since,seen,st,h1,h2,h3,h4⟩:=h
  exact ⟨hne,es,c,since,seen,st,(hk b (.inr rfl)).trans h1,h2,(hk r (.inl rfl)).trans h3,h4⟩
theorem fr {r b:Nat} {m left:List (K×Value)} {cur:Option (K×Value)}:(∀ w,(yc kV r b m left cur).holds w→(yc kV r b m left none).holds w)∧(∀ k,(yc kV r b m left none).e9 k→(yc kV r b m left cur).e9 k)∧ ∀ k,(yc kV r b m left none).wf k→(yc kV r b m left cur).wf k:=
 ⟨fun w h=>by
  obtain ⟨A,es,c,since,seen,st,B,C,D,E,F,h5',G,_⟩:=h
  exact ⟨A,es,c,since,seen,st,B,C,D,E,F,h5',G,fun p hp=>by cases hp⟩,fun _ h=>h,fun _ h=>h⟩
section
variable {E:eU} {ops:Array Oper} {Q:cY} {rest:List Oper} {D:List Deferred} {L:List (Nat×Value)} {C:List aw}
variable {dst:Option Tmp} {d:Nat} {ty:TypeId} {ps:String} {af:Array Edge} {g:Option (Nat×Bool)}
theorem jI {t kt et:TypeId} {xm:Operand} {b:Nat} {m:List (K×Value)} {A:aw} (i:Nat) (hg:jx ops L g=true) (hm:ev L xm=some (.map (some b))) (ht:E.P.underlying t=some (.map kt et)) (hA:C[i]? =some A) (hAf:A.e9 b∧ ¬ A.wf b) (hC:gI C (hU kV b m).holds) (hd:Nat.blt d E.n=true)
 (k: ∀ r,RJ E ops Q rest D ((d,.pointer (some ⟨r,0,none⟩))::L) (yc kV r b m m none::C)):RJ E ops Q (⟨some d,.range t xm,ty,ps,af,g⟩::rest) D L C:=by
 intro a w B hs
 have hd':d<E.n:=by rw [← Nat.blt_eq]; exact hd
 unfold rY
 rw [if_pos (dV B hg)]
 obtain ⟨es,c,he,hi⟩:=hs.has hC
 have G:b<w.heap.size:=dR he
 have F:(getObj b).run E.P w= .ok (.map es c) w:=MapKept.run_getObj_map he
 refine hE (v:= .pointer (some ⟨w.heap.size,0,none⟩)) (w':=w.alloc (.mapIter (some b) c #[] c)) sm ?_ ?_
 ·simp [execOp,Instr.range,B.ev hm,run_underlying ht,F,newObj,Sem.run]
 ·refine k _ _ _ (B.put hd' _) (hs.M_ i hA (dI.alloc no w _) ⟨I,es,c,c,#[],c,?_,hi,heap_alloc_new w _,hi.Iv,Nat.le_refl _,Nat.le_refl _,?_,fun p hp=>by cases hp⟩ (fun q hq=>?_))
  ·rw [Below.heap_alloc w _ b G]; exact he
  ·have:leftOf es #[]=es:=by unfold leftOf; exact Array.filter_eq_self.2 sm
   rw [this]; exact hi.list
  ·rcases hq with rfl|rfl
   ·exact .inl (Nat.le_refl _)
   ·refine .inr ⟨hAf.1,hAf.2,fun (e:q=w.heap.size)=>by omega⟩
theorem Gn (hinj: ∀ x y,kV x=kV y→x=y) {xi:Operand} {r b:Nat} {m left:List (K×Value)} {cur:Option (K×Value)} (i:Nat) (hg:jx ops L g=true) (hm:ev L xi=some (.pointer (some ⟨r,0,none⟩))) (hC:C[i]? =some (yc kV r b m left cur)) (hd:Nat.blt d E.n=true)
 (k0:left=[]→RJ E ops Q rest D ((d,.tuple [.bool false].toArray)::L) C)
 (k1: ∀ x v,(x,v)∈left→(left.map (·.1)).Nodup→RJ E ops Q rest D ((d,.tuple [.bool true,kV x,v].toArray)::L) (C.set i (yc kV r b m (ct left x) (some (x,v))))):
 RJ E ops Q (⟨some d,.next xi false,ty,ps,af,g⟩::rest) D L C:=by
 intro a w G hs
 have hd':d<E.n:=by rw [← Nat.blt_eq]; exact hd
 unfold rY
 rw [if_pos (dV G hg)]
 obtain ⟨R,es,c,since,seen,st,X,hi,Y,J,V,M,A,_⟩:=hs.holds _ (aR hC)
 rcases run_next_at (P:=E.P) w ty r b since st seen es c Y X J V with ⟨Z,hr⟩|⟨e,he,N,H,hr⟩
 ·refine hE (v:= .tuple #[.bool false]) (w':=w) sm ?_ ?_
  ·simp [execOp,G.ev hm,hr]
  ·refine k0 ?_ _ _ (G.put hd' _) hs
   have:(leftOf es seen).toList=[]:=by rw [← List.length_eq_zero_iff,Array.length_toList]; exact Z
   rw [this] at A
   exact List.map_eq_nil_iff.1 A.symm
 ·have O:(e.key,e.val)∈left.map (fun p=>(kV p.1,p.2)):=by rw [← A]; exact List.mem_map.2 ⟨e,he,rfl⟩
  obtain ⟨p,hp,S⟩:=List.mem_map.1 O
  obtain ⟨x,v⟩:=p
  simp only [Prod.mk.injEq] at S
  obtain ⟨hk,hv⟩:=S
  refine hE (v:= .tuple #[.bool true,e.key,e.val]) (w':=ChangeMaps.setBlock N r (.mapIter (some b) since (seen.push e.born) c)) sm ?_ ?_
  ·simp [execOp,G.ev hm,hr]
  ·rw [← hk,← hv]
   have AA:=xR hinj hi A
   have F:e∈es.toList:=by unfold leftOf at he; rw [Array.toList_filter] at he; exact (List.mem_filter.1 he).1
   have f:c=c:=rfl
   have B:N.heap=w.heap:=by rcases H with rfl|rfl<;>rfl
   refine k1 x v hp AA _ _ (G.put hd' _) (hs.mv i hC ⟨⟨R,es,c,since,seen.push e.born,c,?_,hi,?_,J,M,M,?_,fun q hq=>?_⟩,?_,fun q hq=> .inl hq,fun q hq=> .inl hq⟩)
   ·show (N.heap.setIfInBounds r _)[b]? =_
    rw [Array.getElem?_setIfInBounds_ne R,B]; exact X
   ·show (N.heap.setIfInBounds r _)[r]? =_
    rw [Array.getElem?_setIfInBounds_self_of_lt (by rw [B]; exact dR Y)]
   ·have T:leftOf es (seen.push e.born)=(leftOf es seen).filter (fun z=> !(z.born==e.born)):=by
     unfold leftOf
     rw [Array.filter_filter]
     congr 1
     funext z
     simp only [Array.contains_push,Bool.not_or]
     rw [Bool.and_comm]
    rw [T,Array.toList_filter]
    have key: ∀ (l:List MapEntry) (ll:List (K×Value)),(∀ z∈l,z∈es.toList)→l.map (fun (e:MapEntry)=>(e.key,e.val))=ll.map (fun p=>(kV p.1,p.2))→
     (l.filter (fun z=> !(z.born==e.born))).map (fun (e:MapEntry)=>(e.key,e.val))=(ct ll x).map (fun p=>(kV p.1,p.2)):=by
     intro l
     induction l with
     |nil=>intro ll _ h; cases ll with
      |nil=>rfl
      |cons p ll=>simp at h
     |cons z l ih=>
      intro ll hz h
      cases ll with
      |nil=>simp at h
      |cons p ll=>
       simp only [List.map_cons,List.cons.injEq,Prod.mk.injEq] at h
       have ih':=ih ll (fun y hy=>hz y (by simp [hy])) h.2
       have AB:(z.born=e.born)↔(p.1=x):=by
        constructor
        ·intro hb
         have:z=e:=CF hi.born (hz z sm) F hb
         rw [this] at h
         have:=h.1.1.symm.trans hk.symm
         exact hinj _ _ this
        ·intro hx
         have W:z.key=e.key:=by rw [h.1.1,hx,hk]
         rw [Ba hinj hi (hz z sm) F W]
       unfold ct at ih' ⊢
       by_cases hx:p.1=x
       ·rw [List.filter_cons_of_neg (by simp [AB.2 hx]),List.filter_cons_of_neg (by simp [hx])]; exact ih'
       ·rw [List.filter_cons_of_pos (by simpa using fun hb=>hx (AB.1 hb)),List.filter_cons_of_pos (by simpa using hx)]
        simp only [List.map_cons,h.1.1,h.1.2,ih']
    exact key _ _ (fun z hz=>by unfold leftOf at hz; rw [Array.toList_filter] at hz; exact (List.mem_filter.1 hz).1) A
   ·cases hq
    exact ⟨e,seen,F,U,U,hk.symm,hv.symm⟩
   ·refine ⟨?_,?_,?_,?_,fun q hq hn=>?_⟩
    ·rcases H with rfl|rfl<;>rfl
    ·rcases H with rfl|rfl<;>rfl
    ·rcases H with rfl|rfl<;>rfl
    ·show w.heap.size≤(N.heap.setIfInBounds r _).size
     simp [B]
    ·show (N.heap.setIfInBounds r _)[q]? =_
     rw [Array.getElem?_setIfInBounds_ne (fun e=>hn e.symm),B]
theorem iT {xi:Operand} {r b:Nat} {m left:List (K×Value)} {x:K} {v:Value} (i:Nat) (hg:jx ops L g=true) (hm:ev L xi=some (.pointer (some ⟨r,0,none⟩))) (hC:C[i]? =some (yc kV r b m left (some (x,v)))):
 SD E ops ⟨dst,.entry xi,ty,ps,af,g⟩ D L C (.tuple [kV x,v].toArray):=
 dH hg sm fun a w F hs=>by
  obtain ⟨N,es,c,since,seen,st,J,hi,M,H,O,AA,G,B⟩:=hs.holds _ (aR hC)
  obtain ⟨e,A,he,rfl,rfl,hk,hv⟩:=B _ rfl
  have:=run_entry_at (P:=E.P) w r b since A es st e M J he hi.born
  simp [execOp,F.ev hm,this,hk,hv]
theorem iZ (hinj: ∀ x y,kV x=kV y→x=y) {β:Type} {f:β→Value} {xi:Operand} {r b:Nat} {m:List (K×Value)} {ll:List (K×β)} {cur:Option (K×Value)} (i:Nat) (hg:jx ops L g=true) (hm:ev L xi=some (.pointer (some ⟨r,0,none⟩))) (hC:C[i]? =some (yc kV r b m (bQ f ll) cur)) (hd:Nat.blt d E.n=true)
 (k0:ll=[]→RJ E ops Q rest D ((d,.tuple [.bool false].toArray)::L) C)
 (k1: ∀ x y,(x,y)∈ll→(ll.map (·.1)).Nodup→RJ E ops Q rest D ((d,.tuple [.bool true,kV x,f y].toArray)::L) (C.set i (yc kV r b m (bQ f (ct ll x)) (some (x,f y))))):
 RJ E ops Q (⟨some d,.next xi false,ty,ps,af,g⟩::rest) D L C:=by
 refine Gn hinj i hg hm hC hd (fun h=>k0 (List.map_eq_nil_iff.1 h)) (fun x v B hn=>?_)
 obtain ⟨p,hp,A⟩:=List.mem_map.1 B
 simp only [Prod.mk.injEq] at A
 obtain ⟨rfl,rfl⟩:=A
 have:=k1 p.1 p.2 hp (by simpa [bQ,Function.comp_def] using hn)
 rwa [lR] at this
theorem zr {t kt et:TypeId} {xm xk xv:Operand} {b:Nat} {x:K} {v:Value} {m m':List (K×Value)} {C':List aw} (i:Nat) (hg:jx ops L g=true) (hm:ev L xm=some (.map (some b))) (hk:ev L xk=some (kV x)) (hv:ev L xv=some v)
 (ht:E.P.underlying t=some (.map kt et)) (hkt:ua E.P kt kV) (hC:C[i]? =some (hU kV b m)) (hm':er m x v=m') (hC':C.set i (hU kV b m')=C') (k:RJ E ops Q rest D L C'):
 RJ E ops Q (⟨none,.insert t xm xk xv,ty,ps,af,g⟩::rest) D L C:=by
 subst hm' hC'
 intro a w A hs
 unfold rY
 rw [if_pos (dV A hg)]
 obtain ⟨es,c,he,hi⟩:=hs.holds _ (aR hC)
 have B:(getObj b).run E.P w= .ok (.map es c) w:=MapKept.run_getObj_map he
 rcases oV (P:=E.P) (w:=w) (x:=x) hkt hi with ⟨AA,F⟩|⟨j,N,AA,F,J⟩
 ·refine ru (w':={w with heap:=w.heap.setIfInBounds b (.map (es.push {key:=kV x,val:=v,born:=c}) (c+1))}) sm ?_ ?_
  ·simp [execOp,A.ev hm,A.ev hk,A.ev hv,Instr.mapUpdate,run_underlying ht,B,iu hkt,AA,MapKept.run_setObj_map _ he]
  ·refine k _ _ ⟨A.defers,A.size,A.at_⟩ (hs.Bp (b:=b) i hC U U (mS _) (fun _ h=>h) ⟨_,_,o6 he,?_⟩)
   have:er m x v=m++[(x,v)]:=by unfold er; rw [F]; rfl
   rw [this]; exact hi.push F v
 ·have M:=hi.size
  have G:j<es.size:=by have:=(List.getElem?_eq_some_iff.1 F).1; omega
  have H:(es[j]).key=kV x:=by
   have:=congrArg (fun l=>l[j]?) hi.list
   simp [G,F] at this
   exact this.1
  refine ru (w':={w with heap:=w.heap.setIfInBounds b (.map (es.modify j fun e=>{e with key:=kV x,val:=v}) c)}) sm ?_ ?_
  ·simp [execOp,A.ev hm,A.ev hk,A.ev hv,Instr.mapUpdate,run_underlying ht,B,iu hkt,AA,MapKept.run_setObj_map _ he,Instr.keyThatStays,G,H,hkt.bits x]
  ·exact k _ _ ⟨A.defers,A.size,A.at_⟩ (hs.Bp (b:=b) i hC U U (mS _) (fun _ h=>h) ⟨_,_,o6 he,hi.set F J v⟩)
end
end
end
section
open Go.RowKit
def TW {σ:Type} (w0:World) (P:Program) (l:Nat) (step:σ→List Value→σ→Prop) (J:σ→aw→Prop) (Z:aw→Prop):Prop:=
 ∀ k x k' A w,step k x k'→J k A→w0.heap.size≤w.heap.size→A.holds w→YieldAt (Fw none) 0 P l x.toArray w fun e w'=>
  (e= .returned (.bool true)∧ ∃ B,J k' B∧Mv A B w w')∨(e= .returned (.bool false)∧ ∃ B,Z B∧Mv A B w w')
def IX {σ:Type} (J:σ→aw→Prop) (Z:aw→Prop) (fin:σ→Prop) (A0:aw) (w0:World) (e:Ending) (w':World):Prop:=
 ∃ v,e= .returned v∧((∃ s B,fin s∧J s B∧Mv A0 B w0 w')∨ ∃ B,Z B∧Mv A0 B w0 w')
structure Eb {σ:Type} (P:Program) (f:FuncId) (fi ca:List Value) (Cp:List aw) (s0:σ) (step:σ→List Value→σ→Prop) (fin:σ→Prop):Prop where
 go:rG P f=true
 run: ∀ (l:Nat) (J:σ→aw→Prop) (Z:aw→Prop) (A0:aw) (w:World),TW w P l step J Z→J s0 A0→A0.holds w→(∀ A∈Cp,A.holds w)→(∀ A∈Cp,CK A0 A.ro)→
  Calls P f (fi++Value.func (.yield l) #[] #[]::ca).toArray w (IX J Z fin A0 w)
theorem JH {σ:Type} {J:σ→aw→Prop} {Z:aw→Prop} {n:σ} {fin:σ→Prop} {A0 B:aw} {w0 w:World} {C:List aw} {v:Value} (i:Nat) (hC:C[i]? =some B) (hfin:fin n) (hJ:J n B) (hF:Fo A0 w0 B) (hs:St ⟨A0.wf,fun _=>True⟩ w0 C w):IX J Z fin A0 w0 (.returned v) w:=
 ⟨v,rfl,.inl ⟨n,B,hfin,hJ,hs.holds B (aR hC),hs.keeps,fun b hb=>(hs.own B (aR hC) b hb).symm,hF⟩⟩
theorem rW {σ:Type} {J:σ→aw→Prop} {Z:aw→Prop} {fin:σ→Prop} {A0 B:aw} {w0 w:World} {C:List aw} {v:Value} (i:Nat) (hC:C[i]? =some B) (hJ:Z B) (hF:Fo A0 w0 B) (hs:St ⟨A0.wf,fun _=>True⟩ w0 C w):IX J Z fin A0 w0 (.returned v) w:=
 ⟨v,rfl,.inr ⟨B,hJ,hs.holds B (aR hC),hs.keeps,fun b hb=>(hs.own B (aR hC) b hb).symm,hF⟩⟩
theorem tD {σ:Type} {P:Program} {f:FuncId} {fn:Func} {c:Code} {fi ca:List Value} {Cp:List aw} {s0:σ} {step:σ→List Value→σ→Prop} {fin:σ→Prop} (hgo:rG P f=true) (hf:P.funcs[f]? =some fn) (hb:fn.body=some c) (hn:Nat.ble (fi.length+ca.length+1) fn.ntmps=true)
 (h: ∀ (l:Nat) (J:σ→aw→Prop) (Z:aw→Prop) (A0:aw) (w0:World) (Q:cY),TW w0 P l step J Z→J s0 A0→Fo A0 w0 A0→
  (∀ D L C,LJ ⟨P,none,fn.ntmps,⟨A0.wf,fun _=>True⟩,w0⟩ fn (IX J Z fin A0 w0) D L C→KJ ⟨P,none,fn.ntmps,⟨A0.wf,fun _=>True⟩,w0⟩ (Q .ret) D L C)→
  (∀ D L C,LJ ⟨P,none,fn.ntmps,⟨A0.wf,fun _=>True⟩,w0⟩ fn (IX J Z fin A0 w0) D L C→KJ ⟨P,none,fn.ntmps,⟨A0.wf,fun _=>True⟩,w0⟩ (Q .normal) D L C)→
  WJ ⟨P,none,fn.ntmps,⟨A0.wf,fun _=>True⟩,w0⟩ c Q [] (Px (fi++Value.func (.yield l) #[] #[]::ca)) (A0::Cp.map aw.ro)):Eb P f fi ca Cp s0 step fin:=by
 refine ⟨hgo,fun l J Z A0 w hY hJ hA F E=>?_⟩
 refine DE hf hb (by simpa [Nat.add_assoc] using hn) (h l J Z A0 w · hY hJ (fun b hb=> .inl hb)) ?_
 have G:=tM F
 refine ⟨dI.refl _ _,fun A hA'=>?_,List.Pairwise.cons (fun B hB=>?_) G.sep,fun A hA' b hb=>?_,fun _ _ _ _=> .inr trivial⟩
 ·rcases List.mem_cons.1 hA' with rfl|hA'
  ·exact hA
  ·exact G.holds A hA'
 ·obtain ⟨B',hB',rfl⟩:=List.mem_map.1 hB
  exact E B' hB'
 ·rcases List.mem_cons.1 hA' with rfl|hA'
  ·exact .inr hb
  ·obtain ⟨B',hB',rfl⟩:=List.mem_map.1 hA'
   exact hb.elim
section
variable {E:eU} {ops:Array Oper} {Q:cY} {rest:List Oper} {D:List Deferred} {L:List (Nat×Value)} {C:List aw}
variable {d:Nat} {ty:TypeId} {ps:String} {af:Array Edge} {g:Option (Nat×Bool)}
/-- a call of yield -/
theorem kj {σ:Type} {fop:Operand} {xs:Array Operand} {ts:Array TypeId} {l:Nat} {k k':σ} {vs:List Value} {step:σ→List Value→σ→Prop} {J:σ→aw→Prop} {Z:aw→Prop} {A0 A:aw} {w1:World} (i:Nat) (hw1:w1.heap.size≤E.w0.heap.size) (hY:TW w1 E.P l step J Z) (hJ:J k A) (hF:Fo A0 w1 A) (hg:jx ops L g=true) (hf:ev L fop=some (.func (.yield l) #[] #[]))
 (hx:evs L xs.toList=some vs) (hk:step k vs k') (hC:C[i]? =some A) (hd:Nat.blt d E.n=true)
 (k1: ∀ B,J k' B→Fo A0 w1 B→RJ E ops Q rest D ((d,.bool true)::L) (C.set i B))
 (k2: ∀ B,Z B→Fo A0 w1 B→RJ E ops Q rest D ((d,.bool false)::L) (C.set i B)):
 RJ E ops Q (⟨some d,.call {callee:= .value fop,args:=xs,argTypes:=ts},ty,ps,af,g⟩::rest) D L C:=by
 intro a w F hs
 have hd':d<E.n:=by rw [← Nat.blt_eq]; exact hd
 unfold rY
 rw [if_pos (dV F hg)]
 have K:xs.map a.eval=vs.toArray:=by
  have:=F.evs hx
  apply Array.ext'
  simp [this]
 obtain ⟨fn,tmps,assign,body,hy,hr⟩:=hY k vs k' A w hk hJ (Nat.le_trans hw1 hs.keeps.size) (hs.holds A (aR hC))
 have H:(execOp a.eval ⟨some d,.call {callee:= .value fop,args:=xs,argTypes:=ts},ty,ps,af,g⟩).run E.P w= .ok (.round l fn tmps assign body) w:=by
  simp [execOp,resolve,F.ev hf,Deferred.ofValue,invoke,K,hy]
 refine ⟨fun _ _=>trivial,?_⟩
 rw [Oper.semAt_eq _ _ _ sm,H]
 refine ⟨fun h=>by simp at h,?_⟩
 have G: ∀ (B:aw) (w':World),Mv A B w w'→Fo A0 w1 B:=fun B w' m b hb=>by
  rcases m.e9 b hb with AA|AA
  ·exact hF b AA
  ·exact .inr (Nat.le_trans hw1 (Nat.le_trans hs.keeps.size AA))
 have hr':RoundIn (Fw E.r) 0 E.P l fn tmps assign body w _:=hr
 refine hr'.mono fun e w' he=>?_
 rcases he with ⟨rfl,B,hB,m⟩|⟨rfl,B,hB,m⟩
 ·exact k1 B hB (G B w' m) _ _ (F.put hd' _) (hs.mv i hC m)
 ·exact k2 B hB (G B w' m) _ _ (F.put hd' _) (hs.mv i hC m)
end
theorem m_ {σ:Type} {E:eU} {Q:cY} {D:List Deferred} {L L0:List (Nat×Value)} {C F:List aw} {g:Operand} {ps:Array Tmp} {assign body:Code} {f:FuncId} {fi ca:List Value} {Cp:List aw} {s0:σ} {step:σ→List Value→σ→Prop} {fin_:σ→Prop} {ι κ:Type}
 (inv:σ→ι→Prop) (Ci:σ→ι→List aw) (invx:Code→κ→Prop) (Cx:Code→κ→List aw) (isJ isF:List Nat) (y0:ι)
 (hr:E.r=none) (hg:ev L g=some (.func (.func f) fi.toArray ca.toArray)) (hs:Eb E.P f fi ca Cp s0 step fin_)
 (hnd:decide (isJ++isF).Nodup=true) (hJ:kz C isJ=Ci s0 y0) (hF:kz C isF=F) (h0:inv s0 y0) (hCp: ∀ A∈Cp,∃ B∈F,Lh B A)
 (hps: ∀ k x k',step k x k'→x.length=ps.size) (hpn:ps.toList.all (fun t=>Nat.blt t E.n)=true) (hL:cO L L0)
 (round: ∀ (k:σ) (x:List Value) (k':σ) (y:ι) (l:Nat) (ra rb:Loop) (S:BS) (w0:World) (K:Act→World→Prop) (Qr:cY),E.w0.heap.size≤w0.heap.size→step k x k'→inv k y→
  (∀ L' C',WJ ⟨E.P,some l,E.n,S,w0⟩ body Qr [] L' (k9 l (.loop rb)::C')→KJ ⟨E.P,some l,E.n,S,w0⟩ K [] L' (k9 l (.loop ra)::C'))→
  (∀ y' L' C',inv k' y'→(∀ w,St S w0 C' w→St S w0 (k9 l (.loop rb)::Ci k' y') w)→KJ ⟨E.P,some l,E.n,S,w0⟩ (Qr .normal) [] L' C')→
  (∀ id z L' C',invx (.exit id) z→(∀ w,St S w0 C' w→St S w0 (k9 l (.loop rb)::Cx (.exit id) z) w)→KJ ⟨E.P,some l,E.n,S,w0⟩ (Qr (.exit id)) [] L' C')→
  (∀ z L' C',invx .ret z→(∀ w,St S w0 C' w→St S w0 (k9 l (.loop rb)::Cx .ret z) w)→KJ ⟨E.P,some l,E.n,S,w0⟩ (Qr .ret) [] L' C')→
  WJ ⟨E.P,some l,E.n,S,w0⟩ assign (Exit.then K (fun _ _ _=>False)) [] (BM ps.toList x L0) (k9 l (.loop ra)::Ci k y))
 (fin: ∀ r s y,fin_ s→inv s y→KJ E (Q .normal) (lp r::D) L0 (k9 r (.deferred (some []))::(F++Ci s y)))
 (finx: ∀ r id z,invx (.exit id) z→KJ E (Q (.exit id)) (lp r::D) L0 (k9 r (.deferred (some []))::(F++Cx (.exit id) z)))
 (finr: ∀ r z,invx .ret z→KJ E (Q .ret) (lp r::D) L0 (k9 r (.deferred (some []))::(F++Cx .ret z))):WJ E (.rangeFunc g ps assign body) Q D L C:=by
 intro a w hf q
 refine wpIn_rangeFunc fun fn _=>?_
 show ∃ l lp w₁ d w₁' f args w₂,(Instr.enterLoop fn a.tmps ps assign body E.r).run E.P w= .ok (l,lp) w₁∧_
 rw [hr]
 obtain ⟨rec,G⟩: ∃ rec:LoopState→Option Code→Loop,rec=fun st pe=>{state:=st,pending:=pe,fn,tmps:=a.tmps,params:=ps,assign,body,defers:=w.heap.size}:=⟨_,rfl⟩
 obtain ⟨W1,R⟩: ∃ W1,(w.alloc (.deferred (some []))).alloc (.loop (rec .ready none))=W1:=⟨_,rfl⟩
 have AE:a.eval g= .func (.func f) fi.toArray ca.toArray:=hf.ev hg
 have p:(Instr.enterLoop fn a.tmps ps assign body none).run E.P w= .ok (w.heap.size+1,[lp w.heap.size]) W1:=by
  rw [← R,G]; exact run_enterLoop_outer _ _ _ _ _
 -- the state with the record and the block
 have u:St E.S E.w0 ((k9 (w.heap.size+1) (.loop (rec .ready none))::Ci s0 y0)++(k9 w.heap.size (.deferred (some []))::F)) W1:=by
  have X:St E.S E.w0 (Ci s0 y0++F) w:=St.kz (isJ++isF) hnd (by have X:=hJ; have j:=hF; unfold Go.Proofs.YtcoejkiaokbmpaaGreatDoor.kz at X j ⊢; rw [List.filterMap_append,X,j]) q
  have hn:L_ w W1 [k9 (w.heap.size+1) (.loop (rec .ready none)),k9 w.heap.size (.deferred (some []))]:=by
   refine ⟨fun A hA=>?_,fun A hA b hb=>?_,?_⟩
   ·rcases List.mem_cons.1 hA with rfl|hA
    ·show W1.heap[w.heap.size+1]? =_
     rw [← R]; have:=World.alloc_heap_new (w.alloc (.deferred (some []))) (.loop (rec .ready none)); rwa [World.size_alloc] at this
    ·simp only [bK] at hA; subst hA
     show W1.heap[w.heap.size]? =_
     rw [← R]; exact (Below.heap_alloc _ _ _ sm).trans (World.alloc_heap_new w _)
   ·rcases List.mem_cons.1 hA with rfl|hA
    ·have:b=w.heap.size+1:=hb
     omega
    ·simp only [bK] at hA; subst hA
     have:b=w.heap.size:=hb
     omega
   ·refine List.Pairwise.cons (fun B hB b X j=>?_) (List.pairwise_singleton _ _)
    simp only [bK] at hB; subst hB
    have V:b=w.heap.size+1:=X
    have O:b=w.heap.size:=j
    omega
  have hk:dI no w W1:=by rw [← R]; exact (dI.alloc no w _).trans (dI.alloc no _ _)
  have j:=X.grow hk hn
  refine j.perm ?_
  simp only [List.cons_append,List.nil_append]
  exact List.Perm.cons _ (List.perm_middle.symm)
 have Y:=u.tied
 obtain ⟨H,AJ⟩:=List.pairwise_cons.1 Y.sep
 have AC:=Y.holds _ (bZ ..)
 let J:σ→aw→Prop:=fun k A=> ∃ y,inv k y∧A=bB (k9 (w.heap.size+1) (.loop (rec .ready none))::Ci k y)
 let Z:aw→Prop:=fun A=> ∃ c z,(c= .ret∨ ∃ id,c= .exit id)∧invx c z∧A=bB (k9 (w.heap.size+1) (.loop (rec .done (some c)))::Cx c z)
 refine ⟨w.heap.size+1,[lp w.heap.size],W1,{target:= .fn (.func f) ca.toArray,args:=fi.toArray++ #[.func (.yield (w.heap.size+1)) #[] #[]]},W1,f,
  (fi++Value.func (.yield (w.heap.size+1)) #[] #[]::ca).toArray,W1,p,?_,fun _ _=>trivial,?_,fun h=>by simp at h,?_⟩
 ·simp only [resolve,AE]
  simp [Deferred.ofValue,Act.eval]
 ·have:fi.toArray++ #[Value.func (.yield (w.heap.size+1)) #[] #[]]++ca.toArray=(fi++Value.func (.yield (w.heap.size+1)) #[] #[]::ca).toArray:=by simp
  simp [invoke,pg hs.go]
 ·refine (qD E.r (hs.run (w.heap.size+1) J Z _ W1 ?_ ⟨y0,h0,U⟩ AC ?_ ?_)).mono ?_
  ·-- a round
   rintro k x k' A W hx ⟨y,hy,rfl⟩ AD hA
   have hl:W.heap[w.heap.size+1]? =some (.loop (rec .ready none)):=hA.1 _ (bZ ..)
   have AA:=run_yield (P:=E.P) (args:=x.toArray) hl (by rw [G]; simpa using hps k x k' hx)
   rw [G] at AA
   refine ⟨fn,_,assign,body,AA,roundIn_of_wpIn trivial ?_⟩
   let A:aw:=bB (k9 (w.heap.size+1) (.loop (rec .ready none))::Ci k y)
   have AF:Fr E.n [] (BM ps.toList x L0) {tmps:=(ps.zip x.toArray).foldl (fun tmps (t,a)=>tmps.setIfInBounds t a) a.tmps,defers:=[]}:=by
    have X:=K6 ps.toList x L0 a.tmps (fun t ht=>by have:=List.all_eq_true.1 hpn t ht; rwa [Nat.blt_eq] at this) ⟨rfl,hf.size,fun t v hv=>hf.at_ t v (hL t v hv)⟩
    rw [← Array.foldl_toList]
    simpa using X
   have o: ∀ (c:Option Code) (b:Bool),({rec .busy none with state:=if b then .ready else .done,pending:=c}:Loop)=rec (if b then .ready else .done) c:=fun c b=>by rw [G]
   have T: ∀ (c:Option Code) (N:World) (C':List aw) (S:BS),St S W (k9 (w.heap.size+1) (.loop (rec .busy none))::C') N→
    ∃ M,(Instr.endRound (w.heap.size+1) c).run E.P N= .ok (.bool c.isNone) M∧St S W (k9 (w.heap.size+1) (.loop (rec (if c.isNone then .ready else .done) c))::C') M:=fun c N C' S H=>by
    have AI:N.heap[w.heap.size+1]? =some (.loop (rec .busy none)):=H.holds _ (bZ ..)
    refine ⟨_,run_endRound c AI,?_⟩
    have:=H.Bp (b:=w.heap.size+1) (A':=k9 (w.heap.size+1) (.loop (rec (if c.isNone then .ready else .done) c))) 0 rfl rfl rfl (ji _) (fun _ h=>h) (World.putObj_heap_same (dR AI))
    rw [o]
    exact this
   refine round k x k' y (w.heap.size+1) (rec .ready none) (rec .busy none) ⟨A.wf,A.e9⟩ W _ (roundPost E.P (w.heap.size+1) (fun e w'=>(e= .returned (.bool true)∧ ∃ B,J k' B∧Mv A B W w')∨(e= .returned (.bool false)∧ ∃ B,Z B∧Mv A B W w'))) (Nat.le_trans (Nat.le_trans q.keeps.size (by rw [← R]; simp; omega)) AD) hx hy ?_ ?_ ?_ ?_ _ _ AF (St.EM hA)
   ·intro L' C' hW a1 N i H
    have AI:N.heap[w.heap.size+1]? =some (.loop (rec .ready none)):=H.holds _ (bZ ..)
    refine ⟨_,run_beginRound AI (by rw [G]),hW _ _ i ?_⟩
    have:=H.Bp (b:=w.heap.size+1) (A':=k9 (w.heap.size+1) (.loop (rec .busy none))) 0 rfl rfl rfl (ji _) (fun _ h=>h) (World.putObj_heap_same (dR AI))
    have e:({rec .ready none with state:= .busy}:Loop)=rec .busy none:=by rw [G]
    rw [e]; exact this
   ·intro y' L' C' hy' hC' a1 N i H
    obtain ⟨M,V,O⟩:=T none N _ _ (hC' _ H)
    exact ⟨_,M,V,.inl ⟨U,_,⟨y',hy',U⟩,Mv.of O⟩⟩
   ·intro id z L' C' hz hC' a1 N i H
    obtain ⟨M,V,O⟩:=T (some (.exit id)) N _ _ (hC' _ H)
    exact ⟨_,M,V,.inr ⟨U,_,⟨_,z,.inr ⟨id,U⟩,hz,U⟩,Mv.of O⟩⟩
   ·intro z L' C' hz hC' a1 N i H
    obtain ⟨M,V,O⟩:=T (some .ret) N _ _ (hC' _ H)
    exact ⟨_,M,V,.inr ⟨U,_,⟨_,z,.inl U,hz,U⟩,Mv.of O⟩⟩
  ·intro A hA
   obtain ⟨B,hB,hc⟩:=hCp A hA
   exact hc.holds _ (Y.holds B (cW _ (cW _ hB)))
  ·intro A hA b hb hb'
   obtain ⟨B,hB,hc⟩:=hCp A hA
   exact ⟨(H B (cW _ hB) b hb (hc.e9 b hb')).1,fun h=>h⟩
  ·rintro e w' ⟨v,rfl,hh⟩
   have AB:Fr E.n (lp w.heap.size::D) L0 {a with defers:=[lp w.heap.size]++a.defers}:=⟨by simp [hf.defers],hf.size,fun t v hv=>hf.at_ t v (hL t v hv)⟩
   have hleave: ∀ (st:LoopState) (c:Option Code) (C':List aw),st≠ .busy→Mv (bB (k9 (w.heap.size+1) (.loop (rec .ready none))::Ci s0 y0)) (bB (k9 (w.heap.size+1) (.loop (rec st c))::C')) W1 w'→
    ∃ M,(Instr.endLoop (w.heap.size+1)).run E.P w'= .ok c M∧St E.S E.w0 (k9 w.heap.size (.deferred (some []))::(F++C')) M:=fun st c C' AH m=>by
    have X:=(Y.mv 0 rfl m).g8
    have h1':St E.S E.w0 ((k9 (w.heap.size+1) (.loop (rec st c))::C')++(k9 w.heap.size (.deferred (some []))::F)) w':=X
    have AI:w'.heap[w.heap.size+1]? =some (.loop (rec st c)):=h1'.holds (k9 (w.heap.size+1) (.loop (rec st c))) sm
    refine ⟨_,by have:=run_endLoop (P:=E.P) AI (by rw [G]; exact AH); rw [this,G],?_⟩
    have j:=h1'.Bp (b:=w.heap.size+1) (A':=k9 (w.heap.size+1) (.loop {rec st c with state:= .exhausted})) 0 rfl rfl rfl (ji _) (fun _ h=>h) (World.putObj_heap_same (dR AI))
    have h3:St E.S E.w0 (C'++(k9 w.heap.size (.deferred (some []))::F)) _:=j.take (List.sublist_cons_self _ _)
    rw [G] at h3
    refine h3.perm ?_
    exact (List.perm_append_comm).trans sm
   rcases hh with ⟨s,B,AG,⟨y,hy,rfl⟩,m⟩|⟨B,⟨c,z,hc,hz,rfl⟩,m⟩
   ·obtain ⟨M,V,O⟩:=hleave .ready none _ sm m
    exact ⟨none,M,V,fin w.heap.size s y AG hy _ _ AB O⟩
   ·obtain ⟨M,V,O⟩:=hleave .done (some c) _ sm m
    refine ⟨some c,M,V,?_⟩
    rcases hc with rfl|⟨id,rfl⟩
    ·exact wpIn_ret (finr w.heap.size z hz _ _ AB O)
    ·exact wpIn_exit (finx w.heap.size id z hz _ _ AB O)
end
section
open Go.RowKit
/-- where a row lies, and its capacity -/
abbrev RA:=OA×Nat
/-- what is asked of memory by all elements -/
def aU {M A:Type} (f:M→A→List aw):List M→List A→List aw
 |m::ms,a::asl=>f m a++aU f ms asl
 |_,_=>[]
theorem bu {M A:Type} {f:M→A→List aw}: ∀ {ms:List M} {asl:List A} {k:Nat} {m:M} {a:A} {X:aw},ms[k]? =some m→asl[k]? =some a→X∈f m a→X∈aU f ms asl
 |[],_,k,m,a,X,h,_,_=>by simp at h
 |_::_,[],k,m,a,X,_,h,_=>by simp at h
 |x::ms,y::asl,0,m,a,X,h,h2,hX=>by
  simp at h h2; subst h h2
  exact List.mem_append_left _ hX
 |x::ms,y::asl,k+1,m,a,X,h,h2,hX=>List.mem_append_right _ (bu (ms:=ms) (asl:=asl) (k:=k) (by simpa using h) (by simpa using h2) hX)
theorem jm {M A:Type} {f:M→A→List aw}: ∀ {ms:List M} {asl:List A} {X:aw},X∈aU f ms asl→ ∃ (k:Nat) (m:M) (a:A),ms[k]? =some m∧asl[k]? =some a∧X∈f m a
 |[],_,X,h=>by cases h
 |_::_,[],X,h=>by cases h
 |x::ms,y::asl,X,h=>by
  rcases List.mem_append.1 h with h|h
  ·exact ⟨0,x,y,U,U,h⟩
  ·obtain ⟨k,m,a,B,C,D⟩:=jm h
   exact ⟨k+1,m,a,by simpa using B,by simpa using C,D⟩
theorem iX {M A:Type} {f:M→A→List aw}: ∀ {ms:List M} {asl:List A} {ns:List M} {bs:List A},ms.length=asl.length→aU f (ms++ns) (asl++bs)=aU f ms asl++aU f ns bs
 |[],[],ns,bs,_=>rfl
 |[],_::_,ns,bs,h=>by simp at h
 |_::_,[],ns,bs,h=>by simp at h
 |x::ms,y::asl,ns,bs,h=>by
  simp only [List.cons_append,aU,List.append_assoc]
  rw [iX (by simpa using h)]
theorem cH {M A β:Type} {f:M→A→β} {ms:List M} {asl:List A} {k:Nat} {m:M} {a:A} (h:ms[k]? =some m) (h2:asl[k]? =some a):(List.zipWith f ms asl)[k]? =some (f m a):=by
 rw [List.getElem?_zipWith,h,h2]
theorem b_ {C L:List aw} {A:aw} (i:Nat) (hC:C[i]? =some (eH L).ro) (hm:A∈L):gI C A.holds:=fun w hw=>hw _ (aR hC) A hm
theorem eN {M A:Type} {f g:M→A→List aw} {ms:List M} {asl:List A} {C:List aw} (i:Nat) (hC:C[i]? =some (bB (aU g ms asl))) (h: ∀ m a w,(∀ X∈g m a,X.holds w)→ ∀ X∈f m a,X.holds w):gI C (eH (aU f ms asl)).holds:=fun w hw X hX=>by
 have hb:=hw _ (aR hC)
 obtain ⟨k,m,a,B,D,E⟩:=jm hX
 exact h m a w (fun Y hY=>hb.1 Y (bu B D hY)) X E
/-- a row that is part of another one -/
theorem Lr {C:List aw} {A:OA} {n k sz:Nat} {es:List (List Value)} (hR:gI C (rd A n sz es).holds) (hk:k≤n):gI C (rd A k sz (es.take k)).holds:=fun w hw=>by
 obtain ⟨D,E,F⟩:=hR w hw
 refine ⟨by rw [List.length_take,D]; omega,fun x hx=>E x (List.mem_of_mem_take hx),fun hp=>?_⟩
 have G:0<k:=Nat.pos_of_mul_pos_right hp
 have hs:0<sz:=Nat.pos_of_mul_pos_left hp
 obtain ⟨ad,hA,B⟩:=F (Nat.mul_pos I hs)
 refine ⟨ad,hA,fun i e j v he hv=>B i e j v ?_ hv⟩
 rw [List.getElem?_take] at he
 split at he
 ·exact he
 ·cases he
section
variable {E:eU} {ops:Array Oper} {Q:cY} {rest:List Oper} {D:List Deferred} {L:List (Nat×Value)} {C:List aw}
variable {d:Nat} {ty:TypeId} {ps:String} {af:Array Edge} {g:Option (Nat×Bool)}
/-- an element of a slice that is the head of a row -/
theorem Uu (k:Nat) {x ix:Operand} {A:OA} {n n' c sz e t:Nat} {es:List (List Value)} {j:Int} (h:bF E.n ops L d g x ix=some (.slice A n' c,.int .i64 j)) (hR:gI C (rd A n sz es).holds)
 (ht:tE E.P t=some (e,sz)) (hz:0<sz) (hj:j=(k:Int)) (hk:k<n') (hn:n'≤n):SE E ops ⟨some d,.indexAddr t x ix,ty,ps,af,g⟩ D L C (.pointer (lP A (k*sz))) d:=IA k h (Lr hR hn) ht hz hj hk
end
theorem St.tie {S:BS} {w0 w:World} {C:List aw} {A:aw} {L L':List aw} (h:St S w0 (A::bB L::C) w) (e:L++[A]=L'):St S w0 (bB L'::C) w:=by
 subst e
 have B:St S w0 (bB L::A::C) w:=h.perm (List.Perm.swap _ _ _)
 have D:St S w0 (L++(A::C)) w:=B.g8
 have E:St S w0 ((L++[A])++C) w:=by simpa using D
 exact E.tied
theorem St.Oq {S:BS} {w0 w:World} {C:List aw} (h:St S w0 C w):St S w0 (bB []::C) w:=St.tied (C1:=[]) h
section
variable {E:eU} {Q:cY} {D:List Deferred} {L:List (Nat×Value)} {C:List aw}
theorem kW {c:Code} (h:WJ E c Q D L (bB []::C)):WJ E c Q D L C:=fun a w hf hs=>h a w hf hs.Oq
theorem wm {ops:Array Oper} {rest:List Oper} (h:RJ E ops Q rest D L (bB []::C)):RJ E ops Q rest D L C:=fun a w hf hs=>h a w hf hs.Oq
theorem zn {K:Act→World→Prop} {C1:List aw} {A:aw} {X X':List aw} (i j:Nat) (hn:decide (j::i::(List.range C.length).filter fun k=>k != i&&k != j).Nodup=true) (hC:kz C (j::i::(List.range C.length).filter fun k=>k != i&&k != j)=A::bB X::C1) (e:X++[A]=X')
 (h:KJ E K D L (bB X'::C1)):KJ E K D L C:=fun a w hf hs=>h a w hf ((St.kz _ hn hC hs).tie e)
theorem RX {ops:Array Oper} {rest:List Oper} {C1:List aw} {A:aw} {X X':List aw} (i j:Nat) (hn:decide (j::i::(List.range C.length).filter fun k=>k != i&&k != j).Nodup=true) (hC:kz C (j::i::(List.range C.length).filter fun k=>k != i&&k != j)=A::bB X::C1) (e:X++[A]=X')
 (h:RJ E ops Q rest D L (bB X'::C1)):RJ E ops Q rest D L C:=fun a w hf hs=>h a w hf ((St.kz _ hn hC hs).tie e)
end
end
section
open Go.RowKit
abbrev dB:ab→Value:=fun s=>vA (ab.cells s)
abbrev dW:aF→Value:=fun s=>vA (aF.cells s)
abbrev TM:=List (Int×ab)
abbrev FM:=List (aF×Int)
def gv {α:Type} (m:α) (b:Nat):List Value:=[Value.map (some b)]
def rH (m:TM) (b:Nat):List aw:=[hU iV b (bQ dB m)]
def nO (m:FM) (b:Nat):List aw:=[hU dW b (bQ iV m)]
theorem xN {M A:Type} {f:M→A→List aw}: ∀ (m:M) (a:A) (w:World),(∀ X∈f m a,X.holds w)→ ∀ X∈f m a,X.holds w:=fun _ _ _ h=>h
/-- untied -/
theorem MQ {E:eU} {ops:Array Oper} {Q:cY} {rest:List Oper} {D:List Deferred} {L:List (Nat×Value)} {C X C1:List aw} (i:Nat) (hn:decide (i::(List.range C.length).filter fun k=>k != i).Nodup=true) (hC:kz C (i::(List.range C.length).filter fun k=>k != i)=bB X::C1)
 (h:RJ E ops Q rest D L (X++C1)):RJ E ops Q rest D L C:=fun a w hf hs=>h a w hf (St.g8 (St.kz _ hn hC hs))
end
section
def cJ (ln:bT) (rd:ew) (e:List Int) (tms:List TM):bP:=⟨rd.Start,rd.fK,e,tms,ln.cN,ln.eg,(rd.ah.n:Int)⟩
def Nw (o:Int×ab):List Value:=[.int .i64 o.1,.agg (ab.cells o.2).toArray]
structure HB (w:bP):Prop where
 n:w.n≤6
 times:w.uN.length=w.n
 now:0≤w.Start∧w.Start≤w.fK∧w.fK≤86400000
 least: ∀ x∈w.p8,1≤x∧x≤500000000
 E5: ∀ t∈w.uN,∀ p∈t,(0≤p.1∧p.1≤10)∧0≤p.2.Lo∧p.2.Lo≤p.2.Hi∧p.2.Hi≤86400000
theorem HB.opt {w:bP} (h:HB w) {b:Nat} {o:Int×ab} (ho:o∈hO w b):(-1≤o.1∧o.1≤10)∧0≤o.2.Lo∧o.2.Lo≤o.2.Hi∧o.2.Hi≤86400000:=by
 unfold hO td at ho
 rcases List.mem_cons.1 ho with rfl|ho
 ·have:=h.now; simp only; omega
 ·cases ht:w.uN[b]? with
  |none=>simp [ht] at ho
  |some t=>
   rw [ht] at ho
   have:=h.E5 t (aR ht) o ho
   omega
theorem HB.bR {w:bP} (h:HB w) (b:Nat):0≤bR w b∧bR w b≤500000000:=by
 unfold Go.Proofs.YtcoejkiaokbmpaaGreatDoor.bR
 cases ht:w.p8[b]? with
 |none=>simp
 |some x=>have:=h.least x (aR ht); simp only [Option.getD_some]; omega
theorem ub (s:Int):(0≤(eQ s).right∧0≤(eQ s).eE)∧(eQ s).right+(eQ s).eE=1:=by unfold eQ; split<;>simp
theorem J0 {w:bP} (h:HB w): ∀ (b:Nat) p,p∈fwd w b→(0≤p.2∧p.2≤86400000)∧(0≤p.1.right∧0≤p.1.eE)∧p.1.right+p.1.eE=(b:Int):=by
 intro b
 induction b with
 |zero=>
  intro p hp
  simp only [fwd,bK] at hp
  subst hp
  have:=h.now; simp only; omega
 |succ b ih=>
  intro q hq
  obtain ⟨p,hp,o,ho,e⟩:=fE.1 hq
  have A:=ih p hp
  have B:=h.opt ho
  have C:=h.bR b
  have D:=h.now
  have E:=ub o.1
  unfold kB at e
  split at e
  ·simp only [Option.some.injEq] at e
   subst e
   simp only [dg]
   omega
  ·cases e
theorem P8 {w:bP} (h:HB w): ∀ (k:Nat) p,p∈bwd w k→(-(500000000*(k:Int))≤p.2∧p.2≤86400000)∧(0≤p.1.right∧0≤p.1.eE)∧p.1.right+p.1.eE≤(k:Int):=by
 intro k
 induction k with
 |zero=>
  intro p hp
  simp only [bwd,bK] at hp
  subst hp
  have:=h.now; simp only; omega
 |succ k ih=>
  intro q hq
  simp only [bwd,dL,List.mem_flatMap,List.mem_filterMap] at hq
  rcases hq with rfl|⟨p,hp,o,ho,e⟩
  ·have:=h.now; simp only; omega
  ·have A:=ih p hp
   have B:=h.opt ho
   have C:=h.bR (w.n-(k+1))
   have D:=h.now
   have E:=ub o.1
   unfold nQ at e
   split at e
   ·simp only [Option.some.injEq] at e
    subst e
    simp only [dg]
    omega
   ·cases e
theorem KZ {w:bP} (h:HB w) {b:Nat} {p:aF×Int} (hp:p∈back w b):(-3000000000≤p.2∧p.2≤86400000)∧(0≤p.1.right∧0≤p.1.eE)∧p.1.right+p.1.eE≤6:=by
 have:=P8 h _ _ hp
 have:=h.n
 omega
theorem xS {w:bP} {b:Nat} {t:TM} (ht:w.uN[b]? =some t) {o:Int×ab}:o∈hO w b↔o=(-1,⟨w.Start,w.fK⟩)∨o∈t:=by
 unfold hO td; rw [ht]; simp
theorem lJ {K β:Type} [DecidableEq K] {l:List (K×β)} {x:K} {y:β} (hn:(l.map (·.1)).Nodup) (hm:(x,y)∈l) {o:K×β} (h:o∈l):o∈ct l x∨o=(x,y):=by
 by_cases e:o.1=x
 ·right
  obtain ⟨k,v⟩:=o
  simp only at e
  subst e
  have B:=(jQ hn).1 h
  have A:=(jQ hn).1 hm
  rw [B] at A
  cases A; rfl
 ·exact .inl (jZ.2 ⟨h,e⟩)
theorem Gt {K β:Type} [DecidableEq K] {t l ys:List (K×β)} {x:K} {y:β} (hn:(l.map (·.1)).Nodup) (hm:(x,y)∈l) (h: ∀ o∈t,o∈l∨o∈ys): ∀ o∈t,o∈ct l x∨o∈ys++[(x,y)]:=fun o ho=>by
 rcases h o ho with h|h
 ·rcases lJ hn hm h with h|h
  ·exact .inl h
  ·exact .inr (by simp [h])
 ·exact .inr (by simp [h])
theorem l9 {K β:Type} [DecidableEq K] {t l:List (K×β)} {x:K} (h: ∀ o∈l,o∈t): ∀ o∈ct l x,o∈t:=fun o ho=>h o (jZ.1 ho).1
theorem KH {w:bP} {m left:List (aF×Int)} (h: ∀ p∈m,p∈left∨kp w p.1=false) (h0:left=[]):jc w m=false:=by
 unfold jc
 rw [List.any_eq_false]
 intro p hp
 rcases h p hp with q|q
 ·rw [h0] at q; cases q
 ·simp [q]
theorem MD {w:bP} {m:List (aF×Int)} {p:aF×Int} (hp:p∈m) (h:kp w p.1=true):jc w m=true:=List.any_eq_true.2 ⟨p,hp,h⟩
theorem I3 {w:bP} {m left:List (aF×Int)} {t:aF} {v:Int} (hn:(left.map (·.1)).Nodup) (hm:(t,v)∈left) (h: ∀ p∈m,p∈left∨kp w p.1=false) (hf:kp w t=false): ∀ p∈m,p∈ct left t∨kp w p.1=false:=fun p hp=>by
 rcases h p hp with q|q
 ·rcases lJ hn hm q with q|q
  ·exact .inl q
  ·right; rw [q]; exact hf
 ·exact .inr q
/-- what the maps of a watch are -/
structure xq (w:bP) (fs:List (List (aF×Int))):Prop where
 len:fs.length=w.n+1
 min: ∀ (b:Nat) m,fs[b]? =some m→sS m (fwd w b)
 keys: ∀ (b:Nat) m,fs[b]? =some m→(m.map (·.1)).Nodup
structure uo (w:bP) (bs:List (List (aF×Int))):Prop where
 len:bs.length=w.n+1
 max: ∀ (b:Nat) m,bs[b]? =some m→vb m (back w b)
 keys: ∀ (b:Nat) m,bs[b]? =some m→(m.map (·.1)).Nodup
theorem xq.mem {w:bP} {fs:List (List (aF×Int))} (h:xq w fs) {b:Nat} {m:List (aF×Int)} (hm:fs[b]? =some m) {p:aF×Int} (hp:p∈m):p∈fwd w b:=(h.min b m hm).1 _ _ ((e8 (h.keys b m hm)).1 hp)
theorem uo.mem {w:bP} {fs:List (List (aF×Int))} (h:uo w fs) {b:Nat} {m:List (aF×Int)} (hm:fs[b]? =some m) {p:aF×Int} (hp:p∈m):p∈back w b:=(h.max b m hm).1 _ _ ((e8 (h.keys b m hm)).1 hp)
theorem GX {w:bP} {b:Nat} {t l ys:List (Int×ab)} (ht:w.uN[b]? =some t) (h: ∀ o∈t,o∈l∨o∈ys) (h0:l=[]) (hs:(-1,(⟨w.Start,w.fK⟩:ab))∈ys): ∀ o∈hO w b,o∈ys:=fun o ho=>by
 rcases (xS ht).1 ho with rfl|ho
 ·exact hs
 ·rcases h o ho with q|q
  ·rw [h0] at q; cases q
  ·exact q
end
section
/-- by these options all is yielded -/
def lu (w:bP) (b:Nat) (mf mb:List (aF×Int)) (os ys:List (Int×ab)):Prop:= ∀ o∈os,∀ p∈mf,∀ u∈mb,∀ q,l_ w b p u o=some q→q∈ys
def nj (w:bP) (b:Nat) (mf mb:List (aF×Int)) (o:Int×ab) (left:List (aF×Int)) (ys:List (Int×ab)):Prop:= ∀ p∈mf,p∈left∨ ∀ u∈mb,∀ q,l_ w b p u o=some q→q∈ys
def nG (w:bP) (b:Nat) (mb:List (aF×Int)) (o:Int×ab) (p:aF×Int) (left:List (aF×Int)) (ys:List (Int×ab)):Prop:= ∀ u∈mb,u∈left∨ ∀ q,l_ w b p u o=some q→q∈ys
variable {w:bP} {b:Nat} {mf mb left:List (aF×Int)} {o x:Int×ab} {os ys:List (Int×ab)} {p u:aF×Int}
theorem lu.nil:lu w b mf mb [] ys:=fun o ho=>by cases ho
theorem lu.app (h:lu w b mf mb os ys):lu w b mf mb os (ys++[x]):=fun o ho p hp u hu q e=>List.mem_append_left _ (h o ho p hp u hu q e)
theorem nj.app (h:nj w b mf mb o left ys):nj w b mf mb o left (ys++[x]):=fun p hp=>(h p hp).imp id fun h u hu q e=>List.mem_append_left _ (h u hu q e)
theorem nj.start:nj w b mf mb o mf ys:=fun p hp=> .inl hp
theorem nG.start:nG w b mb o p mb ys:=fun p hp=> .inl hp
theorem nG.skip {t:aF} {v:Int} (hn:(left.map (·.1)).Nodup) (hm:(t,v)∈left) (h:nG w b mb o p left ys) (he:l_ w b p (t,v) o=none):nG w b mb o p (ct left t) ys:=fun u hu=>by
 rcases h u hu with q|q
 ·rcases lJ hn hm q with q|q
  ·exact .inl q
  ·right; intro z hz; rw [q,he] at hz; cases hz
 ·exact .inr q
theorem nG.SV {t:aF} {v:Int} (hn:(left.map (·.1)).Nodup) (hm:(t,v)∈left) (h:nG w b mb o p left ys) (he:l_ w b p (t,v) o=some x):nG w b mb o p (ct left t) (ys++[x]):=fun u hu=>by
 rcases h u hu with q|q
 ·rcases lJ hn hm q with q|q
  ·exact .inl q
  ·right; intro z hz; rw [q,he] at hz; cases hz; simp
 ·right; intro z hz; exact List.mem_append_left _ (q z hz)
theorem nj.next {t:aF} {v:Int} {l2:List (aF×Int)} (hn:(left.map (·.1)).Nodup) (hm:(t,v)∈left) (h:nj w b mf mb o left ys) (hq:nG w b mb o (t,v) l2 ys) (h0:l2=[]):nj w b mf mb o (ct left t) ys:=fun p hp=>by
 rcases h p hp with q|q
 ·rcases lJ hn hm q with q|q
  ·exact .inl q
  ·right; intro u hu z hz; subst q
   rcases hq u hu with q|q
   ·rw [h0] at q; cases q
   ·exact q z hz
 ·exact .inr q
theorem lu.next (h:lu w b mf mb os ys) (hp:nj w b mf mb o left ys) (h0:left=[]):lu w b mf mb (os++[o]) ys:=fun o' ho p hp' u hu q e=>by
 rcases List.mem_append.1 ho with ho|ho
 ·exact h o' ho p hp' u hu q e
 ·simp only [bK] at ho; subst ho
  rcases hp p hp' with z|z
  ·rw [h0] at z; cases z
  ·exact z u hu q e
theorem lu.fin (h:lu w b mf mb os ys) (ho: ∀ o∈hO w b,o∈os): ∀ q∈qa w b mf mb,q∈ys:=fun q hq=>by
 obtain ⟨o,A,p,B,u,C,e⟩:=g6.1 hq
 exact h o (ho o A) p B u C q e
theorem Gs (h:max (p.2+bR w b) o.2.Lo≤min u.2 o.2.Hi) (h2:kp w (dg (dg p.1 u.1) (eQ o.1))=true):l_ w b p u o=some (o.1,⟨max (p.2+bR w b) o.2.Lo,min u.2 o.2.Hi⟩):=by
 unfold l_ js wi; rw [if_pos ⟨h,h2⟩]
theorem KR (h: ¬ max (p.2+bR w b) o.2.Lo≤min u.2 o.2.Hi):l_ w b p u o=none:=by
 unfold l_ js; rw [if_neg (fun q=>h q.1)]
theorem He (h2:kp w (dg (dg p.1 u.1) (eQ o.1))=false):l_ w b p u o=none:=by
 unfold l_ wi; rw [if_neg (fun q=>by rw [h2] at q; exact absurd q.2 dc)]
theorem nk {v:Int} (h:w.p8[b]? =some v):bR w b=v:=by unfold bR; rw [h]; rfl
theorem BD {t q:aF} {v z y:Int} (hy:w.p8[b]? =some y) (h:max (v+y) o.2.Lo≤min z o.2.Hi) (h2:kp w (dg (dg t q) (eQ o.1))=true):l_ w b (t,v) (q,z) o=some (o.1,⟨max (v+y) o.2.Lo,min z o.2.Hi⟩):=by
 have e:=nk hy
 subst e
 exact Gs h h2
theorem G9 {t q:aF} {v z y:Int} (hy:w.p8[b]? =some y) (h: ¬ max (v+y) o.2.Lo≤min z o.2.Hi):l_ w b (t,v) (q,z) o=none:=by
 have e:=nk hy
 subst e
 exact KR h
theorem n9 {m:List (aF×Int)} {k:aF} {y:Int} (h:(m.map (·.1)).Nodup):((er m k y).map (·.1)).Nodup:=by
 unfold er
 by_cases hx:(m.lookup k).isSome
 ·rw [if_pos hx,List.map_map]
  have e:m.map ((fun p=>p.1)∘fun p=>if p.1=k then (k,y) else p)=m.map (·.1):=by
   apply List.map_congr_left
   intro p _
   simp only [Function.comp]
   split
   ·rename_i e; exact e.symm
   ·rfl
  rw [e]; exact h
 ·rw [if_neg hx,List.map_append,List.nodup_append]
  refine ⟨h,sm,?_⟩
  intro a ha c hc
  simp only [List.map_cons,List.map_nil,bK] at hc
  rw [hc]
  obtain ⟨p,hp,rfl⟩:=List.mem_map.1 ha
  have hn:m.lookup k=none:=by cases h0:m.lookup k with
   |none=>rfl
   |some v=>exact absurd (by rw [h0]; rfl) hx
  exact jf.1 hn p hp
theorem Co {m:List (aF×Int)} {q:aF×Int} (h:(m.map (·.1)).Nodup):((o7 m q).map (·.1)).Nodup:=by
 unfold o7; split
 ·exact n9 h
 ·split
  ·exact n9 h
  ·exact h
theorem AF {m:List (aF×Int)} {q:aF×Int} (h:(m.map (·.1)).Nodup):((oN m q).map (·.1)).Nodup:=by
 unfold oN; split
 ·exact n9 h
 ·split
  ·exact n9 h
  ·exact h
/-- a map of the first times, on its way -/
structure xz (w:bP) (b:Nat) (m:List (aF×Int)):Prop where
 snd:uZ m (fwd w (b+1))
 keys:(m.map (·.1)).Nodup
structure vg (w:bP) (b:Nat) (m:List (aF×Int)):Prop where
 snd:uZ m (back w b)
 keys:(m.map (·.1)).Nodup
 zero: ∃ v,m.lookup ⟨0,0⟩=some v∧w.fK≤v
theorem IF (h:max (p.2+bR w b) o.2.Lo≤min o.2.Hi w.fK):kB w b p o=some (dg p.1 (eQ o.1),max (p.2+bR w b) o.2.Lo):=by unfold kB; rw [if_pos h]
theorem L8 (h: ¬ max (p.2+bR w b) o.2.Lo≤min o.2.Hi w.fK):kB w b p o=none:=by unfold kB; rw [if_neg h]
theorem Ih (h:o.2.Lo≤min p.2 o.2.Hi):nQ w b p o=some (dg p.1 (eQ o.1),min p.2 o.2.Hi-bR w b):=by unfold nQ; rw [if_pos h]
theorem MP (h: ¬ o.2.Lo≤min p.2 o.2.Hi):nQ w b p o=none:=by unfold nQ; rw [if_neg h]
theorem xz.start:xz w b []:=⟨fun t v h=>by simp at h,List.nodup_nil⟩
theorem xz.add {m:List (aF×Int)} {q:aF×Int} (h:xz w b m) (hp:p∈fwd w b) (ho:o∈hO w b) (he:kB w b p o=some q):xz w b (o7 m q):=⟨F7 h.snd (fE.2 ⟨p,hp,o,ho,he⟩),Co h.keys⟩
theorem vg.start (hb:b<w.n):vg w b [(⟨0,0⟩,w.fK)]:=⟨fun t v h=>by
 obtain ⟨rfl,rfl⟩:=oW.1 h
 exact (o0 hb).2 (.inl U),sm,w.fK,oW.2 ⟨U,U⟩,Int.le_refl _⟩
theorem vg.add {m:List (aF×Int)} {q:aF×Int} (hb:b<w.n) (h:vg w b m) (hp:p∈back w (b+1)) (ho:o∈hO w b) (he:nQ w b p o=some q):vg w b (oN m q):=⟨HC h.snd ((o0 hb).2 (.inr ⟨p,hp,o,ho,he⟩)),AF h.keys,by
 obtain ⟨v,A,C⟩:=h.zero
 obtain ⟨v',B,D⟩:=qn (q:=q) _ _ A
 exact ⟨v',B,I⟩⟩
theorem iH.none_ {m:List (aF×Int)} (h:iH w b m p os) (he:kB w b p o=none):iH w b m p (os++[o]):=h.add (wR.refl _) fun q hq=>by rw [he] at hq; cases hq
theorem iH.Kd {m:List (aF×Int)} {q:aF×Int} (h:iH w b m p os) (he:kB w b p o=some q):iH w b (o7 m q) p (os++[o]):=h.add uY fun q' hq=>by rw [he] at hq; cases hq; exact Gf
theorem iQ.none_ {m:List (aF×Int)} (h:iQ w b m p os) (he:nQ w b p o=none):iQ w b m p (os++[o]):=h.add (wI.refl _) fun q hq=>by rw [he] at hq; cases hq
theorem iQ.Kd {m:List (aF×Int)} {q:aF×Int} (h:iQ w b m p os) (he:nQ w b p o=some q):iQ w b (oN m q) p (os++[o]):=h.add qn fun q' hq=>by rw [he] at hq; cases hq; exact Hf
/-- what of a map of the beam before is used already -/
def jP (w:bP) (b:Nat) (mb m left:List (aF×Int)):Prop:= ∀ p∈mb,p∈left∨iH w b m p (hO w b)
def jz (w:bP) (b:Nat) (mb m left:List (aF×Int)):Prop:= ∀ p∈mb,p∈left∨iQ w b m p (hO w b)
theorem jP.start {m:List (aF×Int)}:jP w b mb m mb:=fun p hp=> .inl hp
theorem jz.start {m:List (aF×Int)}:jz w b mb m mb:=fun p hp=> .inl hp
theorem jP.lower {m m':List (aF×Int)} (h:jP w b mb m left) (hl:wR m m'):jP w b mb m' left:=fun p hp=>(h p hp).imp id fun h=>h.lower hl
theorem jz.upper {m m':List (aF×Int)} (h:jz w b mb m left) (hl:wI m m'):jz w b mb m' left:=fun p hp=>(h p hp).imp id fun h=>h.upper hl
theorem jP.next {m:List (aF×Int)} {t:aF} {v:Int} (hn:(left.map (·.1)).Nodup) (hm:(t,v)∈left) (h:jP w b mb m left) (hd:iH w b m (t,v) os) (ho: ∀ o∈hO w b,o∈os):jP w b mb m (ct left t):=fun p hp=>by
 rcases h p hp with q|q
 ·rcases lJ hn hm q with q|q
  ·exact .inl q
  ·right; rw [q]; exact hd.sub ho
 ·exact .inr q
theorem jz.next {m:List (aF×Int)} {t:aF} {v:Int} (hn:(left.map (·.1)).Nodup) (hm:(t,v)∈left) (h:jz w b mb m left) (hd:iQ w b m (t,v) os) (ho: ∀ o∈hO w b,o∈os):jz w b mb m (ct left t):=fun p hp=>by
 rcases h p hp with q|q
 ·rcases lJ hn hm q with q|q
  ·exact .inl q
  ·right; rw [q]; exact hd.sub ho
 ·exact .inr q
theorem jP.fin {m:List (aF×Int)} (h:jP w b mb m left) (h0:left=[]): ∀ p∈mb,iH w b m p (hO w b):=fun p hp=>by
 rcases h p hp with q|q
 ·rw [h0] at q; cases q
 ·exact q
theorem jz.fin {m:List (aF×Int)} (h:jz w b mb m left) (h0:left=[]): ∀ p∈mb,iQ w b m p (hO w b):=fun p hp=>by
 rcases h p hp with q|q
 ·rw [h0] at q; cases q
 ·exact q
end
section
def l8 (a b:ab):ab:=⟨a.Lo+b.Lo,a.Hi+b.Hi⟩
def fF:ab:=⟨0,0⟩
def ki (a:ab) (l:List ab):ab:=l.foldl l8 a
def lj (z:ab):Prop:=(-1000000000≤z.Lo∧z.Lo≤1000000000)∧ -1000000000≤z.Hi∧z.Hi≤1000000000
theorem yJ {a:ab} {l:List ab} {i:Nat} {z:ab} (h:l[i]? =some z):ki a (l.take (i+1))=l8 (ki a (l.take i)) z:=by
 rw [List.take_add_one,h]; unfold ki; simp
theorem OC {a:ab} {l:List ab} (ha:lj a) (hl: ∀ z∈l,lj z): ∀ i:Nat,(-1000000000-1000000000*(i:Int)≤(ki a (l.take i)).Lo∧(ki a (l.take i)).Lo≤1000000000+1000000000*(i:Int))∧ -1000000000-1000000000*(i:Int)≤(ki a (l.take i)).Hi∧(ki a (l.take i)).Hi≤1000000000+1000000000*(i:Int):=by
 intro i
 induction i with
 |zero=>unfold lj at ha; simp [ki]; omega
 |succ i ih=>
  cases h:l[i]? with
  |none=>rw [List.take_add_one,h]; simp only [Option.toList_none,List.append_nil]; omega
  |some z=>
   have hz:=hl z (aR h)
   unfold lj at hz
   rw [yJ h]
   simp only [l8]
   omega
theorem JR {a:ab} {l:List ab} {i:Nat} (h:l.length≤i):ki a (l.take i)=ki a l:=by rw [List.take_of_length_le h]
theorem nB {a z:ab}:vA (ab.cells (ki a [z]))=vA (ab.cells (l8 a z)):=rfl
theorem Ce {a y z:ab}:vA (ab.cells (ki a [y,z]))=vA (ab.cells (l8 (l8 a y) z)):=rfl
/-- how long the run is from one mark, over so many stretches; by how much it falls -/
def ek (ts:List al) (f:Nat):Nat→ab
 |0=>fF
 |k+1=>match ts[f+k]? with
  |some x=>l8 (ek ts f k) x.jn
  |none=>ek ts f k
def fU (ts:List al) (f:Nat):Nat→ab
 |0=>fF
 |k+1=>match ts[f+k]? with
  |some x=>l8 (fU ts f k) x.j_
  |none=>fU ts f k
theorem pb {ts:List al} {f k:Nat} {x:al} (h:ts[f+k]? =some x):ek ts f (k+1)=l8 (ek ts f k) x.jn:=by simp [ek,h]
theorem pM {ts:List al} {f k:Nat} {x:al} (h:ts[f+k]? =some x):fU ts f (k+1)=l8 (fU ts f k) x.j_:=by simp [fU,h]
theorem lW {ts:List al} (ht: ∀ x∈ts,bJ x) (f:Nat): ∀ k:Nat,(0≤(ek ts f k).Lo∧(ek ts f k).Lo≤(ek ts f k).Hi)∧(ek ts f k).Hi≤30000*(k:Int):=by
 intro k
 induction k with
 |zero=>simp [ek,fF]
 |succ k ih=>
  simp only [ek]
  cases h:ts[f+k]? with
  |none=>simp only; omega
  |some x=>
   have hx:=(ht x (aR h)).2.1
   simp only [dJ] at hx
   simp only [l8]
   omega
theorem FC {ts:List al} (ht: ∀ x∈ts,bJ x) (f:Nat): ∀ k:Nat,(0≤(fU ts f k).Lo∧(fU ts f k).Lo≤(fU ts f k).Hi)∧(fU ts f k).Hi≤5000*(k:Int):=by
 intro k
 induction k with
 |zero=>simp [fU,fF]
 |succ k ih=>
  simp only [fU]
  cases h:ts[f+k]? with
  |none=>simp only; omega
  |some x=>
   have hx:=(ht x (aR h)).2.2.1
   simp only [dJ] at hx
   simp only [l8]
   omega
theorem qx {ts:List al} (ht: ∀ x∈ts,bJ x) {f k:Nat} (hk:k≤13):lj (ek ts f k):=by
 have:=lW ht f k; unfold lj; omega
theorem vY {ts:List al} (ht: ∀ x∈ts,bJ x) {f k:Nat} (hk:k≤13):lj (fU ts f k):=by
 have:=FC ht f k; unfold lj; omega
theorem uh {x:al} (h:bJ x):lj x.jn:=by have:=h.2.1; simp only [dJ] at this; unfold lj; omega
theorem uz {x:al} (h:bJ x):lj x.j_:=by have:=h.2.2.1; simp only [dJ] at this; unfold lj; omega
theorem yG {ts:List al} (h: ¬ (if cV ts=true then (0:Int) else 10)=0):cV ts=false∧(if cV ts=true then (0:Int) else 10)=10:=by
 cases ht:cV ts with
 |true=>rw [ht] at h; exact absurd rfl h
 |false=>exact ⟨rfl,rfl⟩
theorem CV {ts:List al} (h:(if cV ts=true then (0:Int) else 10)=0):cV ts=true:=by
 cases ht:cV ts with
 |true=>rfl
 |false=>rw [ht] at h; exact absurd h dc
/-- what the iterator of marks yields -/
def tq (ts:List al) (f:Nat):List (List Value):=(List.range (ts.length-f+1)).map fun (k:Nat)=>[.agg (ek ts f k).cells.toArray,.agg (fU ts f k).cells.toArray]
theorem te {ts:List al} {f:Nat}:(tq ts f).length=ts.length-f+1:=by simp [tq]
theorem yW {ts:List al} {f k:Nat} (h:k≤ts.length-f):(tq ts f)[k]? =some [.agg (ek ts f k).cells.toArray,.agg (fU ts f k).cells.toArray]:=by
 simp [tq,List.getElem?_range (show k<ts.length-f+1 by omega)]
theorem GV {ts:List al} {f k:Nat} {x:List Value} (h:(tq ts f)[k]? =some x):k≤ts.length-f∧x=[.agg (ek ts f k).cells.toArray,.agg (fU ts f k).cells.toArray]:=by
 have hi:k<ts.length-f+1:=by
  have:=(List.getElem?_eq_some_iff.1 h).1
  simpa [tq] using this
 rw [yW I] at h
 exact ⟨I,(Option.some.inj h).symm⟩
theorem Eo {ts:List al} {f:Nat}: ∀ x∈tq ts f,x.length=2:=fun x hx=>by
 obtain ⟨k,_,rfl⟩:=List.mem_map.1 hx; rfl
end
section
def fp (ts:List al) (s:cP):Prop:=(0≤s.aV∧s.aV<(ts.length:Int))∧ ∃ x,ts[s.aV.toNat]? =some x∧dJ s.lf 0 (x.jn.Lo-1)
noncomputable instance (ts:List al) (s:cP):Decidable (fp ts s):=Classical.propDecidable _
theorem BA {ts:List al} {s:cP} {x:al} (h:0≤s.aV∧s.aV<(ts.length:Int)) (hx:ts[s.aV.toNat]? =some x):fp ts s↔dJ s.lf 0 (x.jn.Lo-1):=
 ⟨fun A=>by obtain ⟨y,hy,B⟩:=A.2; rw [hx] at hy; cases hy; exact B,fun A=>⟨h,x,hx,A⟩⟩
theorem BG {ts:List al} {s:cP} (h: ¬ (0≤s.aV∧s.aV<(ts.length:Int))): ¬ fp ts s:=fun A=>h A.1
theorem zE {ts:List al} {s:cP} (ht: ∀ x∈ts,bJ x) (h:fp ts s):(0≤s.lf.Lo∧s.lf.Lo≤s.lf.Hi)∧s.lf.Hi≤30000:=by
 obtain ⟨x,hx,A⟩:=h.2
 have:=(ht x (aR hx)).2.1
 simp only [dJ] at A this
 omega
theorem D6 {ts:List al} {a:cP}:vB (decide (∀ s∈[a],fp ts s))=vB (decide (fp ts a)):=congrArg _ (decide_eq_decide.2 sm)
theorem Du {ts:List al} {a b:cP}:vB (decide (∀ s∈[a,b],fp ts s))=vB (decide (fp ts a∧fp ts b)):=congrArg _ (decide_eq_decide.2 sm)
def oj (z:ab):ab:=⟨-z.Hi,-z.Lo⟩
def Ll (ts:List al) (s:cP):ab:=l8 (ek ts 0 s.aV.toNat) s.lf
noncomputable def E8 (ts:List al) (s:cP):Int:=if cV ts=true then (if fp ts s then 0 else 12) else 10
noncomputable def Oj (ts:List al) (s:cP):ab:=if E8 ts s=0 then Ll ts s else fF
theorem KG {ts:List al} {s:cP} (h:cV ts=false):E8 ts s=10∧Oj ts s=fF:=by
 have e:E8 ts s=10:=by unfold E8; rw [h]; rfl
 exact ⟨e,by unfold Oj; rw [e]; rfl⟩
theorem Ik {ts:List al} {s:cP} (h:cV ts=true) (h2: ¬ fp ts s):E8 ts s=12∧Oj ts s=fF:=by
 have e:E8 ts s=12:=by unfold E8; rw [if_pos h,if_neg h2]
 exact ⟨e,by unfold Oj; rw [e]; rfl⟩
theorem wj {ts:List al} {s:cP} (h:cV ts=true) (h2:fp ts s):E8 ts s=0∧Oj ts s=Ll ts s:=by
 have e:E8 ts s=0:=by unfold E8; rw [if_pos h,if_pos h2]
 exact ⟨e,if_pos e⟩
theorem FP {ts:List al} {s:cP} (h:cV ts=true):E8 ts s=0↔fp ts s:=by
 unfold E8; rw [if_pos h]; split<;>simp [*]
def xb (ts:List al) (a b:cP):ab:=ek ts (min a.aV b.aV).toNat (max a.aV b.aV-min a.aV b.aV).toNat
def jS (ts:List al) (a b:cP):ab:=l8 (l8 (if b.aV<a.aV then oj (xb ts a b) else xb ts a b) b.lf) (oj a.lf)
noncomputable def lB (ts:List al) (a b:cP):Int:=if cV ts=true then (if fp ts a∧fp ts b then 0 else 12) else 10
noncomputable def kF (ts:List al) (a b:cP):ab:=if lB ts a b=0 then jS ts a b else fF
theorem uD {ts:List al} {a b:cP} (h:cV ts=false):lB ts a b=10∧kF ts a b=fF:=by
 have e:lB ts a b=10:=by unfold lB; rw [h]; rfl
 exact ⟨e,by unfold kF; rw [e]; rfl⟩
theorem o1 {ts:List al} {a b:cP} (h:cV ts=true) (h2: ¬ (fp ts a∧fp ts b)):lB ts a b=12∧kF ts a b=fF:=by
 have e:lB ts a b=12:=by unfold lB; rw [if_pos h,if_neg h2]
 exact ⟨e,by unfold kF; rw [e]; rfl⟩
theorem k6 {ts:List al} {a b:cP} (h:cV ts=true) (h2:fp ts a∧fp ts b):lB ts a b=0∧kF ts a b=jS ts a b:=by
 have e:lB ts a b=0:=by unfold lB; rw [if_pos h,if_pos h2]
 exact ⟨e,if_pos e⟩
theorem zx {z:ab} (h:lj z):lj (oj z):=by unfold lj oj at *; simp only; omega
theorem qw {ts:List al} {s:cP} (ht: ∀ x∈ts,bJ x) (h:fp ts s):lj s.lf:=by have:=zE ht h; unfold lj; omega
theorem O8 {ts:List al} {a b:cP} (ht: ∀ x∈ts,bJ x) (hl:ts.length≤12) (ha:fp ts a) (hb:fp ts b):(0≤(xb ts a b).Lo∧(xb ts a b).Lo≤(xb ts a b).Hi)∧(xb ts a b).Hi≤360000:=by
 have h:=lW ht (min a.aV b.aV).toNat (max a.aV b.aV-min a.aV b.aV).toNat
 have A:=ha.1
 have B:=hb.1
 unfold xb
 omega
theorem xw {ts:List al} {a b:cP} (ht: ∀ x∈ts,bJ x) (hl:ts.length≤12) (ha:fp ts a) (hb:fp ts b):(-400000≤(jS ts a b).Lo∧(jS ts a b).Lo≤(jS ts a b).Hi)∧(jS ts a b).Hi≤400000:=by
 have h:=O8 ht hl ha hb
 have A:=zE ht ha
 have B:=zE ht hb
 unfold jS l8 oj
 split<;>simp only <;>omega
theorem QI {ts:List al} {s:cP} (ht: ∀ x∈ts,bJ x) (hl:ts.length≤12) (h:fp ts s):(0≤(Ll ts s).Lo∧(Ll ts s).Lo≤(Ll ts s).Hi)∧(Ll ts s).Hi≤400000:=by
 have A:=lW ht 0 s.aV.toNat
 have B:=zE ht h
 have C:=h.1
 unfold Ll l8
 simp only; omega
theorem Hl {α:Type} {p:Nat→α→Bool} {l:List α}:((l.zipIdx.filter fun q=>p q.2 q.1).map fun q=>(q.2:Int))=[]↔ ∀ (i:Nat) x,l[i]? =some x→p i x=false:=by
 rw [List.map_eq_nil_iff,List.filter_eq_nil_iff]
 constructor
 ·intro h i x hx
  have:=h (x,i) (by rw [List.mem_zipIdx_iff_getElem?]; simpa using hx)
  simpa using this
 ·rintro h ⟨x,i⟩ hm
  rw [List.mem_zipIdx_iff_getElem?] at hm
  simpa using h i x (by simpa using hm)
/-- the places of a list at which something is so -/
def sr {α:Type} (p:Nat→α→Bool) (l:List α) (n:Nat):List Int:=(((l.take n).zipIdx.filter fun q=>p q.2 q.1).map fun q=>(q.2:Int))
theorem Kv {α:Type} {p:Nat→α→Bool} {l:List α} {i:Nat} {x:α} (hx:l[i]? =some x) (h:p i x=true):sr p l (i+1)=sr p l i++[(i:Int)]:=by
 have hi:=(List.getElem?_eq_some_iff.1 hx).1
 unfold sr
 rw [List.take_add_one,hx,List.zipIdx_append,List.filter_append,List.map_append]
 simp [Nat.min_eq_left (Nat.le_of_lt hi),h]
theorem Mj {α:Type} {p:Nat→α→Bool} {l:List α} {i:Nat} {x:α} (hx:l[i]? =some x) (h:p i x=false):sr p l (i+1)=sr p l i:=by
 have hi:=(List.getElem?_eq_some_iff.1 hx).1
 unfold sr
 rw [List.take_add_one,hx,List.zipIdx_append,List.filter_append,List.map_append]
 simp [Nat.min_eq_left (Nat.le_of_lt hi),h]
theorem Cf {α:Type} {p:Nat→α→Bool} {l:List α} {n:Nat}:(sr p l n).length≤n:=by
 unfold sr
 rw [List.length_map]
 refine Nat.le_trans (List.length_filter_le _ _) ?_
 rw [List.length_zipIdx,List.length_take]; omega
def Ip {α:Type} (p:Nat→α→Bool) (l:List α):List Int:=sr p l l.length
theorem MY {α:Type} {p:Nat→α→Bool} {l:List α} {n:Nat} (h:n=l.length):sr p l n=Ip p l:=by rw [h]; rfl
theorem HD {α:Type} {p:Nat→α→Bool} {l:List α}:(Ip p l).length=0↔ ∀ (i:Nat) x,l[i]? =some x→p i x=false:=by
 unfold Ip sr
 rw [List.length_eq_zero_iff,List.take_length]
 exact Hl
end
section
theorem zq (p:Int→Bool) (n:Nat): ∃ r:Int,r=((List.range n).findIdx fun (k:Nat)=>p (k:Int):Nat):=⟨_,rfl⟩
noncomputable def fH (p:Int→Bool) (n:Nat):Int:=Classical.choose (zq p n)
theorem sb (p:Int→Bool) (n:Nat):fH p n=((List.range n).findIdx fun (k:Nat)=>p (k:Int):Nat):=Classical.choose_spec (zq p n)
theorem ik {p:Int→Bool} {n:Nat}:0≤fH p n∧fH p n≤n:=by
 rw [sb]
 have:=List.findIdx_le_length (xs:=List.range n) (p:=fun (k:Nat)=>p (k:Int))
 rw [List.length_range] at this
 omega
theorem yh {p:Int→Bool} {n:Nat} {x:Int} (h0:0≤x) (h:x<fH p n):p x=false:=by
 have hb:=ik (p:=p) (n:=n)
 rw [sb] at h
 have B:x.toNat<(List.range n).findIdx fun (k:Nat)=>p (k:Int):=by omega
 have A:=List.not_of_lt_findIdx B
 simp only [List.getElem_range] at A
 rw [show (x.toNat:Int)=x by omega] at A
 simpa using A
theorem F9 {p:Int→Bool} {n:Nat} (h:fH p n<n):p (fH p n)=true:=by
 rw [sb] at h ⊢
 have A:((List.range n).findIdx fun (k:Nat)=>p (k:Int))<(List.range n).length:=by rw [List.length_range]; omega
 have:=List.findIdx_getElem (w:=A)
 simpa using this
end
section
def o8 (n by_:Int):Int:=(n+by_-1)/by_
/-- by how much a sync may be off -/
def sj (c:ao) (at_:Int) (x:ck):Int:=o8 (c.cU*max (at_-x.At) (x.At-at_)) 1000000
def lS (c:ao) (at_:Int) (s:ab) (x:ck):ab:=⟨max s.Lo (x.dD.Lo-sj c at_ x),min s.Hi (x.dD.Hi+sj c at_ x)⟩
def fX (c:ao) (at_:Int) (k:Nat):ab:=(c.aT.take k).foldl (lS c at_) ⟨-1099511627776,1099511627776⟩
def hH (c:ao) (at_:Int):ab:=c.aT.foldl (lS c at_) ⟨-1099511627776,1099511627776⟩
theorem jL {c:ao} {at_:Int} {k:Nat} {x:ck} (h:c.aT[k]? =some x):fX c at_ (k+1)=lS c at_ (fX c at_ k) x:=by
 unfold fX; rw [List.take_add_one,h,List.foldl_append]; rfl
theorem nD {c:ao} {at_:Int} {k:Nat} (h:c.aT.length≤k):fX c at_ k=hH c at_:=by unfold fX hH; rw [List.take_of_length_le h]
def kd (c:ao) (i:Nat):Int:=if i=0 then-1 else ((c.aT[i-1]?).map (·.At)).getD 0
def fh (c:ao) (i:Nat) (x:ck):Prop:=(kd c i<x.At∧x.At≤86400000)∧ -10000≤x.dD.Lo∧x.dD.Lo≤x.dD.Hi∧x.dD.Hi≤10000
def ow (c:ao) (x o:ck):Prop:=x.dD.Lo-o.dD.Hi≤o8 (c.cU*(x.At-o.At)) 1000000∧o.dD.Lo-x.dD.Hi≤o8 (c.cU*(x.At-o.At)) 1000000
structure eL (c:ao):Prop where
 rL:0≤c.cU∧c.cU≤1000
 len:1≤c.aT.length∧c.aT.length≤5
 sync: ∀ (i:Nat) x,c.aT[i]? =some x→fh c i x
 pair: ∀ (i k:Nat) x o,c.aT[i]? =some x→k<i→c.aT[k]? =some o→ow c x o
noncomputable instance (c:ao):Decidable (eL c):=Classical.propDecidable _
theorem gf {c:ao} {i:Nat} (h:i=0):kd c i= -1:=if_pos h
theorem xJ {c:ao} {i:Nat} {y:ck} (h:0<i) (hy:c.aT[i-1]? =some y):kd c i=y.At:=by unfold kd; rw [if_neg I,hy]; rfl
theorem ob {c:ao} {i:Nat} {y:ck} (hy:c.aT[i]? =some y):kd c (i+1)=y.At:=by unfold kd; rw [if_neg I,Nat.add_sub_cancel,hy]; rfl
/-- the times of the syncs -/
theorem Mk {c:ao} (h: ∀ (i:Nat) x,c.aT[i]? =some x→fh c i x): ∀ (i:Nat) x,c.aT[i]? =some x→0≤x.At∧ ∀ (k:Nat) o,k<i→c.aT[k]? =some o→o.At<x.At:=by
 intro i
 induction i with
 |zero=>
  intro x hx
  have:=(h 0 x hx).1.1
  rw [gf rfl] at this
  exact ⟨I,fun k o hk=>by omega⟩
 |succ i ih=>
  intro x hx
  have hi:=(List.getElem?_eq_some_iff.1 hx).1
  have hy:c.aT[i]? =some (c.aT[i]'I):=ei I
  have B:=ih _ hy
  have A:=(h (i+1) x hx).1.1
  rw [ob hy] at A
  refine ⟨I,fun k o hk ho=>?_⟩
  by_cases e:k=i
  ·subst e; rw [hy] at ho; cases ho; exact A
  ·have:=B.2 k o I ho; omega
theorem eL.ui {c:ao} (h:eL c) {i:Nat} {x:ck} (hx:c.aT[i]? =some x):(0≤x.At∧x.At≤86400000)∧ -10000≤x.dD.Lo∧x.dD.Lo≤x.dD.Hi∧x.dD.Hi≤10000:=by
 have A:=h.sync i x hx
 exact ⟨⟨(Mk h.sync i x hx).1,A.1.2⟩,A.2⟩
theorem FK {d a b:Int} (hd:0≤d∧d≤1000) (ha:0≤a∧a≤90000000) (hb:0≤b∧b≤90000000):0≤d*max (a-b) (b-a)∧d*max (a-b) (b-a)≤90000000000:=by
 have:=OU (a:=d) (b:=max (a-b) (b-a)) (A:=1000) (B:=90000000) hd.1 hd.2 I I
 omega
theorem uf {c:ao} {at_:Int} {x:ck} (hd:0≤c.cU∧c.cU≤1000) (ha:0≤at_∧at_≤90000000) (hx:0≤x.At∧x.At≤86400000):0≤sj c at_ x∧sj c at_ x≤90001:=by
 have h:=FK hd ha (show 0≤x.At∧x.At≤90000000 by omega)
 unfold sj o8; omega
theorem Av {c:ao} {at_:Int} (h:eL c) (ha:0≤at_∧at_≤90000000): ∀ k:Nat,(-1099511627776≤(fX c at_ k).Lo∧(fX c at_ k).Lo≤10000)∧ -10000≤(fX c at_ k).Hi∧(fX c at_ k).Hi≤1099511627776:=by
 intro k
 induction k with
 |zero=>simp [fX]
 |succ k ih=>
  cases hx:c.aT[k]? with
  |none=>unfold fX at ih ⊢; rw [List.take_add_one,hx]; simpa using ih
  |some x=>
   have hb:=h.ui hx
   have ho:=uf h.rL ha hb.1
   rw [jL hx]
   unfold lS
   simp only
   omega
theorem qE {c:ao} {at_:Int} (h:eL c) (ha:0≤at_∧at_≤90000000):(-110000≤(hH c at_).Lo∧(hH c at_).Lo≤10000)∧ -10000≤(hH c at_).Hi∧(hH c at_).Hi≤110000:=by
 obtain ⟨n,hn⟩: ∃ n,c.aT.length=n+1:=⟨c.aT.length-1,by have:=h.len; omega⟩
 have hx:c.aT[n]? =some (c.aT[n]'I):=ei I
 have hb:=h.ui hx
 have ho:=uf h.rL ha hb.1
 have A:=Av h ha n
 rw [← nD (k:=n+1) I,jL hx]
 unfold lS
 simp only
 omega
/-- as time goes on, time and what a clock may be ahead, together, never go back -/
theorem Ei {c:ao} (h:eL c) {a b:Int} (ha:0≤a) (hab:a≤b) (hb:b≤90000000): ∀ k:Nat,(a+(fX c a k).Lo≤b+(fX c b k).Lo∨(fX c a k).Lo= -1099511627776)∧a+(fX c a k).Hi≤b+(fX c b k).Hi:=by
 have step: ∀ (x:ck),0≤x.At∧x.At≤86400000→ ∀ a b:Int,0≤a→a≤b→b≤90000000→sj c a x≤sj c b x+(b-a)∧sj c b x≤sj c a x+(b-a):=by
  intro x hx a b ha hab hb
  have hd:=h.rL
  have e: ∀ u v:Int,u≤v+1000000*(b-a)→o8 u 1000000≤o8 v 1000000+(b-a):=by intro u v C; unfold o8; omega
  have m: ∀ p q:Int,p≤q+(b-a)→c.cU*p≤c.cU*q+1000000*(b-a):=by
   intro p q A
   have D:c.cU*p≤c.cU*(q+(b-a)):=Int.mul_le_mul_of_nonneg_left A hd.1
   have E:c.cU*(q+(b-a))=c.cU*q+c.cU*(b-a):=Int.mul_add _ _ _
   have F:c.cU*(b-a)≤1000*(b-a):=Int.mul_le_mul_of_nonneg_right hd.2 I
   omega
  exact ⟨e _ _ (m _ _ I),e _ _ (m _ _ I)⟩
 intro k
 induction k with
 |zero=>simp [fX]; omega
 |succ k ih=>
  cases hx:c.aT[k]? with
  |none=>
   have e: ∀ t,fX c t (k+1)=fX c t k:=fun t=>by unfold fX; rw [List.take_add_one,hx]; simp
   rw [e,e]; exact ih
  |some x=>
   have hs:=h.ui hx
   have:=step x hs.1 a b ha hab hb
   have B:=uf (at_:=a) h.rL ⟨ha,I⟩ hs.1
   rw [jL hx,jL hx]
   unfold lS
   simp only
   omega
theorem u7 {c:ao} (h:eL c) {a b:Int} (ha:0≤a) (hab:a≤b) (hb:b≤90000000):a+(hH c a).Lo≤b+(hH c b).Lo∧a+(hH c a).Hi≤b+(hH c b).Hi:=by
 have A:=Ei h ha hab hb c.aT.length
 have B:=qE h (at_:=a) ⟨ha,I⟩
 rw [nD (Nat.le_refl _),nD (Nat.le_refl _)] at A
 omega
noncomputable def mQ (l:aW) (i:Nat):Int:=match l.ae[i]? with
 |some b=>if i=0 then (Ll l.aM b.kv).Lo else (match l.ae[i-1]? with
  |some a=>(jS l.aM a.kv b.kv).Lo
  |none=>0)
 |none=>0
theorem yk {l:aW} {b:bI} (h:l.ae[0]? =some b):mQ l 0=(Ll l.aM b.kv).Lo:=by unfold mQ; rw [h]; rfl
theorem Aq {l:aW} {i:Nat} {a b:bI} (hi:0<i) (h:l.ae[i]? =some b) (ha:l.ae[i-1]? =some a):mQ l i=(jS l.aM a.kv b.kv).Lo:=by unfold mQ; rw [h,ha]; simp only; rw [if_neg I]
def jX (l:aW) (b:bI):Prop:=fp l.aM b.kv∧0≤b.jr∧b.jr<(l.aj.length:Int)
def gi (l:aW):Prop:=(1≤l.gG∧l.gG≤5000)∧(1≤(l.aj.length:Int)∧(l.aj.length:Int)≤4)∧(1≤(l.ae.length:Int)∧(l.ae.length:Int)≤6)∧(0≤l.cG∧l.cG≤(l.ae.length:Int)-1)∧(0≤l.eg∧l.eg≤3)∧0≤l.cN∧l.cN≤3
structure lI (l:aW):Prop where
 head:gi l
 clock: ∀ c∈l.aj,eL c
 vh: ∀ b∈l.ae,jX l b
 PZ: ∀ i,i<l.ae.length→1≤mQ l i
noncomputable instance (l:aW):Decidable (lI l):=Classical.propDecidable _
noncomputable def du (l:aW):Int:=if cV l.aM=true then (if lI l then 0 else 50) else 10
theorem ym {l:aW} (h:cV l.aM=false):du l=10:=by unfold du; rw [h]; rfl
theorem qz {l:aW} (h:cV l.aM=true) (h2: ¬ lI l):du l=50:=by unfold du; rw [if_pos h,if_neg h2]
theorem Bv {l:aW} (h:cV l.aM=true) (h2:lI l):du l=0:=by unfold du; rw [if_pos h,if_pos h2]
theorem gF {l:aW} (h:du l=0):cV l.aM=true∧lI l:=by
 unfold du at h
 split at h
 ·split at h
  ·exact ⟨asm,asm⟩
  ·omega
 ·omega
theorem E9 {l:aW} (ht:cV l.aM=true) (hb: ∀ b∈l.ae,jX l b) (i:Nat): -400000≤mQ l i∧mQ l i≤400000:=by
 have A:=jM ht
 have hl:=ky ht
 unfold mQ
 cases h:l.ae[i]? with
 |none=>simp
 |some b=>
  have B:=(hb b (aR h)).1
  simp only
  split
  ·have:=QI A hl B; omega
  ·cases h2:l.ae[i-1]? with
   |none=>simp
   |some a=>
    have C:=(hb a (aR h2)).1
    have:=xw A hl C B
    simp only; omega
def pX (l:aW) (s:aK):ao:=((l.ae[s.fM.toNat]?).bind fun b=>l.aj[b.jr.toNat]?).getD ⟨0,[]⟩
def gR (c:ao) (r t:Int):Bool:=decide (r≤t+(hH c t).Hi)
def gS (c:ao) (r t:Int):Bool:=decide (r<t+(hH c t).Lo)
noncomputable def Ao (c:ao) (r:Int):ab:=⟨fH (gR c r) 86400001,fH (gS c r) 86400001-1⟩
noncomputable def cR (l:aW) (s:aK):ab:=Ao (pX l s) s.Read
noncomputable def dN (l:aW) (i:Nat):Int:=o8 (1000*mQ l i) l.gG
end
section
open Go.RowKit
def Ai (n:Int):Int:=IntKind.i64.wrap n
theorem zX {n:Int} (h:qA n):Ai n=n:=og h
theorem Sl (n:Int): -9223372036854775808≤Ai n∧Ai n≤9223372036854775807:=by
 unfold Ai
 rw [IntKind.wrap_i64]
 omega
section
variable {P:Program} {t:TypeId} {x y:Operand} {a b:Int}
theorem Po:gj P .add t x y (.int .i64 a) (.int .i64 b) (.int .i64 (Ai (a+b))):=fun w=>by simp [eqGuard_add,binOp_add,Op.intArith,Ai]
theorem Kh:gj P .sub t x y (.int .i64 a) (.int .i64 b) (.int .i64 (Ai (a-b))):=fun w=>by simp [eqGuard_sub,binOp_sub,Op.intArith,Ai]
theorem Pw:gj P .mul t x y (.int .i64 a) (.int .i64 b) (.int .i64 (Ai (a*b))):=fun w=>by simp [eqGuard_mul,binOp_mul,Op.intArith,Ai]
end
/-- divided, and rounded up, as it comes out -/
def Qb (n by_:Int):Int:=(Ai (Ai (n+by_)-1)).tdiv by_
theorem PI {a b:Int} (ha: -9223372036854775808≤a∧a≤9223372036854775807) (hb:2≤b):qA (a.tdiv b):=by
 have A:a.tdiv b=a/b+if a % b≠0∧a<0 then 1 else 0:=by
  rcases Int.lt_or_le a 0 with h|h
  ·rw [Int.tdiv_eq_ediv]
   have:b.sign=1:=Int.sign_eq_one_of_pos I
   rw [this]
   by_cases hd:b∣a
   ·have:a % b=0:=Int.emod_eq_zero_of_dvd hd
    simp [hd,this]
   ·have:a % b≠0:=fun e=>hd (Int.dvd_of_emod_eq_zero e)
    have hn: ¬ 0≤a:=by omega
    simp [hd,this,h,hn]
  ·rw [Int.tdiv_eq_ediv_of_nonneg h]
   have: ¬ a<0:=by omega
   simp [this]
 have B:a/b*b+a % b=a:=by rw [Int.mul_comm]; exact Int.mul_ediv_add_emod a b
 have C:0≤a % b:=Int.emod_nonneg _ I
 have D:a % b<b:=Int.emod_lt_of_pos _ I
 have E: -9223372036854775808≤a/b∧a/b≤4611686018427387904:=by
  constructor
  ·refine Int.le_ediv_of_mul_le I ?_
   have:(-9223372036854775808:Int)*b≤ -9223372036854775808*1:=Int.mul_le_mul_of_nonpos_left I I
   omega
  ·refine Int.ediv_le_of_le_mul I ?_
   have:(4611686018427387904:Int)*2≤4611686018427387904*b:=Int.mul_le_mul_of_nonneg_left hb I
   omega
 rw [A]
 unfold qA
 split<;>omega
theorem PA {n by_:Int} (h0:0≤n) (h1:n≤1000000000000000000) (hb:1≤by_∧by_≤1000000000000):Qb n by_=(n+by_-1)/by_:=by
 unfold Qb
 rw [zX (show qA (n+by_) from ⟨I,I⟩),zX (show qA (n+by_-1) from ⟨I,I⟩),Int.tdiv_eq_ediv_of_nonneg I]
end
section
def lY (c:ao) (i:Nat) (x:ck) (k:Nat):Prop:=fh c i x∧ ∀ (j:Nat) o,j<k→c.aT[j]? =some o→ow c x o
def sB (c:ao) (n:Nat):Prop:= ∀ (i:Nat) x,i<n→c.aT[i]? =some x→lY c i x i
noncomputable instance (c:ao) (i:Nat) (x:ck) (k:Nat):Decidable (lY c i x k):=Classical.propDecidable _
instance (c:ao) (i:Nat) (x:ck):Decidable (fh c i x):=by unfold fh; infer_instance
theorem CW {c:ao} {i:Nat} {x:ck}:lY c i x 0↔fh c i x:=⟨fun h=>h.1,fun h=>⟨h,fun j o hj=>by omega⟩⟩
theorem r_ {c:ao} {i k:Nat} {x o:ck} (h:c.aT[k]? =some o):lY c i x (k+1)↔lY c i x k∧ow c x o:=by
 constructor
 ·intro hr
  exact ⟨⟨hr.1,fun j o' hj ho=>hr.2 j o' I ho⟩,hr.2 k o I h⟩
 ·rintro ⟨hr,hp⟩
  refine ⟨hr.1,fun j o' hj ho=>?_⟩
  by_cases e:j=k
  ·subst e; rw [h] at ho; cases ho; exact hp
  ·exact hr.2 j o' I ho
theorem G4 {c:ao}:sB c 0:=fun i x hi=>by omega
theorem GA {c:ao} {i:Nat} {x:ck} (h:sB c i) (hx:c.aT[i]? =some x) (hr:lY c i x i):sB c (i+1):=fun j y hj hy=>by
 by_cases e:j=i
 ·subst e; rw [hx] at hy; cases hy; exact hr
 ·exact h j y I hy
theorem IW {c:ao} {i:Nat} {x:ck} (hx:c.aT[i]? =some x) (h: ¬ lY c i x i): ¬ eL c:=fun hc=>h ⟨hc.sync i x hx,fun j o hj ho=>hc.pair i j x o hx hj ho⟩
theorem Hr {c:ao} (h1:0≤c.cU∧c.cU≤1000) (h2:1≤c.aT.length∧c.aT.length≤5) (h:sB c c.aT.length):eL c:=
 ⟨h1,h2,fun i x hx=>(h i x (List.getElem?_eq_some_iff.1 hx).1 hx).1,fun i k x o hx hk ho=>(h i x (List.getElem?_eq_some_iff.1 hx).1 hx).2 k o hk ho⟩
/-- syncs so far -/
theorem uL {c:ao} {n:Nat} (h: ∀ (i:Nat) x,i<n→c.aT[i]? =some x→fh c i x): ∀ (i:Nat) x,i<n→c.aT[i]? =some x→0≤x.At∧ ∀ (k:Nat) o,k<i→c.aT[k]? =some o→o.At<x.At:=by
 intro i
 induction i with
 |zero=>
  intro x hn hx
  have:=(h 0 x hn hx).1.1
  rw [gf rfl] at this
  exact ⟨I,fun k o hk=>by omega⟩
 |succ i ih=>
  intro x hn hx
  have hi:=(List.getElem?_eq_some_iff.1 hx).1
  have hy:c.aT[i]? =some (c.aT[i]'I):=ei I
  have B:=ih _ I hy
  have A:=(h (i+1) x hn hx).1.1
  rw [ob hy] at A
  refine ⟨I,fun k o hk ho=>?_⟩
  by_cases e:k=i
  ·subst e; rw [hy] at ho; cases ho; exact A
  ·have:=B.2 k o I ho; omega
theorem JA {c:ao} {i:Nat} (hi:i≤c.aT.length) (h: ∀ (j:Nat) y,j<i→c.aT[j]? =some y→fh c j y): -1≤kd c i∧kd c i≤86400000:=by
 cases i with
 |zero=>rw [gf rfl]; omega
 |succ i=>
  have hy:c.aT[i]? =some (c.aT[i]'I):=ei I
  have A:=(uL (n:=i+1) h i _ I hy).1
  have B:=(h i _ I hy).1.2
  rw [ob hy]; omega
theorem Oy {c:ao} {i:Nat} (hi:i≤c.aT.length) (h:sB c i): -1≤kd c i∧kd c i≤86400000:=JA hi fun j y hj hy=>(h j y hj hy).1
theorem uB {c:ao} {i k:Nat} {x o:ck} (hs: ∀ (j:Nat) y,j<i→c.aT[j]? =some y→fh c j y) (hx:c.aT[i]? =some x) (hok:fh c i x) (hk:k<i) (ho:c.aT[k]? =some o):
 (0≤o.At∧o.At<x.At∧x.At≤86400000)∧(-10000≤x.dD.Lo∧x.dD.Lo≤x.dD.Hi∧x.dD.Hi≤10000)∧ -10000≤o.dD.Lo∧o.dD.Lo≤o.dD.Hi∧o.dD.Hi≤10000:=by
 have h: ∀ (j:Nat) y,j<i+1→c.aT[j]? =some y→fh c j y:=fun j y hj hy=>by
  by_cases e:j=i
  ·subst e; rw [hx] at hy; cases hy; exact hok
  ·exact hs j y I hy
 have A:=(uL h i x I hx).2 k o hk ho
 have B:=(uL h k o I ho).1
 exact ⟨⟨B,A,hok.1.2⟩,hok.2,(h k o I ho).2⟩
theorem LS {d a b:Int} (hd:0≤d∧d≤1000) (h:0≤b∧b<a∧a≤86400000):Qb (Ai (d*Ai (a-b))) 1000000=o8 (d*(a-b)) 1000000:=by
 have C:0≤d*(a-b)∧d*(a-b)≤90000000000:=by
  have:=OU (a:=d) (b:=a-b) (A:=1000) (B:=90000000) hd.1 hd.2 I I
  omega
 rw [zX (show qA (a-b) from ⟨I,I⟩),zX (show qA (d*(a-b)) from ⟨I,I⟩),PA C.1 I I]
 rfl
/-- what is asked of a line, however wrong it is -/
structure ej (l:aW) (asl:List RA):Prop where
 rK:l.aM.length≤1000000
 side: ∀ x∈l.aM,0≤x.iv∧x.iv≤255
 rD:l.aj.length≤1000000
 mE:asl.length=l.aj.length
 ry:l.ae.length≤1000000
 PY: ∀ (k:Nat) m (a:RA),l.aj[k]? =some m→asl[k]? =some a→m.aT.length≤a.2∧m.aT.length≤1000000
noncomputable instance (l:aW):Decidable (gi l):=by unfold gi; infer_instance
noncomputable instance (l:aW) (b:bI):Decidable (jX l b):=Classical.propDecidable _
theorem yz {l:aW} (h:gi l) (h2: ∀ c∈l.aj,eL c) (h3: ∀ b∈l.ae,jX l b) (h4: ∀ i,i<l.ae.length→1≤mQ l i):lI l:=⟨h,h2,h3,h4⟩
theorem CY {l:aW}:((!(l.aj.any fun m=> !decide (eL m)))=true)↔ ∀ c∈l.aj,eL c:=by simp
theorem GI {l:aW}:((!(l.ae.any fun b=> !decide (jX l b)))=true)↔ ∀ b∈l.ae,jX l b:=by simp
theorem kJ {c:ao} (h:eL c) {r x:Int} (h0:0≤x) (h1:x<86400001):
 (x<fH (gR c r) 86400001→gR c r x=false)∧(fH (gR c r) 86400001≤x→gR c r x=true)∧(x<fH (gS c r) 86400001→gS c r x=false)∧(fH (gS c r) 86400001≤x→gS c r x=true):=by
 have up: ∀ (q:Int→Bool),(∀ a b,0≤a→a≤b→b<86400001→q a=true→q b=true)→fH q 86400001≤x→q x=true:=fun q hq hx=>by
  have hb:=ik (p:=q) (n:=86400001)
  exact hq _ _ hb.1 hx h1 (F9 I)
 refine ⟨yh h0,up _ fun a b ha A hb hq=>?_,yh h0,up _ fun a b ha A hb hq=>?_⟩
 ·have:=u7 h ha A I
  simp only [gR,decide_eq_true_eq] at hq ⊢; omega
 ·have:=u7 h ha A I
  simp only [gS,decide_eq_true_eq] at hq ⊢; omega
theorem wS {l:aW} {s:aK} {b:bI} {c:ao} (hb:l.ae[s.fM.toNat]? =some b) (hc:l.aj[b.jr.toNat]? =some c):pX l s=c:=by
 unfold pX; rw [hb]; simp only [Option.bind_some]; rw [hc]; rfl
end
section
def o5 (sg:List aK) (i:Nat):aK:=if i=0 then ⟨-1,0⟩ else (sg[i-1]?).getD ⟨-1,0⟩
theorem pS {sg:List aK} {i:Nat} {s:aK} (h:sg[i]? =some s):o5 sg (i+1)=s:=by unfold o5; rw [if_neg I,Nat.add_sub_cancel,h]; rfl
def mB (l:aW) (s:aK):Prop:=(0≤s.fM∧s.fM≤(l.ae.length:Int)-1)∧0≤s.Read∧s.Read≤86400000
def kQ (l:aW) (sg:List aK) (i:Nat) (s:aK):Prop:=mB l s∧ ¬ s.fM<(o5 sg i).fM∧ ¬ (s.fM=(o5 sg i).fM∧s.Read≤(o5 sg i).Read)
def qh (l:aW) (sg:List aK) (i:Nat):Prop:= ∀ (j:Nat) s,j<i→sg[j]? =some s→kQ l sg j s
structure eW (l:aW) (r:cx):Prop where
 time:0≤r.Start∧r.Start≤r.fK∧r.fK≤86400000
 len:r.ah.length≤10
 sig: ∀ (i:Nat) s,r.ah[i]? =some s→kQ l r.ah i s
noncomputable instance (l:aW) (r:cx):Decidable (eW l r):=Classical.propDecidable _
theorem yF {l:aW} {sg:List aK}:qh l sg 0:=fun j s hj=>absurd hj (Nat.not_lt_zero _)
theorem lL {l:aW} {sg:List aK} {i:Nat} {s:aK} (h:qh l sg i) (hs:sg[i]? =some s) (ho:kQ l sg i s):qh l sg (i+1):=fun j z hj hz=>by
 rcases Nat.lt_or_ge j i with q|q
 ·exact h j z q hz
 ·obtain rfl:j=i:=by omega
  rw [hs] at hz; cases hz; exact ho
theorem Cu {l:aW} {r:cx} {i:Nat} (h1:0≤r.Start∧r.Start≤r.fK∧r.fK≤86400000) (h2:r.ah.length≤10) (h:qh l r.ah i) (hi:r.ah.length≤i):eW l r:=
 ⟨h1,h2,fun j s hs=>h j s (by have:=(List.getElem?_eq_some_iff.1 hs).1; omega) hs⟩
noncomputable def sR (l:aW) (sg:List aK) (b k:Nat):Option (Int×ab):=(sg[k]?).bind fun s=>if s.fM=(b:Int)∧(cR l s).Lo≤(cR l s).Hi then some ((k:Int),cR l s) else none
noncomputable def oD (l:aW) (sg:List aK) (i b:Nat):TM:=(List.range i).filterMap (sR l sg b)
noncomputable def dU (l:aW) (sg:List aK) (i:Nat):List TM:=(List.range l.ae.length).map (oD l sg i)
noncomputable def cL (l:aW) (n:Nat):List Int:=(List.range n).map (dN l)
theorem uO {l:aW} {n:Nat}:cL l (n+1)=cL l n++[dN l n]:=by simp [cL,List.range_succ]
theorem dT {l:aW} {n:Nat}:(cL l n).length=n:=by simp [cL]
theorem i_ {l:aW} {sg:List aK} {i:Nat}:(dU l sg i).length=l.ae.length:=by simp [dU]
theorem oP {l:aW} {sg:List aK} {i b:Nat} (h:b<l.ae.length):(dU l sg i)[b]? =some (oD l sg i b):=by simp [dU,h]
theorem pa {l:aW} {sg:List aK} {b k:Nat} {q:Int×ab}:sR l sg b k=some q↔ ∃ s,sg[k]? =some s∧(s.fM=(b:Int)∧(cR l s).Lo≤(cR l s).Hi)∧q=((k:Int),cR l s):=by
 unfold sR
 cases h:sg[k]? with
 |none=>simp
 |some s=>
  simp only [Option.bind_some,Option.some.injEq]
  by_cases e:s.fM=(b:Int)∧(cR l s).Lo≤(cR l s).Hi
  ·rw [if_pos e]
   constructor
   ·intro h; cases h; exact ⟨s,rfl,e,rfl⟩
   ·rintro ⟨s',rfl,_,rfl⟩; rfl
  ·rw [if_neg e]
   constructor
   ·intro h; cases h
   ·rintro ⟨s',rfl,e',_⟩; exact absurd e' e
theorem sw {l:aW} {sg:List aK} {i b:Nat} {q:Int×ab}:q∈oD l sg i b↔ ∃ k,k<i∧ ∃ s,sg[k]? =some s∧(s.fM=(b:Int)∧(cR l s).Lo≤(cR l s).Hi)∧q=((k:Int),cR l s):=by
 unfold oD
 simp only [List.mem_filterMap,List.mem_range,pa]
theorem qf {l:aW} {sg:List aK} {i b:Nat}:oD l sg (i+1) b=oD l sg i b++(sR l sg b i).toList:=by
 unfold oD
 rw [List.range_succ,List.filterMap_append]
 congr 1
theorem Dv {l:aW} {sg:List aK}:dU l sg 0=List.replicate l.ae.length []:=by
 unfold dU
 rw [List.eq_replicate_iff]
 refine ⟨sm,fun t ht=>?_⟩
 obtain ⟨b,_,rfl⟩:=List.mem_map.1 ht
 rfl
theorem xn {l:aW} {sg:List aK} {i:Nat} {s:aK} (hs:sg[i]? =some s) (h: ¬ (cR l s).Lo≤(cR l s).Hi):dU l sg (i+1)=dU l sg i:=by
 unfold dU
 apply List.map_congr_left
 intro b _
 rw [qf]
 have:sR l sg b i=none:=by
  cases e:sR l sg b i with
  |none=>rfl
  |some q=>obtain ⟨s',A,⟨_,B⟩,_⟩:=pa.1 e; rw [hs] at A; cases A; exact absurd B h
 rw [this]; simp
theorem yT {l:aW} {sg:List aK} {i:Nat} {s:aK} (hs:sg[i]? =some s) (hb:0≤s.fM∧s.fM≤(l.ae.length:Int)-1) (h:(cR l s).Lo≤(cR l s).Hi) {x:TM} (hx:(dU l sg i)[s.fM.toNat]? =some x):
 (dU l sg i).set s.fM.toNat (er x (i:Int) (cR l s))=dU l sg (i+1):=by
 have A:s.fM.toNat<l.ae.length:=by omega
 rw [oP A] at hx
 cases hx
 have B:er (oD l sg i s.fM.toNat) (i:Int) (cR l s)=oD l sg (i+1) s.fM.toNat:=by
  have hn:(oD l sg i s.fM.toNat).lookup (i:Int)=none:=jf.2 fun p hp e=>by
   obtain ⟨k,hk,_,_,_,rfl⟩:=sw.1 hp
   simp only at e; omega
  have ho:sR l sg s.fM.toNat i=some ((i:Int),cR l s):=pa.2 ⟨s,hs,⟨I,h⟩,rfl⟩
  rw [qf,ho]
  unfold er; rw [hn]; rfl
 rw [B]
 apply List.ext_getElem?
 intro b
 rw [List.getElem?_set]
 by_cases e:s.fM.toNat=b
 ·rw [if_pos e,i_,← e,if_pos A,oP A]
 ·rw [if_neg e]
  by_cases hb':b<l.ae.length
  ·rw [oP hb',oP hb',qf]
   have:sR l sg b i=none:=by
    cases e2:sR l sg b i with
    |none=>rfl
    |some q=>obtain ⟨s',C,⟨D,_⟩,_⟩:=pa.1 e2; rw [hs] at C; cases C; exact absurd I e
   rw [this]; simp
  ·rw [List.getElem?_eq_none (by rw [i_]; omega),List.getElem?_eq_none (by rw [i_]; omega)]
noncomputable def cw (l:aW) (r:cx):bP:=⟨r.Start,r.fK,cL l l.ae.length,dU l r.ah r.ah.length,l.cN,l.eg,(r.ah.length:Int)⟩
theorem Ib {l:aW} (ht:cV l.aM=true) (h:lI l) {i:Nat} (hi:i<l.ae.length):1≤dN l i∧dN l i≤500000000:=by
 have A:=E9 ht h.vh i
 have B:=h.PZ i hi
 have C:=h.head.1
 unfold dN o8
 refine ⟨(Int.le_ediv_iff_mul_le I).2 I,?_⟩
 have:(1000*mQ l i+l.gG-1)/l.gG≤1000*mQ l i+l.gG-1:=Int.ediv_le_self _ I
 omega
theorem Mf (l:aW) (s:aK):0≤(cR l s).Lo∧(cR l s).Hi≤86400000:=by
 have A:=ik (p:=gR (pX l s) s.Read) (n:=86400001)
 have B:=ik (p:=gS (pX l s) s.Read) (n:=86400001)
 unfold cR Ao
 simp only
 omega
theorem o2 {l:aW} {r:cx} (ht:cV l.aM=true) (h:lI l) (hr:eW l r):HB (cw l r):=by
 have hh:=h.head
 unfold gi at hh
 refine ⟨?_,by simp [cw,i_,bP.n,dT],hr.time,fun x hx=>?_,fun t A p hp=>?_⟩
 ·show (cL l l.ae.length).length≤6
  rw [dT]; omega
 ·obtain ⟨i,hi,rfl⟩:=List.mem_map.1 hx
  exact Ib ht h (List.mem_range.1 hi)
 ·obtain ⟨b,hb,rfl⟩:=List.mem_map.1 A
  obtain ⟨k,hk,s,hs,⟨_,B⟩,rfl⟩:=sw.1 hp
  have C:=Mf l s
  have D:=hr.len
  simp only
  omega
noncomputable def eB (l:aW) (r:cx) (me:Int):Int:=if du l=0 then (if eW l r then (if me=0 then (if jW (cw l r)=[] then 8 else 0) else me) else 51) else du l
theorem nS {l:aW} {r:cx} {me:Int} (h: ¬ du l=0):eB l r me=du l:=if_neg h
theorem iY {l:aW} {r:cx} {me:Int} (h:du l=0) (h2: ¬ eW l r):eB l r me=51:=by unfold eB; rw [if_pos h,if_neg h2]
theorem qv {l:aW} {r:cx} {me:Int} (h:du l=0) (h2:eW l r) (h3: ¬ me=0):eB l r me=me:=by unfold eB; rw [if_pos h,if_pos h2,if_neg h3]
theorem pL {l:aW} {r:cx} {me:Int} (h:du l=0) (h2:eW l r) (h3:me=0) (h4:jW (cw l r)=[]):eB l r me=8:=by unfold eB; rw [if_pos h,if_pos h2,if_pos h3,if_pos h4]
theorem mV {l:aW} {r:cx} {me:Int} (h:du l=0) (h2:eW l r) (h3:me=0) (h4: ¬ jW (cw l r)=[]):eB l r me=0:=by unfold eB; rw [if_pos h,if_pos h2,if_pos h3,if_neg h4]
theorem jR {l:aW} {r:cx} {me:Int} (h:eB l r me=0):du l=0∧eW l r∧me=0∧ ¬ jW (cw l r)=[]:=by
 unfold eB at h
 split at h
 ·split at h
  ·split at h
   ·split at h
    ·omega
    ·exact ⟨asm,asm,asm,asm⟩
   ·omega
  ·omega
 ·omega
end
section
def x4 (l:List Int):Int:=(l.drop 1).foldl min (l.headD 0)
theorem Be: ∀ (l:List Int) (a:Int),(l.foldl min a=a∨l.foldl min a∈l)∧l.foldl min a≤a∧ ∀ x∈l,l.foldl min a≤x
 |[],a=>⟨.inl rfl,sm,sm⟩
 |y::l,a=>by
  obtain ⟨A,C,B⟩:=Be l (min a y)
  simp only [List.foldl_cons]
  refine ⟨?_,I,?_⟩
  ·rcases A with A|A
   ·rw [A]
    rcases Int.le_total a y with q|q
    ·left; omega
    ·right; rw [show min a y=y by omega]; simp
   ·right; exact cW _ A
  ·intro x hx
   rcases List.mem_cons.1 hx with rfl|hx
   ·omega
   ·exact B x hx
theorem Nm {l:List Int} (h:l≠[]):x4 l∈l∧ ∀ x∈l,x4 l≤x:=by
 cases l with
 |nil=>exact absurd rfl h
 |cons y ys=>
  obtain ⟨A,B,C⟩:=Be ys y
  refine ⟨?_,fun x hx=>?_⟩
  ·rcases A with A|A
   ·simp [x4,A]
   ·exact cW _ (by simpa [x4] using A)
  ·rcases List.mem_cons.1 hx with rfl|hx
   ·simpa [x4] using B
   ·simpa [x4] using C x hx
noncomputable def mq (l:aW) (r:cx):List Int:=if eB l r 0=0 then jW (cw l r) else []
theorem lE {l:aW} {r:cx} (h:eB l r 0=0):mq l r=jW (cw l r):=if_pos h
theorem tW {l:aW} {r:cx} (h: ¬ eB l r 0=0):mq l r=[]:=if_neg h
theorem GQ {l:aW} {r:cx} (h:eB l r 0=0):mq l r≠[]:=by rw [lE h]; exact (jR h).2.2.2
noncomputable def jJ (l:aW) (b:Int):Int:=if 0≤b∧b≤(l.ae.length:Int)-1 then 0 else 2
theorem Bx {l:aW} {b:Int} (h:0≤b∧b≤(l.ae.length:Int)-1):jJ l b=0:=if_pos h
theorem CX {l:aW} {b:Int} (h:jJ l b=0):0≤b∧b≤(l.ae.length:Int)-1:=by
 unfold jJ at h
 split at h
 ·assumption
 ·omega
noncomputable def ni (l:aW) (r:cx) (b:Nat):ab:=wy (mD (cw l r) b)
noncomputable def eT (l:aW) (r:cx) (b:Int):Int:=if eB l r (jJ l b)=0 then (if ni l r b.toNat=mA then 6 else 0) else eB l r (jJ l b)
noncomputable def ff (l:aW) (r:cx) (b:Int):ab:=if eT l r b=0 then ni l r b.toNat else fF
theorem m7 {l:aW} {r:cx} {b:Int} (h: ¬ eB l r (jJ l b)=0):eT l r b=eB l r (jJ l b)∧ff l r b=fF:=by
 have e:eT l r b=eB l r (jJ l b):=if_neg h
 exact ⟨e,by unfold ff; rw [if_neg (by rw [e]; exact h)]⟩
theorem qL {l:aW} {r:cx} {b:Nat} (h:eB l r (jJ l b)=0) (h2:ni l r b=mA):eT l r b=6∧ff l r b=fF:=by
 have e:eT l r b=6:=by unfold eT; rw [if_pos h,Int.toNat_natCast,if_pos h2]
 exact ⟨e,by unfold ff; rw [if_neg (by rw [e]; omega)]⟩
theorem qs {l:aW} {r:cx} {b:Nat} (h:eB l r (jJ l b)=0) (h2: ¬ ni l r b=mA):eT l r b=0∧ff l r b=ni l r b:=by
 have e:eT l r b=0:=by unfold eT; rw [if_pos h,Int.toNat_natCast,if_neg h2]
 exact ⟨e,by unfold ff; rw [if_pos e,Int.toNat_natCast]⟩
theorem Ks {w:bP} (h:HB w) {b:Nat} {q:Int×ab} (hq:q∈mD w b):0≤q.2.Lo∧q.2.Lo≤q.2.Hi∧q.2.Hi≤86400000:=by
 have A:=mI hq
 obtain ⟨o,ho,p,hp,u,hu,e⟩:=g6.1 hq
 obtain ⟨_,_,rfl⟩:=ja.1 e
 have B:=h.opt ho
 simp only [js] at A ⊢
 omega
theorem wW {l:aW} {r:cx} {b:Int} (h:eT l r b=0):0≤(ff l r b).Lo∧(ff l r b).Lo≤(ff l r b).Hi∧(ff l r b).Hi≤86400000:=by
 have ho:eB l r (jJ l b)=0:=by
  by_cases e:eB l r (jJ l b)=0
  ·exact e
  ·rw [(m7 e).1] at h; exact absurd h e
 obtain ⟨B,C,_⟩:=jR ho
 obtain ⟨ht,A⟩:=gF B
 have hw:=o2 ht A C
 have hv:ff l r b=ni l r b.toNat:=by unfold ff; rw [if_pos h]
 have hn:ni l r b.toNat≠mA:=fun e=>by unfold eT at h; rw [if_pos ho,if_pos e] at h; omega
 have hh:=t_ (l:=mD (cw l r) b.toNat) fun q hq=>mI hq
 rw [hv]
 unfold ni at hn ⊢
 rcases hh with ⟨_,e⟩|hh
 ·exact absurd e hn
 ·obtain ⟨x,hx,ex⟩:=hh.lo
  obtain ⟨y,hy,ey⟩:=hh.hi
  have:=Ks hw hx
  have:=Ks hw hy
  have:=hh.le
  omega
noncomputable def BK (l:aW) (r:cx):ab:=if eT l r l.cG=0 then ⟨(ff l r l.cG).Lo-r.Start,(ff l r l.cG).Hi-r.Start⟩ else fF
theorem DX {l:aW} {r:cx} (h:eT l r l.cG=0):BK l r=⟨(ff l r l.cG).Lo-r.Start,(ff l r l.cG).Hi-r.Start⟩:=if_pos h
theorem Ef {l:aW} {r:cx} (h: ¬ eT l r l.cG=0):BK l r=fF:=if_neg h
theorem vd {l:aW} {r:cx} {b:Int} (h:eT l r b=0):eW l r:=by
 by_cases e:eB l r (jJ l b)=0
 ·exact (jR e).2.1
 ·rw [(m7 e).1] at h; exact absurd h e
theorem yO {k:List (Int×ab)} {h:ab} {q:Int×ab} {z:ab} (hh:kb k h) (hq:q.2.Lo≤q.2.Hi) (hz:ml h q.2=z):kb (k++[q]) z:=by subst hz; exact tT hh hq
end
section
def jN (l:aW):Prop:=(20<(l.aM.length:Int)∨8<(l.aj.length:Int)∨10<(l.ae.length:Int))∨ ∃ c∈l.aj,10<(c.aT.length:Int)
noncomputable instance (l:aW):Decidable (jN l):=Classical.propDecidable _
/-- what is asked of a line that comes in -/
structure tQ (l:aW) (az:List RA):Prop where
 rK:l.aM.length≤9223372036854775807
 side: ∀ x∈l.aM,0≤x.iv∧x.iv≤255
 rD:l.aj.length≤9223372036854775807
 mE:az.length=l.aj.length
 ry:l.ae.length≤9223372036854775807
 PY: ∀ (k:Nat) m (a:RA),l.aj[k]? =some m→az[k]? =some a→m.aT.length≤a.2∧m.aT.length≤9223372036854775807
def z_ (l:aW) (i:Nat):Prop:= ∀ (j:Nat) c,j<i→l.aj[j]? =some c→(c.aT.length:Int)≤10
theorem IN {l:aW} {i:Nat} (h: ¬ (20<(l.aM.length:Int))∧ ¬ (8<(l.aj.length:Int))∧ ¬ (10<(l.ae.length:Int))) (hi:l.aj.length≤i) (hs:z_ l i): ¬ jN l:=by
 rintro (A|⟨c,hc,B⟩)
 ·omega
 ·obtain ⟨k,hk⟩:=List.getElem?_of_mem hc
  have:=hs k c (by have:=(List.getElem?_eq_some_iff.1 hk).1; omega) hk
  omega
theorem Kc {l:aW} {i:Nat} {c:ao} (hc:l.aj[i]? =some c) (h:10<(c.aT.length:Int)):jN l:= .inr ⟨c,aR hc,h⟩
theorem lF {α:Type} {l:List α} {P:Nat→α→Prop} {i:Nat} {x:α} (h: ∀ (j:Nat) y,j<i→l[j]? =some y→P j y) (hx:l[i]? =some x) (hp:P i x): ∀ (j:Nat) y,j<i+1→l[j]? =some y→P j y:=fun j y hj hy=>by
 by_cases e:j=i
 ·subst e; rw [hx] at hy; cases hy; exact hp
 ·exact h j y I hy
theorem v_ {α:Type} {l:List α} {P:Nat→α→Prop} {i:Nat} (hi:l.length≤i) (h: ∀ (j:Nat) y,j<i→l[j]? =some y→P j y): ∀ (j:Nat) y,l[j]? =some y→P j y:=fun j y hy=>h j y (by have:=(List.getElem?_eq_some_iff.1 hy).1; omega) hy
theorem vW {α:Type} {l:List α} {P:α→Prop} {i:Nat} (hi:l.length≤i) (h: ∀ (j:Nat) y,j<i→l[j]? =some y→P y): ∀ y∈l,P y:=fun y hy=>by
 obtain ⟨k,hk⟩:=List.getElem?_of_mem hy
 exact v_ (P:=fun _ y=>P y) hi h k y hk
theorem tL {l:aW} (h: ¬ jN l):(l.aM.length:Int)≤20∧(l.aj.length:Int)≤8∧(l.ae.length:Int)≤10∧ ∀ c∈l.aj,(c.aT.length:Int)≤10:=by
 unfold jN at h
 rw [not_or] at h
 refine ⟨I,I,I,fun c hc=>?_⟩
 have:=h.2
 rcases Int.lt_or_le 10 (c.aT.length:Int) with q|q
 ·exact absurd ⟨c,hc,q⟩ this
 ·exact q
theorem tQ.small {l:aW} {az:List RA} (h:tQ l az) (hg: ¬ jN l):ej l az:=by
 have A:=tL hg
 exact ⟨I,h.side,I,h.mE,I,fun k m a hm ha=>⟨(h.PY k m a hm ha).1,by have:=A.2.2.2 m (aR hm); omega⟩⟩
def Ew (c:ao) (x:ck) (k:Nat):Prop:= ∀ (j:Nat) o,j<k→c.aT[j]? =some o→ow c x o
def tn (c:ao) (m:Nat):Prop:= ∀ (i:Nat) x,i<m→c.aT[i]? =some x→Ew c x i
theorem JT {c:ao} {m:Nat} (h1:0≤c.cU∧c.cU≤1000) (h2:1≤c.aT.length∧c.aT.length≤5) (hs: ∀ (i:Nat) x,c.aT[i]? =some x→fh c i x) (hm:c.aT.length≤m) (hp:tn c m):eL c:=
 ⟨h1,h2,hs,fun i k x o hx hk ho=>hp i x (by have:=(List.getElem?_eq_some_iff.1 hx).1; omega) hx k o hk ho⟩
theorem Df {c:ao} {m k:Nat} (h:tn c m) (hk: ∀ y,c.aT[m]? =some y→Ew c y k) (e:k=m):tn c (m+1):=by
 subst e
 intro i x hi hx
 by_cases e:i=k
 ·subst e; exact hk x hx
 ·exact h i x I hx
noncomputable def kx (c:ao) (at_:Int) (i:Nat):ab:=if i=0 then fF else fX c at_ i
theorem DZ {c:ao} {at_:Int} {i:Nat} (h:eL c) (hi:c.aT.length≤i):kx c at_ i=hH c at_:=by
 have:=h.len
 unfold kx; rw [if_neg I,nD hi]
theorem Ae {c:ao} {at_:Int} {i:Nat} {x:ck} (h:eL c) (ha:0≤at_∧at_≤90000000) (hx:c.aT[i]? =some x) (hi:i=0):
 kx c at_ (i+1)=⟨max (x.dD.Lo-sj c at_ x) (x.dD.Lo-sj c at_ x),min (x.dD.Hi+sj c at_ x) (x.dD.Hi+sj c at_ x)⟩:=by
 subst hi
 have hb:=h.ui hx
 have ho:=uf h.rL ha hb.1
 unfold kx
 rw [if_neg I,jL hx]
 unfold lS fX
 simp only [List.take_zero,List.foldl_nil,ab.mk.injEq]
 omega
theorem Cl {c:ao} {at_:Int} {i:Nat} {x:ck} (hx:c.aT[i]? =some x) (hi: ¬ i=0):kx c at_ (i+1)=⟨max (kx c at_ i).Lo (x.dD.Lo-sj c at_ x),min (kx c at_ i).Hi (x.dD.Hi+sj c at_ x)⟩:=by
 unfold kx
 rw [if_neg I,if_neg hi,jL hx]; rfl
def g0 (ts:List al) (n:Nat):List ab:=(List.range n).map fun k=>ek ts 0 k
theorem Cn {ts:List al} {n:Nat}:g0 ts (n+1)=g0 ts n++[ek ts 0 n]:=by simp [g0,List.range_succ]
theorem oy {ts:List al} {n:Nat}:(g0 ts n).length=n:=by simp [g0]
theorem pJ {ts:List al} {n k:Nat} {x:ab} (h:(g0 ts n)[k]? =some x):x=ek ts 0 k:=by
 unfold g0 at h
 rw [fj] at h
 cases hk:(List.range n)[k]? with
 |none=>simp [hk] at h
 |some v=>
  have:=List.getElem?_eq_some_iff.1 hk
  simp at this
  simp [hk] at h
  rw [← h,← this.2]
theorem DK {ts:List al} {a b:cP} (h:b.aV<a.aV):jS ts a b=oj (jS ts b a):=by
 unfold jS
 rw [if_pos h,if_neg I]
 unfold xb
 rw [Int.min_comm b.aV a.aV,Int.max_comm b.aV a.aV]
 unfold oj l8
 simp only [ab.mk.injEq]
 omega
theorem qF {ts:List al} {a b:cP} (h: ¬ b.aV<a.aV):jS ts a b=l8 (l8 (ek ts a.aV.toNat (b.aV-a.aV).toNat) b.lf) (oj a.lf):=by
 unfold jS xb
 rw [if_neg h,Int.min_eq_left I,Int.max_eq_right I]
end
section
def iA (m:List av) (a:cD):List aw:=rd a.1.1 m.length 7 (List.zipWith av.cells m a.2)::aU av.gh m a.2
structure Of (h:List av) (a:cD):Prop where
 len:h.length≤1000000
 mE:a.2.length=h.length
 sig: ∀ d∈h,d.bW.ah.length≤1000000
structure fw (r:cr) (az:List RA) (ha:List cD):Prop where
 line:ej r.aA az
 iK:r.aH.length≤1000000
 draw:r.cm.length≤12
 iR:r.aq.length≤1000000
 has:ha.length=r.aq.length
 my: ∀ (k:Nat) h (a:cD),r.aq[k]? =some h→ha[k]? =some a→Of h a
structure tm (r:cr) (az:List RA) (ha:List cD):Prop where
 line:tQ r.aA az
 iK:r.aH.length≤9223372036854775807
 draw:r.cm.length≤9223372036854775807
 iR:r.aq.length≤9223372036854775807
 has:ha.length=r.aq.length
 my: ∀ (k:Nat) h (a:cD),r.aq[k]? =some h→ha[k]? =some a→h.length≤9223372036854775807∧a.2.length=h.length∧ ∀ d∈h,d.bW.ah.length≤9223372036854775807
def oU (h:List av):Prop:=8<(h.length:Int)∨ ∃ d∈h,15<(d.bW.ah.length:Int)
def je (r:cr):Prop:=(jN r.aA∨8<(r.aH.length:Int)∨8<(r.cm.length:Int)∨5<(r.aq.length:Int))∨ ∃ h∈r.aq,oU h
noncomputable instance (r:cr):Decidable (je r):=Classical.propDecidable _
theorem qT {r:cr} (h: ¬ je r): ¬ jN r.aA∧(r.aH.length:Int)≤8∧(r.cm.length:Int)≤8∧(r.aq.length:Int)≤5∧ ∀ h∈r.aq,(h.length:Int)≤8∧ ∀ d∈h,(d.bW.ah.length:Int)≤15:=by
 unfold je at h
 obtain ⟨A,B⟩:=not_or.1 h
 obtain ⟨C,E⟩:=not_or.1 A
 refine ⟨C,I,I,I,fun x hx=>?_⟩
 have hn: ¬ oU x:=fun q=>B ⟨x,hx,q⟩
 obtain ⟨F,D⟩:=not_or.1 hn
 refine ⟨I,fun d hd=>?_⟩
 rcases Int.lt_or_le 15 (d.bW.ah.length:Int) with q|q
 ·exact absurd ⟨d,hd,q⟩ D
 ·exact q
theorem tm.small {r:cr} {az:List RA} {ha:List cD} (h:tm r az ha) (hg: ¬ je r):fw r az ha:=by
 have B:=qT hg
 refine ⟨h.line.small B.1,I,I,I,h.has,fun k x a hx A=>?_⟩
 have C:=B.2.2.2.2 x (aR hx)
 have D:=h.my k x a hx A
 exact ⟨I,D.2.1,fun d hd=>by have:=C.2 d hd; omega⟩
def l6 (r:cx):Prop:=r.Start=0∧r.fK=0∧(r.ah.length:Int)=0
instance (r:cx):Decidable (l6 r):=by unfold l6; infer_instance
def iG (s:ab):Prop:=1≤s.Lo∧s.Lo≤s.Hi∧s.Hi≤600000
instance (s:ab):Decidable (iG s):=by unfold iG; infer_instance
def ia (l:aW) (d:av):Prop:=if d.Out=true then d.dE=false∧d.Time=fF∧l6 d.bW else if d.dE=true then iG d.Time∧l6 d.bW else eT l d.bW l.cG=0∧d.Time=fF
noncomputable instance (l:aW) (d:av):Decidable (ia l d):=Classical.propDecidable _
noncomputable def fB (l:aW) (d:av):ab:=if d.Out=true∨d.dE=true then d.Time else BK l d.bW
/-- which kind a descent is of -/
def oz (d:av):Int:=if d.Out=true then 0 else if d.dE=true then 1 else 2
theorem Mm {w:bP} (h:HB w): ∀ (b:Nat) (p:aF×Int),p∈fwd w b→w.Start≤p.2:=by
 have hl: ∀ b,0≤bR w b:=fun b=>by
  unfold bR
  cases e:w.p8[b]? with
  |none=>simp
  |some x=>have:=h.least x (aR e); simp; omega
 intro b
 induction b with
 |zero=>intro p hp; simp only [fwd,bK] at hp; subst hp; exact Int.le_refl _
 |succ b ih=>
  intro q hq
  obtain ⟨p,hp,o,ho,e⟩:=fE.1 hq
  unfold kB at e
  split at e
  ·simp only [Option.some.injEq] at e
   subst e
   have:=ih p hp
   have:=hl b
   simp only; omega
  ·cases e
theorem LZ {l:aW} {r:cx} {b:Int} (h:eT l r b=0):r.Start≤(ff l r b).Lo:=by
 have ho:eB l r (jJ l b)=0:=by
  by_cases e:eB l r (jJ l b)=0
  ·exact e
  ·rw [(m7 e).1] at h; exact absurd h e
 obtain ⟨B,C,_⟩:=jR ho
 obtain ⟨ht,A⟩:=gF B
 have hw:=o2 ht A C
 have hv:ff l r b=ni l r b.toNat:=by unfold ff; rw [if_pos h]
 have hn:ni l r b.toNat≠mA:=fun e=>by unfold eT at h; rw [if_pos ho,if_pos e] at h; omega
 have hh:=t_ (l:=mD (cw l r) b.toNat) fun q hq=>mI hq
 rw [hv]
 unfold ni at hn ⊢
 rcases hh with ⟨_,e⟩|hh
 ·exact absurd e hn
 ·obtain ⟨x,hx,ex⟩:=hh.lo
  obtain ⟨o,ho,p,hp,u,hu,e⟩:=g6.1 hx
  obtain ⟨_,_,rfl⟩:=ja.1 e
  have D:r.Start≤p.2:=Mm hw _ p hp
  have E:0≤bR (cw l r) b.toNat:=by
   unfold bR
   cases e:(cw l r).p8[b.toNat]? with
   |none=>simp
   |some x=>have:=hw.least x (aR e); simp; omega
  simp only [js] at ex
  omega
theorem Ag {l:aW} {d:av} (h:ia l d):0≤(fB l d).Lo∧(fB l d).Lo≤(fB l d).Hi∧(fB l d).Hi≤86400000:=by
 unfold ia at h
 unfold fB
 split at h
 ·rename_i q; rw [if_pos (Or.inl q),h.2.1]; simp [fF]
 ·rename_i q
  split at h
  ·rename_i A
   rw [if_pos (Or.inr A)]
   obtain ⟨⟨B,C,D⟩,_⟩:=h
   omega
  ·rename_i A
   rw [if_neg (fun z=>z.elim q A),DX h.1]
   have B:=wW h.1
   have C:=(vd h.1).time
   have D:=LZ h.1
   simp only
   omega
theorem EV {l:aW} {d:av} (h:d.Out=true):fB l d=d.Time:=if_pos (Or.inl h)
theorem EC {l:aW} {d:av} (h:d.Out=false∧d.dE=true):fB l d=d.Time:=if_pos (Or.inr h.2)
theorem E2 {l:aW} {d:av} (h:d.Out=false∧d.dE=false):fB l d=BK l d.bW:=if_neg (by simp [h])
theorem qq {l:aW} {d:av} (h:d.Out=true):ia l d=(d.dE=false∧d.Time=fF∧l6 d.bW):=if_pos h
theorem vR {l:aW} {d:av} (h:d.Out=false∧d.dE=true):ia l d=(iG d.Time∧l6 d.bW):=by unfold ia; rw [if_neg (by simp [h]),if_pos h.2]
theorem xr {l:aW} {d:av} (h:d.Out=false∧d.dE=false):ia l d=(eT l d.bW l.cG=0∧d.Time=fF):=by unfold ia; rw [if_neg (by simp [h]),if_neg (by simp [h])]
structure eJ (r:cr):Prop where
 num:1≤(r.aH.length:Int)∧(r.aH.length:Int)≤5
 x5:0≤r.iN∧r.iN≤5
 nh:1≤(r.aq.length:Int)∧(r.aq.length:Int)≤3
 ids: ∀ (i:Nat) x,r.aH[i]? =some x→(0≤x∧x≤9999)∧ ∀ y,0<i→r.aH[i-1]? =some y→y<x
 draw:r.cm.Perm ((List.range r.aH.length).map fun (k:Nat)=>(k:Int))
 my: ∀ h∈r.aq,h.length=r.aH.length∧ ∀ d∈h,ia r.aA d
noncomputable instance (r:cr):Decidable (eJ r):=Classical.propDecidable _
noncomputable def gr (r:cr):Int:=if du r.aA=0 then (if eJ r then 0 else 60) else du r.aA
end
section
theorem ny {α β:Type} {f g:α→Option β}: ∀ {l:List α},(∀ x∈l,f x=g x)→l.filterMap f=l.filterMap g
 |[],_=>rfl
 |x::l,h=>by simp only [List.filterMap_cons,h x bZ,ny (l:=l) (fun y hy=>h y (cW _ hy))]
abbrev g7:=List (Int×ab)
/-- the sum of a sled in some heats, the first ones -/
noncomputable def dK (l:aW) (hs:List (List av)) (i:Nat):Nat→Option ab
 |0=>some ⟨0,0⟩
 |k+1=>match dK l hs i k,(hs[k]?).bind (·[i]?) with
  |some s,some d=>if d.Out=true then none else some ⟨s.Lo+(fB l d).Lo/10,s.Hi+(fB l d).Hi/10⟩
  |_,_=>none
noncomputable def dQ (l:aW) (hs:List (List av)) (n h i:Nat):g7:=(List.range n).filterMap fun q=>(dK l hs q (if q<i then h+1 else h)).map fun s=>((q:Int),s)
noncomputable def n8 (r:cr) (k:Nat):g7:=(List.range r.aH.length).filterMap fun q=>(dK r.aA r.aq q k).map fun s=>((q:Int),s)
noncomputable def aJ (r:cr):g7:=n8 r r.aq.length
section
variable {l:aW} {hs:List (List av)} {n h i q:Nat} {s:ab} {d:av}
theorem Am:dQ l hs n h 0=(List.range n).filterMap fun q=>(dK l hs q h).map fun s=>((q:Int),s):=by
 unfold dQ
 apply ny
 intro q _
 rw [if_neg (Nat.not_lt_zero _)]
theorem Me:dQ l hs n h n=dQ l hs n (h+1) 0:=by
 rw [Am]
 unfold dQ
 apply ny
 intro q hq
 rw [if_pos (List.mem_range.1 hq)]
theorem yR {x:List av} (hx:hs[h]? =some x) (hd:x[i]? =some d) (ho:d.Out=true):dK l hs i (h+1)=none:=by
 unfold dK
 rw [hx]
 simp only [Option.bind_some,hd]
 cases dK l hs i h with
 |none=>rfl
 |some s=>simp [ho]
theorem xK (h0:dK l hs i h=none):dK l hs i (h+1)=none:=by unfold dK; rw [h0]
theorem vU {x:List av} (hx:hs[h]? =some x) (hd:x[i]? =some d) (ho: ¬ d.Out=true) (hs0:dK l hs i h=some s):dK l hs i (h+1)=some ⟨s.Lo+(fB l d).Lo/10,s.Hi+(fB l d).Hi/10⟩:=by
 unfold dK
 rw [hx,hs0]
 simp only [Option.bind_some,hd,if_neg ho]
end
section
variable {l:aW} {hs:List (List av)} {n h i q:Nat} {s t:ab}
theorem PU {K β:Type} [DecidableEq K] {L Y:List (K×β)} {t:K}:(L++Y).lookup t=match L.lookup t with |some v=>some v|none=>Y.lookup t:=by
 induction L with
 |nil=>rfl
 |cons p L ih=>
  obtain ⟨k,u⟩:=p
  by_cases e:t==k
  ·simp [List.lookup,e]
  ·have:(t==k)=false:=by simpa using e
   simp only [List.cons_append,List.lookup,this,ih]
theorem oT {f:Nat→Option ab}: ∀ (n i:Nat),((List.range n).filterMap fun q=>(f q).map fun s=>((q:Int),s)).lookup (i:Int)=if i<n then f i else none
 |0,i=>by simp
 |n+1,i=>by
  rw [List.range_succ,List.filterMap_append,PU,oT n i]
  by_cases c:i<n
  ·rw [if_pos c,if_pos I]
   cases e:f i with
   |some s=>rfl
   |none=>
    simp only
    cases e2:f n with
    |none=>simp [e2]
    |some u=>
     have:((i:Int)==(n:Int))=false:=by simp only [beq_eq_false_iff_ne,ne_eq]; omega
     simp [e2,List.lookup,this]
  ·rw [if_neg c]
   simp only
   by_cases A:i=n
   ·subst A
    rw [if_pos I]
    cases e2:f i with
    |none=>simp [e2]
    |some u=>simp [e2]
   ·rw [if_neg I]
    have:((i:Int)==(n:Int))=false:=by simp only [beq_eq_false_iff_ne,ne_eq]; omega
    cases e2:f n with
    |none=>simp [e2]
    |some u=>simp [e2,List.lookup,this]
theorem xI:(dQ l hs n h i).lookup (q:Int)=if q<n then dK l hs q (if q<i then h+1 else h) else none:=oT n q
theorem OJ {f g:Nat→Option ab} {n i:Nat} (hi:i<n) {s:ab} (hf:(f i).isSome=true) (hg:g i=some s) (hfg: ∀ q,q≠i→f q=g q):er ((List.range n).filterMap fun q=>(f q).map fun s=>((q:Int),s)) (i:Int) s=(List.range n).filterMap fun q=>(g q).map fun s=>((q:Int),s):=by
 unfold er
 rw [if_pos (by rw [oT,if_pos hi]; exact hf),List.map_filterMap]
 apply ny
 intro q _
 by_cases e:q=i
 ·subst e
  obtain ⟨u,hu⟩:=Option.isSome_iff_exists.1 hf
  rw [hu,hg]; simp
 ·rw [hfg q e]
  cases g q with
  |none=>rfl
  |some u=>
   have: ¬ ((q:Int)=(i:Int)):=by omega
   simp [this]
theorem Pb {f g:Nat→Option ab} {n i:Nat} (hg:g i=none) (hfg: ∀ q,q≠i→f q=g q):ct ((List.range n).filterMap fun q=>(f q).map fun s=>((q:Int),s)) (i:Int)=(List.range n).filterMap fun q=>(g q).map fun s=>((q:Int),s):=by
 unfold ct
 rw [List.filter_filterMap]
 apply ny
 intro q _
 by_cases e:q=i
 ·subst e
  rw [hg]
  cases f q with
  |none=>rfl
  |some u=>simp
 ·rw [hfg q e]
  cases g q with
  |none=>rfl
  |some u=>
   have: ¬ ((q:Int)=(i:Int)):=by omega
   simp [this]
theorem M5 (hi:i<n) (h0:(dK l hs i h).isSome=true) (h1:dK l hs i (h+1)=some s):er (dQ l hs n h i) (i:Int) s=dQ l hs n h (i+1):=by
 unfold dQ
 refine OJ hi (by rw [if_neg (Nat.lt_irrefl i)]; exact h0) (by rw [if_pos (Nat.lt_succ_self i)]; exact h1) fun q hq=>?_
 by_cases c:q<i
 ·rw [if_pos c,if_pos I]
 ·rw [if_neg c,if_neg I]
theorem EI (h1:dK l hs i (h+1)=none):ct (dQ l hs n h i) (i:Int)=dQ l hs n h (i+1):=by
 unfold dQ
 refine Pb (by rw [if_pos (Nat.lt_succ_self i)]; exact h1) fun q hq=>?_
 by_cases c:q<i
 ·rw [if_pos c,if_pos I]
 ·rw [if_neg c,if_neg I]
end
def oi (m:g7) (i:Int):g7:=m.filter fun p=> !decide (p.1=i)
def il (m:g7) (i n:Int):Nat:=(oi m i).countP fun p=>decide (p.2.Hi<n)
def km (m:g7) (i n:Int):Nat:=(oi m i).countP fun p=>decide (p.2.Lo<n)
def j5 (m:g7) (i:Int) (own:ab):List Int:=own.Lo::((oi m i).flatMap fun p=>[p.2.Lo+1,p.2.Hi+1]).filter fun n=>decide (own.Lo≤n∧n≤own.Hi)
def uE (m:g7) (i:Int) (own:ab) (k:Int):Prop:= ∃ n∈j5 m i own,(il m i n:Int)+1≤k∧k≤(km m i n:Int)+1
noncomputable instance (m:g7) (i:Int) (own:ab) (k:Int):Decidable (uE m i own k):=Classical.propDecidable _
noncomputable def dq (m:g7) (i:Int) (own:ab):List Int:=((List.range m.length).map fun (k:Nat)=>(k:Int)+1).filter fun k=>decide (uE m i own k)
section
variable {m:g7} {i:Int} {own:ab}
theorem zI (hi:m.lookup i≠none) {x:Int}:km m i x+1≤m.length:=by
 unfold km
 refine Nat.lt_of_le_of_lt List.countP_le_length ?_
 unfold oi
 obtain ⟨v,hv⟩:=Option.ne_none_iff_exists'.1 hi
 have hm: ∃ p∈m,p.1=i:=by
  clear hi
  induction m with
  |nil=>simp at hv
  |cons p m ih=>
   obtain ⟨a,b⟩:=p
   by_cases e:i=a
   ·exact ⟨_,bZ ..,e.symm⟩
   ·have:(i==a)=false:=by simpa using e
    simp only [List.lookup,this] at hv
    obtain ⟨p,hp,e⟩:=ih hv
    exact ⟨p,cW _ hp,e⟩
 obtain ⟨p,hp,e⟩:=hm
 refine Nat.lt_of_le_of_ne (List.length_filter_le _ _) fun q=>?_
 have:=(List.filter_eq_self (p:=fun p:Int×ab=> !decide (p.1=i))).1 (List.filter_sublist.eq_of_length q) p hp
 simp [e] at this
theorem GS (hi:m.lookup i≠none) {k:Int}:k∈dq m i own↔uE m i own k:=by
 unfold dq
 rw [List.mem_filter,q_,decide_eq_true_eq]
 constructor
 ·rintro ⟨_,h⟩; exact h
 ·intro h
  refine ⟨?_,h⟩
  obtain ⟨n,_,A,B⟩:=h
  have:=zI hi (x:=n)
  exact ⟨(k-1).toNat,List.mem_range.2 I,I⟩
end
end
section
def qy (l:List Int):List (List Value):=l.map fun x=>[vI x]
theorem tv {l:List Int}:(qy l).length=l.length:=by simp [qy]
theorem Gb {l:List Int} {k:Nat} {x:Int} (h:l[k]? =some x):(qy l)[k]? =some [vI x]:=by simp [qy,h]
theorem Ha {l:List Int} {k:Nat} {x:List Value} (h:(qy l)[k]? =some x): ∃ y,l[k]? =some y∧x=[vI y]:=by
 simp only [qy,fj,Option.map_eq_some_iff] at h
 obtain ⟨y,hy,rfl⟩:=h
 exact ⟨y,hy,U⟩
theorem D4 {l:List Int}: ∀ x∈qy l,x.length=1:=fun x hx=>by
 simp only [qy,q_] at hx
 obtain ⟨y,_,rfl⟩:=hx
 rfl
theorem x8 {l:List Int}:l.take (qy l).length=l:=by rw [tv,List.take_of_length_le (Nat.le_refl _)]
theorem lx {l:List Int} {k:Nat} {x:Int} (h:l[k]? =some x):l.take (k+1)=l.take k++[x]:=by
 rw [List.take_add_one,h]; rfl
def dx (l:List Int):List Int:=l.mergeSort fun a b=>decide (a≤b)
theorem eV {l:List Int}:(dx l).Perm l:=List.mergeSort_perm _ _
theorem j4 {l:List Int}:(dx l).Pairwise (· ≤ ·):=by
 have:=List.pairwise_mergeSort (le:=fun (a b:Int)=>decide (a≤b)) (fun a b c A B=>by simp at A B ⊢; omega) (fun a b=>by simp; omega) l
 exact this.imp fun h=>by simpa using h
@[simp] theorem fW {l:List Int}:(dx l).length=l.length:=eV.length_eq
theorem qm {l m:List Int} (h1:m.Perm l) (h2:m.Pairwise (· ≤ ·)):m=dx l:=rO (h1.trans eV.symm) h2 j4
end
section
open Go.RowKit
def sC (s:bf):List Value:=[vS s.a s.n s.c]
theorem zg: ∀ s,(sC s).length=1:=fun s=>rfl
theorem HS (l:List bf): ∀ v∈(l.map sC).flatten,v.oneCell'=true:=l5 (fun s=>rfl) l
def Cm (l:List ab) (a:RA):bf:=⟨a.1,l.length,a.2⟩
def rM (l:List ab) (a:RA):List Value:=[vS a.1 l.length a.2]
def yC (l:List ab) (a:RA):List aw:=[rd a.1 l.length 2 (l.map ab.cells)]
def Dd (l:List ab) (a:RA):List aw:=[own a.1 a.2 En 2 (l.map ab.cells)]
theorem yw {ls:List (List ab)} {az:List RA}:(List.zipWith Cm ls az).map sC=List.zipWith rM ls az:=by
 rw [List.map_zipWith]; rfl
theorem xA: ∀ (m:List ab) (a:RA) (w:World),(∀ X∈Dd m a,X.holds w)→ ∀ X∈yC m a,X.holds w:=fun m a w h X hX=>by
 simp only [yC,bK] at hX
 subst hX
 have:=mu (h _ (List.mem_singleton.2 rfl))
 simpa using this
theorem Dm {l:List (List ab)} {bz:List RA}:(bB (aU Dd l bz)).wr=true:=by
 show (aU Dd l bz).all (·.wr)=true
 rw [eM]
 intro X hX
 obtain ⟨k,m,a,_,_,h⟩:=jm hX
 simp only [Dd,bK] at h
 subst h; rfl
theorem j3 {ls:List (List ab)} {az:List RA} (h:az.length=ls.length):(List.zipWith rM ls az).length=ls.length:=by simp [h]
noncomputable def fY (r:cr) (i:Nat):List (List ab):=(r.aq.take i).map fun h=>h.map (fB r.aA)
noncomputable def bV (r:cr):List (List ab):=fY r r.aq.length
section
variable {r:cr} {i:Nat} {h:List av} {tz:List RA} {a:RA}
theorem uW (hh:r.aq[i]? =some h):fY r (i+1)=fY r i++[h.map (fB r.aA)]:=by unfold fY; rw [List.take_add_one,hh,List.map_append]; rfl
theorem kD (hi:i≤r.aq.length):(fY r i).length=i:=by unfold fY; rw [List.length_map,List.length_take]; omega
theorem dw:(bV r).length=r.aq.length:=kD (Nat.le_refl _)
theorem DA (hh:r.aq[i]? =some h):(bV r)[i]? =some (h.map (fB r.aA)):=by
 unfold bV fY
 rw [List.take_length,fj,hh]; rfl
theorem rj {m:List ab} (hh:r.aq[i]? =some h) (hm:(bV r)[i]? =some m):m=h.map (fB r.aA):=by
 rw [DA hh] at hm
 exact (Option.some.inj hm).symm
theorem s9 (hh:r.aq[i]? =some h) (hl:tz.length=i):List.zipWith Cm (fY r (i+1)) (tz++[a])=List.zipWith Cm (fY r i) tz++[Cm (h.map (fB r.aA)) a]:=by
 have hi:=(List.getElem?_eq_some_iff.1 hh).1
 rw [uW hh,List.zipWith_append (by rw [kD I,hl])]
 rfl
theorem Cc (hh:r.aq[i]? =some h) (hl:tz.length=i):aU Dd (fY r i) tz++[own a.1 a.2 En 2 ((h.map (fB r.aA)).map ab.cells)]=aU Dd (fY r (i+1)) (tz++[a]):=by
 have hi:=(List.getElem?_eq_some_iff.1 hh).1
 rw [uW hh,iX (by rw [kD I,hl])]
 simp [aU,Dd]
end
theorem zi {lo hi:Int} {l:List Int}:p9 lo hi l=true↔ ∀ x∈l,lo≤x∧x≤hi:=by
 unfold p9
 rw [Bool.not_eq_true',List.any_eq_false]
 constructor
 ·intro h x hx; have:=h x hx; simp only [decide_eq_true_eq] at this; omega
 ·intro h x hx; have:=h x hx; simp only [decide_eq_true_eq]; omega
abbrev Gp (n:Nat):List Int:=(List.range n).map fun (k:Nat)=>(k:Int)
theorem wB (n:Nat):(Gp n).Pairwise (· ≤ ·):=by
 unfold Gp
 rw [List.pairwise_map]
 exact List.pairwise_lt_range.imp fun h=>by omega
theorem Bd {l:List Int} {n:Nat} (h:l.Perm (Gp n)):dx l=Gp n:=(qm h.symm (wB n)).symm
theorem Gm {l:List Int} {n:Nat} (hl:l.length=n) (h: ∀ j,j<n→ ∀ x,(dx l)[j]? =some x→x=(j:Int)):l.Perm (Gp n):=by
 have e:dx l=Gp n:=by
  apply List.ext_getElem
  ·simp [hl]
  ·intro j A B
   have C:j<n:=by simpa using B
   have:=h j C _ (ei A)
   simpa using this
 rw [← e]; exact eV.symm
def qW (r:cr) (i:Nat):Prop:= ∀ j,j<i→(∀ x,(dx r.cm)[j]? =some x→x=(j:Int))∧ ∀ x y,r.aH[j]? =some x→0<j→r.aH[j-1]? =some y→y<x
def Eh (r:cr) (h:List av):Prop:=h.length=r.aH.length∧ ∀ d∈h,ia r.aA d
def jh (r:cr) (i:Nat):Prop:= ∀ (j:Nat) h,j<i→r.aq[j]? =some h→Eh r h
def oe (l:aW) (h:List av) (k:Nat):Prop:= ∀ (j:Nat) d,j<k→h[j]? =some d→ia l d
section
variable {r:cr} {i:Nat}
theorem C7:qW r 0:=fun j hj=>absurd hj (Nat.not_lt_zero _)
theorem wL {x:Int} (h:qW r i) (hd:(dx r.cm)[i]? =some x) (e:x=(i:Int)) (hs: ∀ x y,r.aH[i]? =some x→0<i→r.aH[i-1]? =some y→y<x):qW r (i+1):=fun j hj=>by
 rcases Nat.lt_or_ge j i with q|q
 ·exact h j q
 ·obtain rfl:j=i:=by omega
  exact ⟨fun y hy=>by rw [hd] at hy; cases hy; exact e,hs⟩
theorem xE:jh r 0:=fun j h hj=>absurd hj (Nat.not_lt_zero _)
theorem wg {h:List av} (hh:jh r i) (hx:r.aq[i]? =some h) (ho:Eh r h):jh r (i+1):=fun j y hj hy=>by
 rcases Nat.lt_or_ge j i with q|q
 ·exact hh j y q hy
 ·obtain rfl:j=i:=by omega
  rw [hx] at hy; cases hy; exact ho
theorem u0 {l:aW} {h:List av}:oe l h 0:=fun j d hj=>absurd hj (Nat.not_lt_zero _)
theorem u3 {l:aW} {h:List av} {d:av} (ht:oe l h i) (hx:h[i]? =some d) (ho:ia l d):oe l h (i+1):=fun j y hj hy=>by
 rcases Nat.lt_or_ge j i with q|q
 ·exact ht j y q hy
 ·obtain rfl:j=i:=by omega
  rw [hx] at hy; cases hy; exact ho
theorem EY {h:List av} (hl:h.length=r.aH.length) (ht:oe r.aA h i) (hi:h.length≤i):Eh r h:=⟨hl,fun d hd=>by
 obtain ⟨j,hj⟩:=List.getElem?_of_mem hd
 exact ht j d (by have:=(List.getElem?_eq_some_iff.1 hj).1; omega) hj⟩
theorem KB {n:Nat} (hn:n=r.aH.length) (h1:1≤(r.aH.length:Int)∧(r.aH.length:Int)≤5) (h2:r.cm.length=r.aH.length) (h3:0≤r.iN∧r.iN≤5) (h4:1≤(r.aq.length:Int)∧(r.aq.length:Int)≤3) (h5:p9 0 9999 r.aH=true)
 (h6:qW r n) (h7:jh r i) (hi:r.aq.length≤i):eJ r:=by
 subst hn
 refine ⟨h1,h3,h4,fun k x hx=>⟨zi.1 h5 x (aR hx),fun y hk hy=>?_⟩,Gm h2 fun j hj=>(h6 j hj).1,fun h hh=>?_⟩
 ·exact (h6 k (List.getElem?_eq_some_iff.1 hx).1).2 x y hx hk hy
 ·obtain ⟨j,hj⟩:=List.getElem?_of_mem hh
  exact h7 j h (by have:=(List.getElem?_eq_some_iff.1 hj).1; omega) hj
theorem eJ.zU (h:eJ r):r.cm.length=r.aH.length:=by have:=h.draw.length_eq; simpa using this
theorem eJ.ins (h:eJ r):p9 0 9999 r.aH=true:=zi.2 fun x hx=>by
 obtain ⟨j,hj⟩:=List.getElem?_of_mem hx
 exact (h.ids j x hj).1
theorem eJ.drawn (h:eJ r) {x:Int} (hx:(dx r.cm)[i]? =some x):x=(i:Int):=by
 rw [Bd h.draw] at hx
 have hi:=(List.getElem?_eq_some_iff.1 hx).1
 simp at hi
 rw [fj,List.getElem?_range hi] at hx
 exact (Option.some.inj hx).symm
theorem eJ.tI (h:eJ r):jh r i:=fun j x _ hx=>h.my x (aR hx)
theorem yd (h: ¬ du r.aA=0):gr r=du r.aA:=if_neg h
theorem ko (h:du r.aA=0) (hn: ¬ eJ r):gr r=60:=by unfold gr; rw [if_pos h,if_neg hn]
theorem B0 (h:du r.aA=0) (hn:eJ r):gr r=0:=by unfold gr; rw [if_pos h,if_pos hn]
theorem iy (h:gr r=0):du r.aA=0∧eJ r:=by
 unfold gr at h
 split at h
 ·split at h
  ·exact ⟨asm,asm⟩
  ·cases h
 ·exact absurd h asm
end
section
variable {r:cr} {k i n h:Nat} {s:ab} {l:aW} {hs:List (List av)}
theorem vw: ∀ {k:Nat} {s:ab},jh r k→k≤r.aq.length→dK r.aA r.aq i k=some s→0≤s.Lo∧s.Lo≤s.Hi∧s.Hi≤8640000*(k:Int)
 |0,s,_,_,h=>by
  simp only [dK,Option.some.injEq] at h
  subst h; simp
 |k+1,s,hh,hk,h=>by
  unfold dK at h
  split at h
  ·rename_i u d hu hd
   split at h
   ·cases h
   ·cases h
    have A:=vw (fun j x hj hx=>hh j x I hx) I hu
    obtain ⟨x,hx,hd⟩:=Option.bind_eq_some_iff.1 hd
    have B:=Ag ((hh k x I hx).2 d (aR hd))
    simp only
    push_cast
    omega
  ·cases h
theorem MC:er (dQ l hs i 0 0) (i:Int) ⟨0,0⟩=dQ l hs (i+1) 0 0:=by
 have A:(dQ l hs i 0 0).lookup (i:Int)=none:=by rw [xI,if_neg (Nat.lt_irrefl i)]
 unfold er
 rw [A]
 simp only [Option.isSome_none,Bool.false_eq_true,if_false]
 unfold dQ
 rw [List.range_succ,List.filterMap_append]
 simp [dK]
theorem IM (hi:i<n):(dQ l hs n h i).lookup (i:Int)=dK l hs i h:=by rw [xI,if_pos hi,if_neg (Nat.lt_irrefl i)]
theorem Kx {α β:Type} {f:α→β} {tr:List β} {ht:List α} {x:β} {d:α} (e:tr=ht.map f) (hx:tr[i]? =some x) (hd:ht[i]? =some d):x=f d:=by
 rw [e,fj,hd] at hx
 exact (Option.some.inj hx).symm
theorem M6:dQ r.aA r.aq r.aH.length h 0=n8 r h:=Am
end
end
section
def vi (key:Int→Int) (l:List Int) (x:Int):List Int:=l.takeWhile (fun y=>decide (key y≤key x))++x::l.dropWhile (fun y=>decide (key y≤key x))
def fD (key:Int→Int) (l:List Int):List Int:=l.foldl (vi key) []
def Dh (key:Int→Int) (l:List Int):Prop:=l.Pairwise fun a b=>key a≤key b
section
variable {key:Int→Int} {l A B D:List Int} {x u v:Int} {i j:Nat}
theorem Hs:(vi key l x).Perm (x::l):=by
 unfold vi
 refine List.perm_middle.trans ?_
 rw [List.takeWhile_append_dropWhile]
theorem NP (hA: ∀ y∈A,key y≤key x) (hB: ∀ y∈B,key x<key y):(A++B).takeWhile (fun y=>decide (key y≤key x))=A∧(A++B).dropWhile (fun y=>decide (key y≤key x))=B:=by
 induction A with
 |nil=>
  cases B with
  |nil=>simp
  |cons b B=>
   have h:=hB b bZ
   have:decide (key b≤key x)=false:=bD I
   rw [List.nil_append,List.takeWhile_cons,List.dropWhile_cons,this]
   exact ⟨U,U⟩
 |cons a A ih=>
  have h:=ih fun y hy=>hA y (cW _ hy)
  have:decide (key a≤key x)=true:=dh (hA a bZ)
  simp only [List.cons_append,List.takeWhile,List.dropWhile,this]
  exact ⟨by rw [h.1],h.2⟩
theorem wa (hA: ∀ y∈A,key y≤key x) (hB: ∀ y∈B,key x<key y):vi key (A++B) x=A++x::B:=by
 unfold vi
 rw [(NP hA hB).1,(NP hA hB).2]
theorem AE (x:Int): ∀ {l:List Int},Dh key l→ ∃ A B,l=A++B∧(∀ y∈A,key y≤key x)∧ ∀ y∈B,key x<key y
 |[],_=>⟨[],[],rfl,(fun y h=>by cases h),fun y h=>by cases h⟩
 |a::l,h=>by
  unfold Dh at h
  rw [List.pairwise_cons] at h
  by_cases c:key a≤key x
  ·obtain ⟨A,B,e,hA,hB⟩:=AE x (l:=l) h.2
   refine ⟨a::A,B,by rw [e]; rfl,fun y hy=>?_,hB⟩
   rcases List.mem_cons.1 hy with rfl|hy
   ·exact c
   ·exact hA y hy
  ·refine ⟨[],a::l,rfl,fun y hy=>(by cases hy),fun y hy=>?_⟩
   rcases List.mem_cons.1 hy with rfl|hy
   ·omega
   ·have:=h.1 y hy; omega
theorem Nd (h:Dh key l):Dh key (vi key l x):=by
 obtain ⟨A,B,rfl,hA,hB⟩:=AE x h
 rw [wa hA hB]
 unfold Dh at h ⊢
 rw [List.pairwise_append] at h ⊢
 refine ⟨h.1,List.pairwise_cons.2 ⟨fun y hy=>by have:=hB y hy; omega,h.2.1⟩,fun y hy z hz=>?_⟩
 rcases List.mem_cons.1 hz with rfl|hz
 ·exact hA y hy
 ·exact h.2.2 y hy z hz
theorem AQ:fD key (l++[x])=vi key (fD key l) x:=by unfold fD; rw [List.foldl_append]; rfl
theorem BX (h:l[i]? =some x):fD key (l.take (i+1))=vi key (fD key (l.take i)) x:=by rw [lx h,AQ]
theorem xj: ∀ {l m:List Int},(l.foldl (vi key) m).Perm (m++l)
 |[],m=>by simp
 |x::l,m=>(xj (l:=l) (m:=vi key m x)).trans (((Hs).append_right l).trans (by
  rw [List.cons_append]
  exact List.perm_middle.symm))
theorem qi:(fD key l).Perm l:=by simpa [fD] using xj (key:=key) (l:=l) (m:=[])
theorem AI: ∀ {l m:List Int},Dh key m→Dh key (l.foldl (vi key) m)
 |[],m,h=>h
 |x::l,m,h=>AI (l:=l) (Nd h)
theorem ur:Dh key (fD key l):=AI List.Pairwise.nil
theorem oE:(fD key l).length=l.length:=qi.length_eq
def Cb (key:Int→Int) (l:List Int) (i j:Nat) (D:List Int):Prop:= ∃ A B x,l[i]? =some x∧A.length=j∧fD key (l.take i)=A++B∧(∀ y∈B,key x<key y)∧D=A++x::(B++l.drop (i+1))
def tO (key:Int→Int) (l:List Int) (i:Nat) (D:List Int):Prop:=D=fD key (l.take i)++l.drop i
theorem JV (h:0<l.length):tO key l 1 l:=by
 cases l with
 |nil=>simp at h
 |cons a l=>simp [tO,fD,vi]
theorem IZ (hi:l.length≤i) (h:tO key l i D):D=fD key l:=by
 subst h; rw [List.take_of_length_le hi,List.drop_of_length_le hi,List.append_nil]
theorem Dr (hi:i<l.length) (h:tO key l i D):Cb key l i i D:=by
 have hx:l[i]? =some l[i]:=ei hi
 refine ⟨fD key (l.take i),[],l[i],hx,by rw [oE,List.length_take]; omega,sm,fun y hy=>(by cases hy),?_⟩
 rw [h,List.nil_append,List.drop_eq_getElem_cons hi]
theorem xG: ∀ {A:List Int},0<A.length→ ∃ A' y,A=A'++[y]:=fun {A} h=>⟨A.dropLast,A.getLast (by intro e; subst e; simp at h),(List.dropLast_concat_getLast _).symm⟩
theorem Hm (hj:0<j) (h:Cb key l i j D) (hu:D[j]? =some u) (hv:D[j-1]? =some v) (hlt:key u<key v):Cb key l i (j-1) ((D.set j v).set (j-1) u):=by
 obtain ⟨A,B,x,hx,hl,he,hB,rfl⟩:=h
 obtain ⟨A',y,rfl⟩:=xG (A:=A) I
 simp only [List.length_append,List.length_cons,List.length_nil] at hl
 subst hl
 have C:(A'++[y]++x::(B++l.drop (i+1)))=A'++y::x::(B++l.drop (i+1)):=by simp
 rw [C] at hu hv ⊢
 rw [List.getElem?_append_right I,show A'.length+(0+1)-A'.length=1 by omega] at hu
 rw [show A'.length+(0+1)-1=A'.length by omega,List.getElem?_append_right (Nat.le_refl _),Nat.sub_self] at hv
 simp at hu hv
 subst hu hv
 refine ⟨A',y::B,x,hx,I,by rw [he]; simp,fun z hz=>?_,?_⟩
 ·rcases List.mem_cons.1 hz with rfl|hz
  ·exact hlt
  ·exact hB z hz
 ·rw [show A'.length+(0+1)-1=A'.length by omega,List.set_append_right _ _ I,List.set_append_right _ _ (Nat.le_refl _),show A'.length+(0+1)-A'.length=1 by omega,Nat.sub_self]
  simp
theorem zf (h:Cb key l i j D) (hc: ∀ A,A.length=j→(∃ C,D=A++C)→Dh key A→ ∀ x,l[i]? =some x→D[j]? =some x→ ∀ y∈A,key y≤key x):tO key l (i+1) D:=by
 obtain ⟨A,B,x,hx,hl,he,hB,rfl⟩:=h
 unfold tO
 have E:Dh key (A++B):=he▸ur
 rw [BX hx,he,wa (hc A hl ⟨_,rfl⟩ (by unfold Dh at E ⊢; rw [List.pairwise_append] at E; exact E.1) x hx (by rw [List.getElem?_append_right I,← hl]; simp)) hB]
 simp
theorem ye (hj: ¬ 0<j) (h:Cb key l i j D):tO key l (i+1) D:=zf h fun A hl _ _ x _ _ y hy=>by
 have:A=[]:=jH I
 subst this; cases hy
theorem yS (hj:0<j) (h:Cb key l i j D) (hu:D[j]? =some u) (hv:D[j-1]? =some v) (hlt: ¬ key u<key v):tO key l (i+1) D:=zf h fun A hl hC hA x hx hd y hy=>by
 obtain ⟨C,hC⟩:=hC
 obtain ⟨A',z,rfl⟩:=xG (A:=A) I
 simp only [List.length_append,List.length_cons,List.length_nil] at hl
 rw [hd] at hu; cases hu
 have e:D[j-1]? =some z:=by
  rw [hC,List.append_assoc,List.getElem?_append_right I,show j-1-A'.length=0 by omega]; simp
 rw [e] at hv; cases hv
 unfold Dh at hA
 rw [List.pairwise_append] at hA
 rcases List.mem_append.1 hy with hy|hy
 ·have:=hA.2.2 y hy v sm; omega
 ·rw [bK] at hy; subst hy; omega
end
end
section
def bk (m:g7) (i:Int):ab:=(m.lookup i).getD fF
def P0 (r:cr) (i:Int):Prop:=0≤i∧i≤(r.aH.length:Int)-1
instance (r:cr) (i:Int):Decidable (P0 r i):=by unfold P0; infer_instance
section
variable {r:cr} {i a b:Int}
theorem yY {m:g7} {i:Int} (h:(m.lookup i).isSome=true): ¬ m.lookup i=none:=fun e=>by rw [e] at h; cases h
theorem oS {k:Nat} {p:Int×ab} (h:p∈n8 r k): ∃ q:Nat,q<r.aH.length∧p.1=(q:Int)∧dK r.aA r.aq q k=some p.2:=by
 unfold n8 at h
 obtain ⟨q,hq,e⟩:=List.mem_filterMap.1 h
 obtain ⟨s,hs,rfl⟩:=Option.map_eq_some_iff.1 e
 exact ⟨q,List.mem_range.1 hq,U,hs⟩
theorem Mu {k:Nat} (h:gr r=0) (hk:k≤r.aq.length): ∀ p∈n8 r k,0≤p.2.Lo∧p.2.Lo≤p.2.Hi∧p.2.Hi≤30000000:=fun p hp=>by
 obtain ⟨q,_,_,hs⟩:=oS hp
 have A:=vw (iy h).2.tI hk hs
 have B:=(iy h).2.nh
 omega
theorem pR (h:gr r=0): ∀ p∈aJ r,0≤p.2.Lo∧p.2.Lo≤p.2.Hi∧p.2.Hi≤30000000:=Mu h (Nat.le_refl _)
theorem yp {k:Nat}:(n8 r k).length≤r.aH.length:=by
 unfold n8
 refine Nat.le_trans (List.length_filterMap_le _ _) ?_
 rw [List.length_range]; exact Nat.le_refl _
theorem nH (h:gr r=0):(aJ r).length≤5:=by
 have A:=yp (r:=r) (k:=r.aq.length)
 have B:=(iy h).2.num
 unfold aJ; omega
end
end
end Go.Proofs.YtcoejkiaokbmpaaGreatDoor
