/-
 The statement raceTimes_said, part 4 of 8: Short, Grow, Global, RunA, Tab, Run, Comp, Ret, LoopK, MapK, Watch, Passes, Keys, MapR, RangeG, Nest, WMaps, WBounds, PassG, Drop, Spot, First, Line, Wrap, Goes, OpenW, Wheres, LineR, Race, RaceS, Vals, RaceO, Ord, Rev, RaceV, RankP, BoolC, RaceR, MapD.
 Conditions: none.
-/
import Derived.Test.YtcoejkiaokbmpaaGreatDoorTm1
import Derived.Test.YtcoejkiaokbmpaaGreatDoorTm2
import Derived.Test.YtcoejkiaokbmpaaGreatDoorTm3
import Derived.Test.YtcoejkiaokbmpaaGreatDoorProg
import Derived.KernelRfl
import Derived.WideKeyRuns
namespace Go.Proofs.YtcoejkiaokbmpaaGreatDoor
set_option maxRecDepth 100000
set_option maxHeartbeats 4000000
set_option linter.unusedVariables false
section
open Go.RowKit
/-- an operation that hands v to its slot d -/
structure SE (E:eB) (ops:Array Oper) (o:Oper) (D:List Deferred) (L:List (Nat×Value)) (C:List ao) (v:Value) (d:Nat):Prop where
 h:SD E ops o D L C v
 o:o.dst=some d
 n:Nat.blt d E.n=true
theorem rS {E:eB} {ops:Array Oper} {Q:cM} {o:Oper} {rest:List Oper} {D:List Deferred} {L:List (Nat×Value)} {C:List ao} {v:Value} {d:Nat}
 (h:SE E ops o D L C v d) (k:RJ E ops Q rest D ((d,v)::L) C):RJ E ops Q (o::rest) D L C:=L_ h.h h.o h.n k
theorem dS {E:eB} {ops:Array Oper} {F:List (Nat×Value)→Prop} {o:Oper} {rest:List Oper} {D:List Deferred} {L:List (Nat×Value)} {C:List ao} {v:Value} {d:Nat}
 (h:SE E ops o D L C v d) (k:DJ E ops D C F rest ((d,v)::L)):DJ E ops D C F (o::rest) L:=M8 h.h h.o h.n k
theorem eS {E:eB} {ops:Array Oper} {D:List Deferred} {C' C1:List ao} {F:List (Nat×Value)→Prop} {bs:List Bool} {o:Oper} {l rest:List Oper} {L:List (Nat×Value)} {v:Value} {d:Nat}
 (hl:l=o::rest) (h:SE E ops o D L C' v d) (k:oq E ops D C' C1 F bs rest ((d,v)::L)):oq E ops D C' C1 F (false::bs) l L:=MP h.h hl h.o h.n k
theorem fS {E:eB} {ops:Array Oper} {D:List Deferred} {C' C1:List ao} {F:List (Nat×Value)→Prop} {bs:List Bool} {o:Oper} {l rest:List Oper} {L:List (Nat×Value)} {v:Value} {d:Nat}
 (hl:l=o::rest) (h:SE E ops o D L C1 v d) (k:oq E ops D C' C1 F bs rest ((d,v)::L)):oq E ops D C' C1 F (true::bs) l L:=M_ h.h hl h.o h.n k
def gB (n:Nat) (ops:Array Oper) (L:List (Nat×Value)) (d:Nat) (g:Option (Nat×Bool)):Bool:=jc ops L g&&Nat.blt d n
theorem I9 {n:Nat} {ops:Array Oper} {L:List (Nat×Value)} {d:Nat} {g:Option (Nat×Bool)} (h:gB n ops L d g=true):jc ops L g=true:=by
 unfold gB at h; rw [cx] at h; exact h.1
theorem I1 {n:Nat} {ops:Array Oper} {L:List (Nat×Value)} {d:Nat} {g:Option (Nat×Bool)} (h:gB n ops L d g=true):Nat.blt d n=true:=by
 unfold gB at h; rw [cx] at h; exact h.2
def vF (n:Nat) (ops:Array Oper) (L:List (Nat×Value)) (d:Nat) (g:Option (Nat×Bool)) (x:Operand):Option Value:=match gB n ops L d g with
 |true=>ev L x
 |false=>none
def bF (n:Nat) (ops:Array Oper) (L:List (Nat×Value)) (d:Nat) (g:Option (Nat×Bool)) (x y:Operand):Option (Value×Value):=match gB n ops L d g with
 |true=>match ev L x,ev L y with
  |some u,some v=>some (u,v)
  |_,_=>none
 |false=>none
def pF (n:Nat) (ops:Array Oper) (L:List (Nat×Value)) (d:Nat) (g:Option (Nat×Bool)) (c x y:Operand):Option Value:=match gB n ops L d g with
 |true=>match ev L c with
  |some (.bool true)=>ev L x
  |some (.bool false)=>ev L y
  |_=>none
 |false=>none
def xF (n:Nat) (ops:Array Oper) (L:List (Nat×Value)) (d:Nat) (g:Option (Nat×Bool)) (x:Operand) (i:Nat):Option Value:=match vF n ops L d g x with
 |some (.tuple vs)=>vs.toList[i]?
 |_=>none
def uF (n:Nat) (ops:Array Oper) (L:List (Nat×Value)) (d:Nat) (g:Option (Nat×Bool)) (xs ys:List Operand):Option (List Value×List Value):=match gB n ops L d g with
 |true=>match evs L xs,evs L ys with
  |some u,some v=>some (u,v)
  |_,_=>none
 |false=>none
def cF (n:Nat) (ops:Array Oper) (L:List (Nat×Value)) (d:Nat) (g:Option (Nat×Bool)) (fop:Operand) (xs:List Operand):Option (FuncId×List Value):=match gB n ops L d g with
 |true=>match ev L fop,evs L xs with
  |some (.func (.func f) fi ca),some vs=>some (f,fi.toList++vs++ca.toList)
  |_,_=>none
 |false=>none
theorem hZ {n:Nat} {ops:Array Oper} {L:List (Nat×Value)} {d:Nat} {g:Option (Nat×Bool)} {x:Operand} {v:Value} (h:vF n ops L d g x=some v):jc ops L g=true∧Nat.blt d n=true∧ev L x=some v:=by
 unfold vF at h
 split at h
 ·rename_i hb; exact ⟨I9 hb,I1 hb,h⟩
 ·cases h
theorem pX {n:Nat} {ops:Array Oper} {L:List (Nat×Value)} {d:Nat} {g:Option (Nat×Bool)} {x y:Operand} {u v:Value} (h:bF n ops L d g x y=some (u,v)):jc ops L g=true∧Nat.blt d n=true∧ev L x=some u∧ev L y=some v:=by
 unfold bF at h
 split at h
 ·rename_i hb
  split at h
  ·rename_i hx hy; cases h; exact ⟨I9 hb,I1 hb,hx,hy⟩
  ·cases h
 ·cases h
theorem Kr {n:Nat} {ops:Array Oper} {L:List (Nat×Value)} {d:Nat} {g:Option (Nat×Bool)} {x y:List Operand} {u v:List Value} (h:uF n ops L d g x y=some (u,v)):jc ops L g=true∧Nat.blt d n=true∧evs L x=some u∧evs L y=some v:=by
 unfold uF at h
 split at h
 ·rename_i hb
  split at h
  ·rename_i hx hy; cases h; exact ⟨I9 hb,I1 hb,hx,hy⟩
  ·cases h
 ·cases h
section
variable {E:eB} {ops:Array Oper} {Q:cM} {rest:List Oper} {D:List Deferred} {L:List (Nat×Value)} {C:List ao}
variable {d:Nat} {ty:TypeId} {ps:String} {af:Array Edge} {g:Option (Nat×Bool)}
theorem SX {o:Oper} {v:Value} (h:SD E ops o D L C v) (ho:o.dst=some d) (hd:Nat.blt d E.n=true):SE E ops o D L C v d:=⟨h,ho,hd⟩
theorem MV {x:Operand} {v:Value} (h:vF E.n ops L d g x=some v):SE E ops ⟨some d,.move x,ty,ps,af,g⟩ D L C v d:=by
 obtain ⟨A,B,F⟩:=hZ h; exact ⟨BX A F,rfl,B⟩
theorem AG {x:Operand} {v:Value} (h:vF E.n ops L d g x=some v):SE E ops ⟨some d,.assign x,ty,ps,af,g⟩ D L C v d:=by
 obtain ⟨A,B,F⟩:=hZ h; exact ⟨wH A F,rfl,B⟩
theorem OX {op:Op} (h:(zH ops L g&&Nat.blt d E.n)=true):SE E ops ⟨some d,op,ty,ps,af,g⟩ D L C undef d:=by
 rw [cx] at h; exact ⟨G0 h.1,rfl,h.2⟩
theorem NT {xt:TypeId} {x:Operand} {b:Bool} (h:vF E.n ops L d g x=some (.bool b)):SE E ops ⟨some d,.unOp .not xt x,ty,ps,af,g⟩ D L C (.bool !b) d:=by
 obtain ⟨A,B,F⟩:=hZ h; exact ⟨FO A F,rfl,B⟩
theorem NG {xt:TypeId} {x:Operand} {n:Int} (h:vF E.n ops L d g x=some (.int .i64 n)) (hb:ot (-n)):SE E ops ⟨some d,.unOp .neg xt x,ty,ps,af,g⟩ D L C (.int .i64 (-n)) d:=by
 obtain ⟨A,B,F⟩:=hZ h; exact ⟨Kq A F hb,rfl,B⟩
theorem PK {c x y:Operand} {v:Value} (h:pF E.n ops L d g c x y=some v):SE E ops ⟨some d,.pick c x y,ty,ps,af,g⟩ D L C v d:=by
 unfold pF at h
 split at h
 ·rename_i hb
  split at h
  ·rename_i hc; exact ⟨wc (I9 hb) hc h,rfl,I1 hb⟩
  ·rename_i hc; exact ⟨wk (I9 hb) hc h,rfl,I1 hb⟩
  ·cases h
 ·cases h
theorem EX {x:Operand} {i:Nat} {v:Value} (h:xF E.n ops L d g x i=some v):SE E ops ⟨some d,.extract x i,ty,ps,af,g⟩ D L C v d:=by
 unfold xF at h
 split at h
 ·rename_i vs hv
  obtain ⟨A,B,F⟩:=hZ hv
  exact ⟨tI (vs:=vs.toList) A (by simpa using F) h,U,B⟩
 ·cases h
theorem LN {x:Operand} {t e:TypeId} {A:OA} {n c:Nat} (h:vF E.n ops L d g x=some (.slice A n c)) (ht:E.P.underlying t=some (.slice e)):
 SE E ops ⟨some d,.call {callee:= .builtin .len,args:= #[x],argTypes:= #[t]},ty,ps,af,g⟩ D L C (.int .i64 n) d:=by
 obtain ⟨B,F,G⟩:=hZ h; exact ⟨Gh B G ht,rfl,F⟩
theorem BI {op:BinOp} {xt yt:TypeId} {x y:Operand} {u v r:Value} (h:bF E.n ops L d g x y=some (u,v)) (hb:fG E.P op xt x y u v r):SE E ops ⟨some d,.binOp op xt x y yt,ty,ps,af,g⟩ D L C r d:=by
 obtain ⟨A,B,F,G⟩:=pX h; exact ⟨dG A F G hb,rfl,B⟩
theorem MN {x y:Operand} {ts:Array TypeId} {a b:Int} {k:IntKind} (h:bF E.n ops L d g x y=some (.int k a,.int k b)):
 SE E ops ⟨some d,.call {callee:= .builtin .min,args:= #[x,y],argTypes:=ts},ty,ps,af,g⟩ D L C (.int k (min a b)) d:=by
 obtain ⟨A,B,F,G⟩:=pX h; exact ⟨K7 A F G,rfl,B⟩
theorem MX {x y:Operand} {ts:Array TypeId} {a b:Int} {k:IntKind} (h:bF E.n ops L d g x y=some (.int k a,.int k b)):
 SE E ops ⟨some d,.call {callee:= .builtin .max,args:= #[x,y],argTypes:=ts},ty,ps,af,g⟩ D L C (.int k (max a b)) d:=by
 obtain ⟨A,B,F,G⟩:=pX h; exact ⟨K3 A F G,rfl,B⟩
theorem FA (o':Nat) {x:Operand} {b o s f k:Nat} (h:vF E.n ops L d g x=some (.pointer (some ⟨b,o,none⟩))) (hf:q_ E.P s f=some k) (ho:o+k=o'):
 SE E ops ⟨some d,.fieldAddr s x f,ty,ps,af,g⟩ D L C (.pointer (some ⟨b,o',none⟩)) d:=by
 obtain ⟨A,B,F⟩:=hZ h; exact ⟨IY A F hf ho,rfl,B⟩
theorem mF (k':Nat) {x:Operand} {A:OA} {n sz:Nat} {es:List (List Value)} {k0 s f k:Nat} (h:vF E.n ops L d g x=some (.pointer (oo A k0))) (hR:fR C (rd A n sz es).holds) (hn:0<n*sz)
 (hf:q_ E.P s f=some k) (ho:k0+k=k'):SE E ops ⟨some d,.fieldAddr s x f,ty,ps,af,g⟩ D L C (.pointer (oo A k')) d:=by
 obtain ⟨B,F,G⟩:=hZ h; exact ⟨Fu B G hR hn hf ho,rfl,F⟩
theorem IA (k:Nat) {x ix:Operand} {A:OA} {n c sz e t:Nat} {es:List (List Value)} {j:Int} (h:bF E.n ops L d g x ix=some (.slice A n c,.int .i64 j)) (hR:fR C (rd A n sz es).holds)
 (ht:tE E.P t=some (e,sz)) (hz:0<sz) (hj:j=(k:Int)) (hk:k<n):SE E ops ⟨some d,.indexAddr t x ix,ty,ps,af,g⟩ D L C (.pointer (oo A (k*sz))) d:=by
 obtain ⟨B,F,G,H⟩:=pX h; exact ⟨Na B G H hR ht hz hj hk,rfl,F⟩
theorem Pt (k o':Nat) {x ix:Operand} {b o n c sz e t:Nat} {j:Int} (h:bF E.n ops L d g x ix=some (.slice (some ⟨b,o,none⟩) n c,.int .i64 j))
 (ht:tE E.P t=some (e,sz)) (hj:j=(k:Int)) (hk:k<n) (ho:o+k*sz=o'):SE E ops ⟨some d,.indexAddr t x ix,ty,ps,af,g⟩ D L C (.pointer (some ⟨b,o',none⟩)) d:=by
 obtain ⟨A,B,F,G⟩:=pX h; exact ⟨HJ A F G ht hj hk ho,rfl,B⟩
/-- the whole of a block, a part of it, one cell -/
theorem LW (i:Nat) {x:Operand} {b t tt n:Nat} {cs:List Value} (h:vF E.n ops L d g x=some (.pointer (some ⟨b,0,none⟩))) (ht:tK E.P t=some (true,n)) (hC:C[i]? =some (cd b tt cs)) (hn:cs.length=n):
 SE E ops ⟨some d,.load t x,ty,ps,af,g⟩ D L C (.agg cs.toArray) d:=by
 obtain ⟨A,B,F⟩:=hZ h; exact ⟨uL A F ht (nz i hC sm) hn,rfl,B⟩
theorem LP (vs:List Value) (i:Nat) {x:Operand} {b o t tt n:Nat} {cs:List Value} (h:vF E.n ops L d g x=some (.pointer (some ⟨b,o,none⟩))) (ht:tK E.P t=some (true,n)) (hC:C[i]? =some (cd b tt cs)) (hv:(cs.drop o).take vs.length=vs) (hn:vs.length=n):
 SE E ops ⟨some d,.load t x,ty,ps,af,g⟩ D L C (.agg vs.toArray) d:=by
 obtain ⟨A,B,F⟩:=hZ h; exact ⟨uL A F ht (nz i hC hv) hn,rfl,B⟩
theorem PJ (vs:List Value) (i:Nat) {x:Operand} {b o t tt n:Nat} {cs:List Value} (h:vF E.n ops L d g x=some (.pointer (some ⟨b,o,none⟩))) (ht:tK E.P t=some (true,n)) (hC:C[i]? =some (cd b tt cs).ro) (hv:(cs.drop o).take vs.length=vs) (hn:vs.length=n):
 SE E ops ⟨some d,.load t x,ty,ps,af,g⟩ D L C (.agg vs.toArray) d:=by
 obtain ⟨A,B,F⟩:=hZ h; exact ⟨uL A F ht (tw i hC hv) hn,rfl,B⟩
theorem L1 (v:Value) (i:Nat) {x:Operand} {b o t tt n:Nat} {cs:List Value} (h:vF E.n ops L d g x=some (.pointer (some ⟨b,o,none⟩))) (ht:tK E.P t=some (false,n)) (hC:C[i]? =some (cd b tt cs)) (hv:(cs.drop o).take 1=[v]):
 SE E ops ⟨some d,.load t x,ty,ps,af,g⟩ D L C v d:=by
 obtain ⟨A,B,F⟩:=hZ h; exact ⟨rn A F ht (nz i hC hv),rfl,B⟩
theorem FC (v:Value) (i:Nat) {x:Operand} {b o t tt n:Nat} {cs:List Value} (h:vF E.n ops L d g x=some (.pointer (some ⟨b,o,none⟩))) (ht:tK E.P t=some (false,n)) (hC:C[i]? =some (cd b tt cs).ro) (hv:(cs.drop o).take 1=[v]):
 SE E ops ⟨some d,.load t x,ty,ps,af,g⟩ D L C v d:=by
 obtain ⟨A,B,F⟩:=hZ h; exact ⟨rn A F ht (tw i hC hv),rfl,B⟩
theorem Bo (i:Nat) {x:Operand} {b t tt n:Nat} {v:Value} (h:vF E.n ops L d g x=some (.pointer (some ⟨b,0,none⟩))) (ht:tK E.P t=some (false,n)) (hC:C[i]? =some (cd b tt [v])):
 SE E ops ⟨some d,.load t x,ty,ps,af,g⟩ D L C v d:=by
 obtain ⟨A,B,F⟩:=hZ h; exact ⟨rn A F ht (nz i hC rfl),rfl,B⟩
theorem Pp (i:Nat) {x:Operand} {b t tt n:Nat} {v:Value} (h:vF E.n ops L d g x=some (.pointer (some ⟨b,0,none⟩))) (ht:tK E.P t=some (false,n)) (hC:C[i]? =some (cd b tt [v]).ro):
 SE E ops ⟨some d,.load t x,ty,ps,af,g⟩ D L C v d:=by
 obtain ⟨A,B,F⟩:=hZ h; exact ⟨rn A F ht (tw i hC rfl),rfl,B⟩
/-- what is read of a row -/
theorem fE (k o:Nat) (v:Value) {x:Operand} {A:OA} {t m n sz:Nat} {es:List (List Value)} {e:List Value} (h:vF E.n ops L d g x=some (.pointer (oo A m))) {nn:Nat} (ht:tK E.P t=some (false,nn)) (hR:fR C (rd A n sz es).holds) (he:es[k]? =some e) (hm:m=k*sz+o) (hz:0<sz) (hv:(e.drop o).take 1=[v]):
 SE E ops ⟨some d,.load t x,ty,ps,af,g⟩ D L C v d:=by
 obtain ⟨B,F,G⟩:=hZ h; exact ⟨rn B G ht (Jn hR he hm hz hv),rfl,F⟩
theorem j0 (k o:Nat) (vs:List Value) {x:Operand} {A:OA} {t m n sz:Nat} {es:List (List Value)} {e:List Value} (h:vF E.n ops L d g x=some (.pointer (oo A m))) {nn:Nat} (ht:tK E.P t=some (true,nn)) (hR:fR C (rd A n sz es).holds) (he:es[k]? =some e) (hm:m=k*sz+o) (hz:0<sz) (hv:(e.drop o).take vs.length=vs) (hn:vs.length=nn):
 SE E ops ⟨some d,.load t x,ty,ps,af,g⟩ D L C (.agg vs.toArray) d:=by
 obtain ⟨B,F,G⟩:=hZ h; exact ⟨uL B G ht (Jn hR he hm hz hv) hn,rfl,F⟩
theorem CL {fop:Operand} {xs:Array Operand} {ts:Array TypeId} {f:FuncId} {args:List Value} {Cp:List ao} {v:Value} (c:dL E.P f args Cp v) (hC:jf C Cp) (h:cF E.n ops L d g fop xs.toList=some (f,args)):
 SE E ops ⟨some d,.call {callee:= .value fop,args:=xs,argTypes:=ts},ty,ps,af,g⟩ D L C v d:=by
 unfold cF at h
 split at h
 ·rename_i hb
  split at h
  ·rename_i hf hx; cases h; exact ⟨BF (I9 hb) hf hx rfl c hC,rfl,I1 hb⟩
  ·cases h
 ·cases h
theorem FU {fn:Fn} {xs ys:Array Operand} {us vs:List Value} (h:uF E.n ops L d g xs.toList ys.toList=some (us,vs)):SE E ops ⟨some d,.makeFunc fn xs ys,ty,ps,af,g⟩ D L C (.func fn us.toArray vs.toArray) d:=by
 obtain ⟨A,B,F,G⟩:=Kr h; exact ⟨HZ A F G,rfl,B⟩
theorem cX {fop:Operand} {xs:Array Operand} {ts:Array TypeId} {f:FuncId} {args:List Value} {Cp:List ao} {α:Type} {V:α→Value} {p:α→Prop} {N:α→List ao} (c:pH E.P f args Cp V p N) (hC:jf C Cp)
 (h:cF E.n ops L d g fop xs.toList=some (f,args)) (k: ∀ x,p x→RJ E ops Q rest D ((d,V x)::L) (N x++C)):
 RJ E ops Q (⟨some d,.call {callee:= .value fop,args:=xs,argTypes:=ts},ty,ps,af,g⟩::rest) D L C:=by
 unfold cF at h
 split at h
 ·rename_i hb
  split at h
  ·rename_i hf hx; cases h; exact JT (I9 hb) hf hx rfl c hC (I1 hb) k
  ·cases h
 ·cases h
/-- a box of a struct, of one cell -/
theorem eQ {t:TypeId} {x:Operand} {cs:List Value} (h:vF E.n ops L d g x=some (.agg cs.toArray)) (k: ∀ b,RJ E ops Q rest D ((d,.pointer (some ⟨b,0,none⟩))::L) (cd b t cs::C)):
 RJ E ops Q (⟨some d,.box t x,ty,ps,af,g⟩::rest) D L C:=by
 obtain ⟨A,B,F⟩:=hZ h; exact I_ A F rfl B k
theorem xp {t:TypeId} {x:Operand} {v:Value} (h:vF E.n ops L d g x=some v) (hv:v.cells.toList=[v]) (k: ∀ b,RJ E ops Q rest D ((d,.pointer (some ⟨b,0,none⟩))::L) (cd b t [v]::C)):
 RJ E ops Q (⟨some d,.box t x,ty,ps,af,g⟩::rest) D L C:=by
 obtain ⟨A,B,F⟩:=hZ h; exact I_ A F hv B k
theorem AL {t:TypeId} {cs:List Value} (h:gB E.n ops L d g=true) (hz:tZ E.P t=some cs) (k: ∀ b,RJ E ops Q rest D ((d,.pointer (some ⟨b,0,none⟩))::L) (cd b t cs::C)):
 RJ E ops Q (⟨some d,.alloc t,ty,ps,af,g⟩::rest) D L C:=Hm (I9 h) hz (I1 h) k
/-- a store into the block at the place i of the state -/
def sF (ops:Array Oper) (L:List (Nat×Value)) (g:Option (Nat×Bool)) (x y:Operand):Option (Value×Value):=match jc ops L g with
 |true=>match ev L x,ev L y with
  |some u,some v=>some (u,v)
  |_,_=>none
 |false=>none
theorem z6 {ops:Array Oper} {L:List (Nat×Value)} {g:Option (Nat×Bool)} {x y:Operand} {u v:Value} (h:sF ops L g x y=some (u,v)):jc ops L g=true∧ev L x=some u∧ev L y=some v:=by
 unfold sF at h
 split at h
 ·rename_i hb
  split at h
  ·rename_i hx hy; cases h; exact ⟨hb,hx,hy⟩
  ·cases h
 ·cases h
theorem Lf {t n b o tt:Nat} {x y:Operand} {v:Value} {cs cs':List Value} {C':List ao} (i:Nat) (h:sF ops L g x y=some (.pointer (some ⟨b,o,none⟩),v)) (ht:(tK E.P t).map (·.2)=some n) (hC:C[i]? =some (cd b tt cs))
 (hk:(v.cells.toList.length==n&&v.cells.toList.all Value.oneCell'&&Nat.ble (o+n) cs.length)=true) (hcs:cs.take o++v.cells.toList++cs.drop (o+n)=cs') (hC':C.set i (cd b tt cs')=C') (k:RJ E ops Q rest D L C'):
 RJ E ops Q (⟨none,.store t x y,ty,ps,af,g⟩::rest) D L C:=by
 obtain ⟨A,B,F⟩:=z6 h
 simp only [cx,beq_iff_eq] at hk
 exact hO i A B F ht U hk.1.1 hk.1.2 hC hk.2 hcs hC' k
/-- a store of a whole block, by a struct, by one cell -/
theorem Kz {t n b tt:Nat} {x y:Operand} {cs cs':List Value} {C':List ao} (i:Nat) (h:sF ops L g x y=some (.pointer (some ⟨b,0,none⟩),.agg cs'.toArray)) (ht:(tK E.P t).map (·.2)=some n) (hC:C[i]? =some (cd b tt cs))
 (hk:(Nat.beq cs'.length n&&cs'.all Value.oneCell'&&Nat.beq n cs.length)=true) (hC':C.set i (cd b tt cs')=C') (k:RJ E ops Q rest D L C'):
 RJ E ops Q (⟨none,.store t x y,ty,ps,af,g⟩::rest) D L C:=by
 obtain ⟨AA,J,K⟩:=z6 h
 simp only [cx] at hk
 obtain ⟨⟨A,B⟩,F⟩:=hk
 have H:=Nat.eq_of_beq_eq_true A
 have G:=Nat.eq_of_beq_eq_true F
 exact hO i AA J K ht U H B hC (by rw [Nat.zero_add,G]; exact Nat.ble_self_eq_true _) (by rw [Nat.zero_add,G,List.take_zero,List.drop_length]; show []++cs'++[]=cs'; simp) hC' k
theorem OP {t n b tt:Nat} {x y:Operand} {v u:Value} {C':List ao} (i:Nat) (h:sF ops L g x y=some (.pointer (some ⟨b,0,none⟩),v)) (ht:(tK E.P t).map (·.2)=some n) (hC:C[i]? =some (cd b tt [u]))
 (hv:v.cells.toList=[v]) (hk:(Nat.beq n 1&&v.oneCell')=true) (hC':C.set i (cd b tt [v])=C') (k:RJ E ops Q rest D L C'):
 RJ E ops Q (⟨none,.store t x y,ty,ps,af,g⟩::rest) D L C:=by
 obtain ⟨G,H,AA⟩:=z6 h
 rw [cx] at hk
 obtain ⟨A,B⟩:=hk
 have F:=Nat.eq_of_beq_eq_true A
 subst F
 exact hO i G H AA ht hv U (by simp [B]) hC U U hC' k
theorem fg {t n b tt:Nat} {x y:Operand} {cs cs':List Value} (h:sF ops L g x y=some (.pointer (some ⟨b,0,none⟩),.agg cs'.toArray)) (ht:(tK E.P t).map (·.2)=some n) (hk:(Nat.beq cs'.length n&&cs'.all Value.oneCell'&&Nat.beq n cs.length)=true) (k:RJ E ops Q rest D L (cd b tt cs'::C)):RJ E ops Q (⟨none,.store t x y,ty,ps,af,g⟩::rest) D L (cd b tt cs::C):=Kz 0 h ht rfl hk rfl k
theorem Ha {t n b tt:Nat} {x y:Operand} {v u:Value} (h:sF ops L g x y=some (.pointer (some ⟨b,0,none⟩),v)) (ht:(tK E.P t).map (·.2)=some n) (hv:v.cells.toList=[v]) (hk:(Nat.beq n 1&&v.oneCell')=true) (k:RJ E ops Q rest D L (cd b tt [v]::C)):RJ E ops Q (⟨none,.store t x y,ty,ps,af,g⟩::rest) D L (cd b tt [u]::C):=OP 0 h ht rfl hv hk rfl k
theorem qf {t n b tt:Nat} {x y:Operand} {cs cs':List Value} {A0:ao} (h:sF ops L g x y=some (.pointer (some ⟨b,0,none⟩),.agg cs'.toArray)) (ht:(tK E.P t).map (·.2)=some n) (hk:(Nat.beq cs'.length n&&cs'.all Value.oneCell'&&Nat.beq n cs.length)=true) (k:RJ E ops Q rest D L (A0::cd b tt cs'::C)):RJ E ops Q (⟨none,.store t x y,ty,ps,af,g⟩::rest) D L (A0::cd b tt cs::C):=Kz 1 h ht rfl hk rfl k
theorem zO {t n b tt:Nat} {x y:Operand} {cs cs':List Value} {A0 A1:ao} (h:sF ops L g x y=some (.pointer (some ⟨b,0,none⟩),.agg cs'.toArray)) (ht:(tK E.P t).map (·.2)=some n) (hk:(Nat.beq cs'.length n&&cs'.all Value.oneCell'&&Nat.beq n cs.length)=true) (k:RJ E ops Q rest D L (A0::A1::cd b tt cs'::C)):RJ E ops Q (⟨none,.store t x y,ty,ps,af,g⟩::rest) D L (A0::A1::cd b tt cs::C):=Kz 2 h ht rfl hk rfl k
theorem Pb (cs':List Value) {t n b o tt:Nat} {x y:Operand} {v:Value} {cs:List Value} {A0 A1:ao} (h:sF ops L g x y=some (.pointer (some ⟨b,o,none⟩),v)) (ht:(tK E.P t).map (·.2)=some n) (hk:(v.cells.toList.length==n&&v.cells.toList.all Value.oneCell'&&Nat.ble (o+n) cs.length)=true) (hcs:cs.take o++v.cells.toList++cs.drop (o+n)=cs') (k:RJ E ops Q rest D L (A0::A1::cd b tt cs'::C)):RJ E ops Q (⟨none,.store t x y,ty,ps,af,g⟩::rest) D L (A0::A1::cd b tt cs::C):=Lf 2 h ht rfl hk hcs rfl k
theorem Ll {t n b tt:Nat} {x y:Operand} {cs cs':List Value} {A0 A1 A2:ao} (h:sF ops L g x y=some (.pointer (some ⟨b,0,none⟩),.agg cs'.toArray)) (ht:(tK E.P t).map (·.2)=some n) (hk:(Nat.beq cs'.length n&&cs'.all Value.oneCell'&&Nat.beq n cs.length)=true) (k:RJ E ops Q rest D L (A0::A1::A2::cd b tt cs'::C)):RJ E ops Q (⟨none,.store t x y,ty,ps,af,g⟩::rest) D L (A0::A1::A2::cd b tt cs::C):=Kz 3 h ht rfl hk rfl k
theorem PH {t n b tt:Nat} {x y:Operand} {v u:Value} {A0 A1 A2:ao} (h:sF ops L g x y=some (.pointer (some ⟨b,0,none⟩),v)) (ht:(tK E.P t).map (·.2)=some n) (hv:v.cells.toList=[v]) (hk:(Nat.beq n 1&&v.oneCell')=true) (k:RJ E ops Q rest D L (A0::A1::A2::cd b tt [v]::C)):RJ E ops Q (⟨none,.store t x y,ty,ps,af,g⟩::rest) D L (A0::A1::A2::cd b tt [u]::C):=OP 3 h ht rfl hv hk rfl k
theorem KB (cs':List Value) {t n b o tt:Nat} {x y:Operand} {v:Value} {cs:List Value} {A0 A1 A2:ao} (h:sF ops L g x y=some (.pointer (some ⟨b,o,none⟩),v)) (ht:(tK E.P t).map (·.2)=some n) (hk:(v.cells.toList.length==n&&v.cells.toList.all Value.oneCell'&&Nat.ble (o+n) cs.length)=true) (hcs:cs.take o++v.cells.toList++cs.drop (o+n)=cs') (k:RJ E ops Q rest D L (A0::A1::A2::cd b tt cs'::C)):RJ E ops Q (⟨none,.store t x y,ty,ps,af,g⟩::rest) D L (A0::A1::A2::cd b tt cs::C):=Lf 3 h ht rfl hk hcs rfl k
theorem Nh {t n b tt:Nat} {x y:Operand} {cs cs':List Value} {A0 A1 A2 A3:ao} (h:sF ops L g x y=some (.pointer (some ⟨b,0,none⟩),.agg cs'.toArray)) (ht:(tK E.P t).map (·.2)=some n) (hk:(Nat.beq cs'.length n&&cs'.all Value.oneCell'&&Nat.beq n cs.length)=true) (k:RJ E ops Q rest D L (A0::A1::A2::A3::cd b tt cs'::C)):RJ E ops Q (⟨none,.store t x y,ty,ps,af,g⟩::rest) D L (A0::A1::A2::A3::cd b tt cs::C):=Kz 4 h ht rfl hk rfl k
theorem Ec {t n b tt:Nat} {x y:Operand} {cs cs':List Value} {A0 A1 A2 A3 A4:ao} (h:sF ops L g x y=some (.pointer (some ⟨b,0,none⟩),.agg cs'.toArray)) (ht:(tK E.P t).map (·.2)=some n) (hk:(Nat.beq cs'.length n&&cs'.all Value.oneCell'&&Nat.beq n cs.length)=true) (k:RJ E ops Q rest D L (A0::A1::A2::A3::A4::cd b tt cs'::C)):RJ E ops Q (⟨none,.store t x y,ty,ps,af,g⟩::rest) D L (A0::A1::A2::A3::A4::cd b tt cs::C):=Kz 5 h ht rfl hk rfl k
theorem Pz (cs':List Value) {t n b o tt:Nat} {x y:Operand} {v:Value} {cs:List Value} {A0 A1 A2 A3 A4:ao} (h:sF ops L g x y=some (.pointer (some ⟨b,o,none⟩),v)) (ht:(tK E.P t).map (·.2)=some n) (hk:(v.cells.toList.length==n&&v.cells.toList.all Value.oneCell'&&Nat.ble (o+n) cs.length)=true) (hcs:cs.take o++v.cells.toList++cs.drop (o+n)=cs') (k:RJ E ops Q rest D L (A0::A1::A2::A3::A4::cd b tt cs'::C)):RJ E ops Q (⟨none,.store t x y,ty,ps,af,g⟩::rest) D L (A0::A1::A2::A3::A4::cd b tt cs::C):=Lf 5 h ht rfl hk hcs rfl k
theorem Hu {t n b tt:Nat} {x y:Operand} {cs cs':List Value} {A0 A1 A2 A3 A4 A5:ao} (h:sF ops L g x y=some (.pointer (some ⟨b,0,none⟩),.agg cs'.toArray)) (ht:(tK E.P t).map (·.2)=some n) (hk:(Nat.beq cs'.length n&&cs'.all Value.oneCell'&&Nat.beq n cs.length)=true) (k:RJ E ops Q rest D L (A0::A1::A2::A3::A4::A5::cd b tt cs'::C)):RJ E ops Q (⟨none,.store t x y,ty,ps,af,g⟩::rest) D L (A0::A1::A2::A3::A4::A5::cd b tt cs::C):=Kz 6 h ht rfl hk rfl k
theorem PI {t n b tt:Nat} {x y:Operand} {v u:Value} {A0 A1 A2 A3 A4 A5:ao} (h:sF ops L g x y=some (.pointer (some ⟨b,0,none⟩),v)) (ht:(tK E.P t).map (·.2)=some n) (hv:v.cells.toList=[v]) (hk:(Nat.beq n 1&&v.oneCell')=true) (k:RJ E ops Q rest D L (A0::A1::A2::A3::A4::A5::cd b tt [v]::C)):RJ E ops Q (⟨none,.store t x y,ty,ps,af,g⟩::rest) D L (A0::A1::A2::A3::A4::A5::cd b tt [u]::C):=OP 6 h ht rfl hv hk rfl k
theorem PG (cs':List Value) {t n b o tt:Nat} {x y:Operand} {v:Value} {cs:List Value} {A0 A1 A2 A3 A4 A5:ao} (h:sF ops L g x y=some (.pointer (some ⟨b,o,none⟩),v)) (ht:(tK E.P t).map (·.2)=some n) (hk:(v.cells.toList.length==n&&v.cells.toList.all Value.oneCell'&&Nat.ble (o+n) cs.length)=true) (hcs:cs.take o++v.cells.toList++cs.drop (o+n)=cs') (k:RJ E ops Q rest D L (A0::A1::A2::A3::A4::A5::cd b tt cs'::C)):RJ E ops Q (⟨none,.store t x y,ty,ps,af,g⟩::rest) D L (A0::A1::A2::A3::A4::A5::cd b tt cs::C):=Lf 6 h ht rfl hk hcs rfl k
theorem PD (cs':List Value) {t n b o tt:Nat} {x y:Operand} {v:Value} {cs:List Value} {A0 A1 A2 A3 A4 A5 A6:ao} (h:sF ops L g x y=some (.pointer (some ⟨b,o,none⟩),v)) (ht:(tK E.P t).map (·.2)=some n) (hk:(v.cells.toList.length==n&&v.cells.toList.all Value.oneCell'&&Nat.ble (o+n) cs.length)=true) (hcs:cs.take o++v.cells.toList++cs.drop (o+n)=cs') (k:RJ E ops Q rest D L (A0::A1::A2::A3::A4::A5::A6::cd b tt cs'::C)):RJ E ops Q (⟨none,.store t x y,ty,ps,af,g⟩::rest) D L (A0::A1::A2::A3::A4::A5::A6::cd b tt cs::C):=Lf 7 h ht rfl hk hcs rfl k
theorem PF (cs':List Value) {t n b o tt:Nat} {x y:Operand} {v:Value} {cs:List Value} {A0 A1 A2 A3 A4 A5 A6 A7:ao} (h:sF ops L g x y=some (.pointer (some ⟨b,o,none⟩),v)) (ht:(tK E.P t).map (·.2)=some n) (hk:(v.cells.toList.length==n&&v.cells.toList.all Value.oneCell'&&Nat.ble (o+n) cs.length)=true) (hcs:cs.take o++v.cells.toList++cs.drop (o+n)=cs') (k:RJ E ops Q rest D L (A0::A1::A2::A3::A4::A5::A6::A7::cd b tt cs'::C)):RJ E ops Q (⟨none,.store t x y,ty,ps,af,g⟩::rest) D L (A0::A1::A2::A3::A4::A5::A6::A7::cd b tt cs::C):=Lf 8 h ht rfl hk hcs rfl k
theorem Od (cs':List Value) {t n b o tt:Nat} {x y:Operand} {v:Value} {cs:List Value} {A0 A1 A2 A3 A4 A5 A6 A7 A8 A9:ao} (h:sF ops L g x y=some (.pointer (some ⟨b,o,none⟩),v)) (ht:(tK E.P t).map (·.2)=some n) (hk:(v.cells.toList.length==n&&v.cells.toList.all Value.oneCell'&&Nat.ble (o+n) cs.length)=true) (hcs:cs.take o++v.cells.toList++cs.drop (o+n)=cs') (k:RJ E ops Q rest D L (A0::A1::A2::A3::A4::A5::A6::A7::A8::A9::cd b tt cs'::C)):RJ E ops Q (⟨none,.store t x y,ty,ps,af,g⟩::rest) D L (A0::A1::A2::A3::A4::A5::A6::A7::A8::A9::cd b tt cs::C):=Lf 10 h ht rfl hk hcs rfl k
end
section
variable {E:eB} {y:Code} {Q:cM} {D:List Deferred} {L:List (Nat×Value)} {C:List ao}
theorem WS {id:Nat} {ops:Array Oper} (h: ∀ K:Act→World→Prop,(∀ D L C,WJ E y Q D L C→KJ E K D L C)→RJ E ops (Exit.then K Q) ops.toList D L C):WJ E (.seq (.region id ops false) y) Q D L C:=ai fun K hK=>ak (h K hK)
theorem RK {ops:Array Oper} {K:Act→World→Prop} {Q':cM} (hK: ∀ D L C,WJ E y Q D L C→KJ E K D L C) (k:WJ E y Q D L C):RJ E ops (Exit.then K Q') [] D L C:=aA (aS (hK _ _ _ k))
theorem KK {K:Act→World→Prop} {Q':cM} (hK: ∀ D L C,WJ E y Q D L C→KJ E K D L C) (k:WJ E y Q D L C):KJ E (Exit.then K Q' .normal) D L C:=aS (hK _ _ _ k)
theorem WK {K:Act→World→Prop} {Q':cM} (hK: ∀ D L C,WJ E y Q D L C→KJ E K D L C) (k:WJ E y Q D L C):WJ E .skip (Exit.then K Q') D L C:=cy (aS (hK _ _ _ k))
end
theorem DT {p:Prop} [Decidable p] (h:decide p=true):p:=of_decide_eq_true h
theorem DF {p:Prop} [Decidable p] (h:decide p=false): ¬ p:=of_decide_eq_false h
theorem XT {p:Prop} [Decidable p] (h:(!decide p)=true): ¬ p:=by simpa using h
theorem XF {p:Prop} [Decidable p] (h:(!decide p)=false):p:=by simpa using h
/-- what a function hands back: one result, two, three, that lie in slots -/
theorem Q1 {E:eB} {fn:Func} {K:Act→World→Prop} {L:List (Nat×Value)} {C:List ao} {t:Nat} {u v:Value} (hQ: ∀ D L C,LJ E fn (Bl E.w0 v) D L C→KJ E K D L C) (hS:E.S=re) (hr:fn.results.toList=[.tmp t]) (hl:L.lookup t=some u) (e:u=v):KJ E K [] L C:=
 hQ _ _ _ (jN (vs:=[u]) (by rw [hr]; exact ⟨hl,trivial⟩) fun w hs=>DV e (by rw [hS] at hs; exact hs))
theorem N1 {E:eB} {ops:Array Oper} {D:List Deferred} {C' C1:List ao} {F:List (Nat×Value)→List ao→Prop} {tb rem:List Nat} {n:Nat} {L:List (Nat×Value)} {C:List ao} (i:Nat)
 (h:zD E ops D C' C1 F tb n (rem.filter (· != i)) i L C) (hm:rem.filter (fun i=>rem.all fun j=> !gv (oi ops) j i)=[i]:=by kernel_rfl):TN E ops D C' C1 F tb (n+1) rem L C:=mD [i] hm (g_ h pP)
theorem NO {E:eB} {ops:Array Oper} {D:List Deferred} {C' C1:List ao} {F:List (Nat×Value)→List ao→Prop} {tb rem:List Nat} {n i:Nat} {L:List (Nat×Value)} {C:List ao} {o:Oper} (ho:ops[i]? =some o) (ht:tb.contains i=false) (rem':List Nat)
 (h: ∀ K:Act→World→Prop,(∀ L' C'',(∀ w,St E.S E.w0 C'' w→St E.S E.w0 C' w)→TN E ops D C' C1 F tb n rem' L' C''→KJ E K D L' C'')→RJ E ops (NQ K) [o] D L C) (hr:rem=rem':=by kernel_rfl):zD E ops D C' C1 F tb n rem i L C:=N6 ho hr ht h
theorem RD {E:eB} {ops:Array Oper} {K:Act→World→Prop} {D:List Deferred} {L:List (Nat×Value)} {C C':List ao} {X:List (Nat×Value)→List ao→Prop} (hT: ∀ L' C'',(∀ w,St E.S E.w0 C'' w→St E.S E.w0 C' w)→X L' C''→KJ E K D L' C'')
 (k:Nat) (h2:C.drop k=C') (h:X L C):RJ E ops (NQ K) [] D L C:=aA (hT _ _ (fun w hs=>h2▸hs.take (List.drop_sublist k C)) h)
theorem aU {L L':List (Nat×Value)} (h:L'.map (fun p=>L.lookup p.1)=L'.map (fun p=>some p.2)):cS L L':=by
 induction L' with
 |nil=>exact cS.nil _
 |cons p t ih=>
  simp only [List.map_cons,List.cons.injEq] at h
  exact cS.cons h.1 (ih h.2)
theorem JV {C:List ao} {A A' B B' D D':ao} (i j k:Nat) (h1:C[i]? =some A') (e1:A'.holds=A.holds) (h2:C[j]? =some B') (e2:B'.holds=B.holds) (h3:C[k]? =some D') (e3:D'.holds=D.holds):jf C [A,B,D]:=fM i h1 e1 (fM j h2 e2 (fM k h3 e3 aR))
theorem bH {E:eB} {c:Operand} {x y:Code} {b:Bool} {Q:cM} {D:List Deferred} {L:List (Nat×Value)} {C:List ao} (hc:ev L c=some (.bool b)) (h2:b=false→WJ E y Q D L C) (h1:b=true→WJ E x Q D L C):WJ E (.cond c x y) Q D L C:=cw hc h1 h2
theorem dY {E:eB} {ops:Array Oper} {Q:cM} {rest:List Oper} {D:List Deferred} {L:List (Nat×Value)} {C:List ao} {t:Nat} {b:Bool} (h:L.lookup t=some (.bool b)) (h2:b=false→RJ E ops Q rest D ((t,.bool false)::L) C) (h1:b=true→RJ E ops Q rest D ((t,.bool true)::L) C):RJ E ops Q rest D L C:=cr h h1 h2
theorem fU {E:eB} {ops:Array Oper} {Q:cM} {rest:List Oper} {D:List Deferred} {L:List (Nat×Value)} {C:List ao} {t:Nat} {b:Bool} {os:List Oper} (h:L.lookup t=some (.bool b)) (h2:b=false→DJ E ops D C (fun L2=>RJ E ops Q rest D L2 C) os ((t,.bool false)::L)) (h1:b=true→DJ E ops D C (fun L2=>RJ E ops Q rest D L2 C) os ((t,.bool true)::L)):DJ E ops D C (fun L2=>RJ E ops Q rest D L2 C) os L:=gX h h1 h2
theorem cE {L:List (Nat×Value)}: ∀ (k:Nat) {L2:List (Nat×Value)} (q:cS L (L2.drop k)) (h:(L2.take k).map (fun p=>L.lookup p.1)=(L2.take k).map (fun p=>some p.2):=by rfl),cS L L2
 |0,_,q,_=>q
 |_+1,[],_,_=>cS.nil _
 |k+1,p::L2,q,h=>by
  obtain ⟨A,B⟩:=List.cons.inj (show L.lookup p.1::(L2.take k).map (fun p=>L.lookup p.1)=some p.2::(L2.take k).map (fun p=>some p.2) from h)
  exact cS.cons (t:=p.1) (v:=p.2) A (cE k q B)
theorem oX {E:eB} {ops:Array Oper} {Q:cM} {rest:List Oper} {D:List Deferred} {L:List (Nat×Value)} {C:List ao} {d:Nat} {ty:TypeId} {ps:String} {af:Array Edge} {g:Option (Nat×Bool)} {op:Op} (k:RJ E ops Q rest D ((d,undef)::L) C) (h:(zH ops L g&&Nat.blt d E.n)=true:=by rfl):RJ E ops Q (⟨some d,op,ty,ps,af,g⟩::rest) D L C:=rS (OX h) k
theorem dX {E:eB} {ops:Array Oper} {F:List (Nat×Value)→Prop} {rest:List Oper} {D:List Deferred} {L:List (Nat×Value)} {C:List ao} {d:Nat} {ty:TypeId} {ps:String} {af:Array Edge} {g:Option (Nat×Bool)} {op:Op} (k:DJ E ops D C F rest ((d,undef)::L)) (h:(zH ops L g&&Nat.blt d E.n)=true:=by rfl):DJ E ops D C F (⟨some d,op,ty,ps,af,g⟩::rest) L:=dS (OX h) k
end
section
open Go.RowKit
/-- what of a slice is left from k on -/
def Ee (A:OA) (c k sz:Nat):OA:=if c=k then A else A.map (·.add (k*sz))
section
variable {E:eB} {ops:Array Oper} {Q:cM} {rest:List Oper} {D:List Deferred} {L:List (Nat×Value)} {C:List ao}
variable {d:Nat} {ty:TypeId} {ps:String} {af:Array Edge} {g:Option (Nat×Bool)}
theorem Ca {P:Program} {t e sz:Nat} (h:tE P t=some (e,sz)) (w:World):P.underlying t=some (.slice e)∧(sizeOf e).run P w= .ok sz w:=by
 unfold tE at h
 split at h
 ·rename_i e' hu
  split at h
  ·rename_i i hi
   cases h
   exact ⟨hu,by simp [sizeOf,typeInfo,hi]⟩
  ·cases h
 ·cases h
theorem tj {P:Program} {t e:Nat} (h:P.underlying t=some (.slice e)):P.underlying t=some (.slice (P.elem t)):=by
 rw [h]; simp [Program.elem,h]
theorem BP {P:Program} {t e:Nat} (h:P.underlying t=some (.slice e)):P.elem t=e:=by simp [Program.elem,h]
/-- s[k:] -/
theorem Py (k:Nat) {x lo:Operand} {t e sz n c:Nat} {A:OA} {j:Int} (h:bF E.n ops L d g x lo=some (.slice A n c,.int .i64 j)) (ht:tE E.P t=some (e,sz)) (hj:j=(k:Int)) (hk:k≤n):
 SE E ops ⟨some d,.slice t x (some lo) none none,ty,ps,af,g⟩ D L C (.slice (Ee A c k sz) (n-k) (c-k)) d:=by
 obtain ⟨G,H,AA,J⟩:=pX h
 subst hj
 refine ⟨dU G sm fun a w B hs=>?_,U,H⟩
 obtain ⟨hu,hz⟩:=Ca ht w
 have hr:=run_slice_l (P:=E.P) w t A n c (tj hu) .i64 (k:Int) I I
 rw [BP hu,hz] at hr
 simp only [Result.andThen,Int.toNat_natCast,sliced] at hr
 have F:=run_sliceAt_slice (P:=E.P) w t (.slice A n c) (some (.int .i64 (k:Int))) none none (tj hu)
 simp [execOp,B.ev AA,B.ev J,F,hr,Ee]
/-- s[:k] -/
theorem NX (k:Nat) {x hi:Operand} {t e sz n c:Nat} {A:OA} {j:Int} (h:bF E.n ops L d g x hi=some (.slice A n c,.int .i64 j)) (ht:tE E.P t=some (e,sz)) (hj:j=(k:Int)) (hk:k≤c):
 SE E ops ⟨some d,.slice t x none (some hi) none,ty,ps,af,g⟩ D L C (.slice A k c) d:=by
 obtain ⟨H,AA,J,K⟩:=pX h
 subst hj
 refine ⟨dU H sm fun a w B hs=>?_,U,AA⟩
 obtain ⟨hu,hz⟩:=Ca ht w
 have hr:=run_slice_h (P:=E.P) w t A n c (tj hu) .i64 (k:Int) I I
 rw [BP hu,hz] at hr
 have G:(if c=0 then A else A.map (·.add (0*sz)))=A:=by
  split
  ·rfl
  ·cases A with
   |none=>rfl
   |some ad=>simp [Addr.add]
 simp only [Result.andThen,Int.toNat_natCast,sliced,G,Nat.sub_zero] at hr
 have F:=run_sliceAt_slice (P:=E.P) w t (.slice A n c) none (some (.int .i64 (k:Int))) none (tj hu)
 simp [execOp,B.ev J,B.ev K,F,hr]
end
theorem Ld {C:List ao} {A:OA} {n c k sz:Nat} {es:List (List Value)} (hR:fR C (rd A n sz es).holds) (hk:k≤n) (hc:n≤c):fR C (rd (Ee A c k sz) (n-k) sz (es.drop k)).holds:=fun w hw=>by
 obtain ⟨D,E,F⟩:=hR w hw
 refine ⟨by rw [List.length_drop,D],fun x hx=>E x (List.mem_of_mem_drop hx),fun hp=>?_⟩
 have G:0<n-k:=Nat.pos_of_mul_pos_right hp
 have hs:0<sz:=Nat.pos_of_mul_pos_left hp
 obtain ⟨ad,hA,B⟩:=F (Nat.mul_pos I hs)
 refine ⟨ad.add (k*sz),?_,fun i e j v he hv=>?_⟩
 ·unfold Ee; rw [if_neg I,hA]; rfl
 ·rw [List.getElem?_drop] at he
  have:=B (k+i) e j v he hv
  rw [tF,show k*sz+(i*sz+j)=(k+i)*sz+j by rw [Nat.add_mul,Nat.add_assoc]]
  exact this
theorem te {w:World} {a:OA} {c e sz:Nat} {es:List (List Value)} (h:(own a c e sz es).holds w):es.length≤c:=by
 rcases h.2.2 with ⟨A,B⟩|⟨g,cap,cur,hv,_,_,C,_⟩
 ·omega
 ·injection hv with _ _ hc; omega
theorem tN {C:List ao} {a:OA} {c e k sz n:Nat} {es:List (List Value)} (i:Nat) (hC:C[i]? =some (own a c e sz es)) (hn:es.length=n) (hk:k≤n):fR C (rd (Ee a c k sz) (n-k) sz (es.drop k)).holds:=fun w hw=>by
 subst hn
 exact Ld (B7 i hC) hk (te (hw _ (aI hC))) w hw
end
section
open Go.RowKit
/-- an array's length, its elements' type and their size -/
def aE (P:Program) (t:TypeId):Option (Nat×TypeId×Nat):=
 match P.underlying t with
 |some (.array n e)=>match P.info? e with
  |some i=>some (n,e,i.size)
  |none=>none
 |_=>none
theorem Cg {P:Program} {t n e sz:Nat} (h:aE P t=some (n,e,sz)) (w:World):P.underlying t=some (.array n e)∧(sizeOf e).run P w= .ok sz w:=by
 unfold aE at h
 split at h
 ·rename_i n' e' hu
  split at h
  ·rename_i i hi
   cases h
   exact ⟨hu,by simp [sizeOf,typeInfo,hi]⟩
  ·cases h
 ·cases h
theorem sS {P:Program} {t n e sz:Nat} (h:aE P t=some (n,e,sz)) (a:Addr) (w:World):
 (Instr.sliceAt t (.pointer (some a)) none none none).run P w= .ok (.slice (some a) n n) w:=by
 obtain ⟨hu,hz⟩:=Cg h w
 have A:a.add 0=a:=by simp [Addr.add]
 simp [Instr.sliceAt,underlying,hu,Instr.sureAddr,Instr.sliceBounds,hz,A]
theorem sV {P:Program} {t n e sz:Nat} (h:aE P t=some (n,e,sz)) (a:Addr) {k:Nat} (hk:k<n) (w:World):
 (Instr.indexAt t (.pointer (some a)) (.int .i64 (k:Int))).run P w= .ok (.pointer (some (a.add (k*sz)))) w:=by
 obtain ⟨hu,hz⟩:=Cg h w
 have A: ¬ n≤k:=by omega
 simp [Instr.indexAt,underlying,hu,Instr.sureAddr,asIntOf,hz,A]
 try exact fun h=>absurd h A
 try omega
section
variable {E:eB} {ops:Array Oper} {Q:cM} {rest:List Oper} {D:List Deferred} {L:List (Nat×Value)} {C:List ao}
variable {dst:Option Nat} {ty:TypeId} {ps:String} {af:Array Edge} {g:Option (Nat×Bool)}
theorem AP {x:Operand} {a:Addr} {t n e sz:Nat} (hg:jc ops L g=true) (hx:ev L x=some (.pointer (some a))) (ht:aE E.P t=some (n,e,sz)):
 SD E ops ⟨dst,.slice t x none none none,ty,ps,af,g⟩ D L C (.slice (some a) n n):=
 dU hg sm fun b w A hs=>by
  simp [execOp,A.ev hx,sS ht]
theorem Aw {x ix:Operand} {a:Addr} {t n e sz k:Nat} {j:Int} (hg:jc ops L g=true) (hx:ev L x=some (.pointer (some a))) (hi:ev L ix=some (.int .i64 j)) (ht:aE E.P t=some (n,e,sz)) (hj:j=(k:Int)) (hk:k<n):
 SD E ops ⟨dst,.indexAddr t x ix,ty,ps,af,g⟩ D L C (.pointer (oo (some a) (k*sz))):=
 dU hg sm fun b w A hs=>by
  subst hj
  simp [execOp,A.ev hx,A.ev hi,oo,sV ht a hk]
end
end
section
open Go.RowKit
/-- a table of facts on the program's types -/
structure zP where
 tk:List (Nat×Bool×Nat)
 fo:List (Nat×List (Option Nat))
 sl:List Nat
def Lp {α:Type}:List (Nat×α)→Nat→Option α
 |[],_=>none
 |(k,v)::l,t=>match Nat.beq k t with
  |true=>some v
  |false=>Lp l t
theorem xq {α:Type}: ∀ {l:List (Nat×α)} {t:Nat} {v:α},Lp l t=some v→(t,v)∈l
 |[],t,v,h=>by simp [Lp] at h
 |(k,u)::l,t,v,h=>by
  unfold Lp at h
  split at h
  ·rename_i hb
   cases h
   rw [Nat.eq_of_beq_eq_true hb]; exact ck
  ·exact dq _ (xq h)
def G9:List Nat→Nat→Bool
 |[],_=>false
 |k::l,t=>match Nat.beq k t with
  |true=>true
  |false=>G9 l t
theorem x7: ∀ {l:List Nat} {t:Nat},G9 l t=true→t∈l
 |[],t,h=>by simp [G9] at h
 |k::l,t,h=>by
  unfold G9 at h
  split at h
  ·rename_i hb
   rw [Nat.eq_of_beq_eq_true hb]; exact ck
  ·exact dq _ (x7 h)
def zP.Gu (T:zP) (t:Nat):Option (Bool×Nat):=Lp T.tk t
def zP.foF (T:zP) (s f:Nat):Option Nat:=match Lp T.fo s with
 |some l=>match l[f]? with
  |some (some k)=>some k
  |_=>none
 |none=>none
structure jQ (P:Program) (T:zP):Prop where
 tk: ∀ p∈T.tk,tK P p.1=some p.2
 fo: ∀ p∈T.fo,∀ f k,p.2[f]? =some (some k)→q_ P p.1 f=some k
 sl: ∀ t∈T.sl,∃ e,P.underlying t=some (.slice e)
theorem jQ.Gu {P:Program} {T:zP} (h:jQ P T) {t:Nat} {r:Bool×Nat} (e:T.Gu t=some r):tK P t=some r:=h.tk _ (xq e)
theorem jQ.foF {P:Program} {T:zP} (h:jQ P T) {s f k:Nat} (e:T.foF s f=some k):q_ P s f=some k:=by
 unfold zP.foF at e
 split at e
 ·rename_i l hl
  split at e
  ·rename_i k' hk
   cases e
   exact h.fo _ (xq hl) f k hk
  ·cases e
 ·cases e
def NR (P:Program) (T:zP):Bool:=(T.tk.all fun p=>decide (tK P p.1=some p.2))&&(T.fo.all fun p=>(List.range p.2.length).all fun f=>match p.2[f]? with
 |some (some k)=>decide (q_ P p.1 f=some k)
 |_=>true)&&T.sl.all fun t=>match P.underlying t with
 |some (.slice _)=>true
 |_=>false
theorem JA {P:Program} {T:zP} (h:NR P T=true):jQ P T:=by
 unfold NR at h
 rw [cx,cx] at h
 obtain ⟨⟨B,C⟩,D⟩:=h
 refine ⟨fun p hp=>by simpa using List.all_eq_true.1 B p hp,fun p hp f k hk=>?_,fun t ht=>?_⟩
 ·have A:=List.all_eq_true.1 (List.all_eq_true.1 C p hp) f (List.mem_range.2 (List.getElem?_eq_some_iff.1 hk).1)
  rw [hk] at A
  simpa using A
 ·have A:=List.all_eq_true.1 D t ht
  split at A
  ·rename_i e he; exact ⟨e,he⟩
  ·cases A
end
section
theorem tW:tK Tryz.prog 3=some (false,1):=by kernel_rfl
theorem Px:tK Tryz.prog 5=some (false,1):=by kernel_rfl
theorem NA:tK Tryz.prog 24=some (true,1):=by kernel_rfl
theorem JF:tK Tryz.prog 25=some (false,1):=by kernel_rfl
theorem O_:tK Tryz.prog 26=some (false,1):=by kernel_rfl
theorem Pj:tK Tryz.prog 28=some (true,7):=by kernel_rfl
theorem Pf:tK Tryz.prog 29=some (false,1):=by kernel_rfl
theorem Pc:tK Tryz.prog 30=some (false,1):=by kernel_rfl
theorem Ou:tK Tryz.prog 32=some (true,11):=by kernel_rfl
theorem uB:tK Tryz.prog 47=some (true,2):=by kernel_rfl
theorem N5:tK Tryz.prog 71=some (false,1):=by kernel_rfl
theorem OK:tK Tryz.prog 72=some (false,1):=by kernel_rfl
theorem OQ:tK Tryz.prog 74=some (true,3):=by kernel_rfl
theorem OH:tK Tryz.prog 76=some (true,7):=by kernel_rfl
theorem On:tK Tryz.prog 78=some (false,1):=by kernel_rfl
theorem OZ:tK Tryz.prog 82=some (false,1):=by kernel_rfl
theorem OW:tK Tryz.prog 86=some (false,1):=by kernel_rfl
theorem MO:tK Tryz.prog 114=some (false,1):=by kernel_rfl
theorem IV:tK Tryz.prog 117=some (false,1):=by kernel_rfl
theorem LU:tK Tryz.prog 119=some (true,2):=by kernel_rfl
theorem Nq:tK Tryz.prog 137=some (true,3):=by kernel_rfl
theorem EV:tK Tryz.prog 139=some (true,3):=by kernel_rfl
theorem M6:tK Tryz.prog 150=some (true,1):=by kernel_rfl
theorem MT:tK Tryz.prog 151=some (true,4):=by kernel_rfl
theorem LY:tK Tryz.prog 163=some (true,9):=by kernel_rfl
theorem Mq:tK Tryz.prog 165=some (true,2):=by kernel_rfl
theorem NM:tK Tryz.prog 216=some (true,1):=by kernel_rfl
theorem MI:tK Tryz.prog 232=some (true,3):=by kernel_rfl
theorem Mn:tK Tryz.prog 274=some (false,1):=by kernel_rfl
theorem Mo:tK Tryz.prog 280=some (false,1):=by kernel_rfl
theorem M5:tK Tryz.prog 282=some (true,2):=by kernel_rfl
theorem xN:(tK Tryz.prog 3).map (·.2)=some 1:=by rw [tW]; rfl
theorem Mu:(tK Tryz.prog 24).map (·.2)=some 1:=by rw [NA]; rfl
theorem N_:(tK Tryz.prog 25).map (·.2)=some 1:=by rw [JF]; rfl
theorem Pe:(tK Tryz.prog 26).map (·.2)=some 1:=by rw [O_]; rfl
theorem Nn:(tK Tryz.prog 28).map (·.2)=some 7:=by rw [Pj]; rfl
theorem FW:(tK Tryz.prog 29).map (·.2)=some 1:=by rw [Pf]; rfl
theorem Oy:(tK Tryz.prog 30).map (·.2)=some 1:=by rw [Pc]; rfl
theorem LD:(tK Tryz.prog 32).map (·.2)=some 11:=by rw [Ou]; rfl
theorem bS:(tK Tryz.prog 47).map (·.2)=some 2:=by rw [uB]; rfl
theorem Of:(tK Tryz.prog 71).map (·.2)=some 1:=by rw [N5]; rfl
theorem Ov:(tK Tryz.prog 72).map (·.2)=some 1:=by rw [OK]; rfl
theorem LK:(tK Tryz.prog 74).map (·.2)=some 3:=by rw [OQ]; rfl
theorem OV:(tK Tryz.prog 76).map (·.2)=some 7:=by rw [OH]; rfl
theorem Ok:(tK Tryz.prog 78).map (·.2)=some 1:=by rw [On]; rfl
theorem Oe:(tK Tryz.prog 82).map (·.2)=some 1:=by rw [OZ]; rfl
theorem Hr:(tK Tryz.prog 86).map (·.2)=some 1:=by rw [OW]; rfl
theorem NL:(tK Tryz.prog 114).map (·.2)=some 1:=by rw [MO]; rfl
theorem Ms:(tK Tryz.prog 117).map (·.2)=some 1:=by rw [IV]; rfl
theorem vY:(tK Tryz.prog 119).map (·.2)=some 2:=by rw [LU]; rfl
theorem qh:(tK Tryz.prog 137).map (·.2)=some 3:=by rw [Nq]; rfl
theorem Jc:(tK Tryz.prog 139).map (·.2)=some 3:=by rw [EV]; rfl
theorem Cr:(tK Tryz.prog 150).map (·.2)=some 1:=by rw [M6]; rfl
theorem Nf:(tK Tryz.prog 151).map (·.2)=some 4:=by rw [MT]; rfl
theorem Fg:(tK Tryz.prog 163).map (·.2)=some 9:=by rw [LY]; rfl
theorem tY:(tK Tryz.prog 165).map (·.2)=some 2:=by rw [Mq]; rfl
theorem Ej:(tK Tryz.prog 216).map (·.2)=some 1:=by rw [NM]; rfl
theorem Nt:(tK Tryz.prog 232).map (·.2)=some 3:=by rw [MI]; rfl
theorem vO:(tK Tryz.prog 274).map (·.2)=some 1:=by rw [Mn]; rfl
theorem F5:(tK Tryz.prog 280).map (·.2)=some 1:=by rw [Mo]; rfl
theorem pM:(tK Tryz.prog 282).map (·.2)=some 2:=by rw [M5]; rfl
theorem wm:aE Tryz.prog 158=some (3,157,2):=by kernel_rfl
theorem ES:q_ Tryz.prog 28 2=some 2:=by kernel_rfl
theorem BK:q_ Tryz.prog 119 1=some 1:=by kernel_rfl
theorem OM:qo Tryz.prog 40=true:=by kernel_rfl
theorem ij (l:List aa): ∀ v∈(l.map aa.cells).flatten,v.oneCell'=true:=kz (fun _=>rfl) l
theorem sW (l:List bY): ∀ v∈(l.map bY.cells).flatten,v.oneCell'=true:=kz (fun _=>rfl) l
theorem sX (l:List bL): ∀ v∈(l.map bL.cells).flatten,v.oneCell'=true:=kz (fun _=>rfl) l
theorem qc (l:List aj): ∀ v∈(l.map aj.cells).flatten,v.oneCell'=true:=kz (fun _=>rfl) l
theorem qX (l:List aD): ∀ v∈(l.map aD.cells).flatten,v.oneCell'=true:=kz (fun _=>rfl) l
theorem O2:tA Tryz.prog 22=some (163,9,72,(Value.agg [(vI 0),(vI 0),(vI 0),(vI 0),(vI 0),(vI 0),(vI 0),(Value.int .u8 0),(vI 0)].toArray)):=by kernel_rfl
theorem OC:tA Tryz.prog 25=some (119,2,32,(Value.agg [(vI 0),(vS none 0 0)].toArray)):=by kernel_rfl
theorem O3:tA Tryz.prog 26=some (141,4,32,(Value.agg [(vI 0),(vI 0),(vI 0),(vI 0)].toArray)):=by kernel_rfl
theorem l0:tA Tryz.prog 29=some (3,1,8,(vI 0)):=by kernel_rfl
theorem Ph:tA Tryz.prog 30=some (71,1,24,(vS none 0 0)):=by kernel_rfl
theorem OE:tA Tryz.prog 71=some (76,7,64,(Value.agg [(vB false),(vB false),(vI 0),(vI 0),(vI 0),(vI 0),(vS none 0 0)].toArray)):=by kernel_rfl
theorem OL:tA Tryz.prog 72=some (165,2,16,(Value.agg [(vI 0),(vI 0)].toArray)):=by kernel_rfl
theorem Gv:tA Tryz.prog 78=some (47,2,16,(Value.agg [(vI 0),(vI 0)].toArray)):=by kernel_rfl
theorem L8:tA Tryz.prog 82=some (78,1,24,(vS none 0 0)):=by kernel_rfl
theorem Nx:tA Tryz.prog 114=some (4,1,1,(vB false)):=by kernel_rfl
theorem MW:tA Tryz.prog 117=some (137,3,24,(Value.agg [(vI 0),(vI 0),(vI 0)].toArray)):=by kernel_rfl
theorem Jr:tA Tryz.prog 209=some (235,3,72,(Value.agg [(vS none 0 0),(vS none 0 0),(vS none 0 0)].toArray)):=by kernel_rfl
theorem NF:tA Tryz.prog 273=some (86,1,8,(Value.map none)):=by kernel_rfl
theorem xR:tA Tryz.prog 274=some (280,1,8,(Value.map none)):=by kernel_rfl
theorem Ow:tB Tryz.prog 24=some ([(vS none 0 0)],[(0,1)]):=by kernel_rfl
theorem eM:tB Tryz.prog 47=some ([(vI 0),(vI 0)],[(0,1),(1,1)]):=by kernel_rfl
theorem LQ:tB Tryz.prog 100=some ([(vS none 0 0),(vI 0),(vS none 0 0),(vS none 0 0),(vI 0),(vI 0),(vI 0),(vS none 0 0),(vS none 0 0),(vI 0),(vS none 0 0),(vS none 0 0),(Value.map none)],[(0,11),(11,1),(12,1)]):=by kernel_rfl
theorem Cf:tB Tryz.prog 150=some ([Value.nilFunc],[(0,1)]):=by kernel_rfl
theorem Lv:tB Tryz.prog 151=some ([Value.nilFunc,Value.nilFunc,Value.nilFunc,Value.nilFunc],[(0,1),(1,1),(2,1),(3,1)]):=by kernel_rfl
theorem Lr:tB Tryz.prog 165=some ([(vI 0),(vI 0)],[(0,1),(1,1)]):=by kernel_rfl
theorem My:tB Tryz.prog 216=some ([(vS none 0 0)],[(0,1)]):=by kernel_rfl
theorem MZ:tB Tryz.prog 235=some ([(vS none 0 0),(vS none 0 0),(vS none 0 0)],[(0,1),(1,1),(2,1)]):=by kernel_rfl
theorem Mi:tB Tryz.prog 276=some ([(vS none 0 0),(vI 0),(vS none 0 0),(vS none 0 0),(vI 0),(vI 0),(vI 0),(vI 0),(vI 0),(vS none 0 0),(vS none 0 0),(vS none 0 0),(vS none 0 0),(vS none 0 0)],[(0,7),(7,3),(10,1),(11,1),(12,1),(13,1)]):=by kernel_rfl
theorem xZ:tB Tryz.prog 282=some ([(vI 0),(vI 0)],[(0,1),(1,1)]):=by kernel_rfl
theorem u6:tE Tryz.prog 22=some (163,9):=by kernel_rfl
theorem vw:tE Tryz.prog 25=some (119,2):=by kernel_rfl
theorem rO:tE Tryz.prog 26=some (141,4):=by kernel_rfl
theorem cN:tE Tryz.prog 29=some (3,1):=by kernel_rfl
theorem mL:tE Tryz.prog 30=some (71,1):=by kernel_rfl
theorem sU:tE Tryz.prog 71=some (76,7):=by kernel_rfl
theorem vy:tE Tryz.prog 72=some (165,2):=by kernel_rfl
theorem kB:tE Tryz.prog 78=some (47,2):=by kernel_rfl
theorem Bn:tE Tryz.prog 82=some (78,1):=by kernel_rfl
theorem Jh:tE Tryz.prog 114=some (4,1):=by kernel_rfl
theorem ml:tE Tryz.prog 117=some (137,3):=by kernel_rfl
theorem GM:tE Tryz.prog 154=some (157,2):=by kernel_rfl
theorem Bw:tE Tryz.prog 209=some (235,3):=by kernel_rfl
theorem ED:tE Tryz.prog 236=some (139,3):=by kernel_rfl
theorem Jf:tE Tryz.prog 272=some (268,1):=by kernel_rfl
theorem Cl:tE Tryz.prog 273=some (86,1):=by kernel_rfl
theorem l4:tE Tryz.prog 274=some (280,1):=by kernel_rfl
theorem F2:(match Tryz.prog.underlying 47 with |some (.struct fs)=>(fs[0]?).map (fun fl=>tK Tryz.prog fl.type)|_=>none)=some (some (false,1)):=by kernel_rfl
theorem xh:(match Tryz.prog.underlying 47 with |some (.struct fs)=>(fs[1]?).map (fun fl=>tK Tryz.prog fl.type)|_=>none)=some (some (false,1)):=by kernel_rfl
theorem Pu:tV Tryz.prog 3=some (vI 0):=by kernel_rfl
theorem Ev:tV Tryz.prog 47=some (Value.agg [(vI 0),(vI 0)].toArray):=by kernel_rfl
theorem BZ:tX Tryz.prog 151=some (4,150):=by kernel_rfl
theorem lX:tZ Tryz.prog 3=some [(vI 0)]:=by kernel_rfl
theorem PA:tZ Tryz.prog 4=some [(vB false)]:=by kernel_rfl
theorem HD:tZ Tryz.prog 12=some [(Value.int .u64 0)]:=by kernel_rfl
theorem OT:tZ Tryz.prog 24=some [(vS none 0 0)]:=by kernel_rfl
theorem O5:tZ Tryz.prog 28=some [(vS none 0 0),(vI 0),(vS none 0 0),(vS none 0 0),(vI 0),(vI 0),(vI 0)]:=by kernel_rfl
theorem LH:tZ Tryz.prog 32=some [(vS none 0 0),(vI 0),(vS none 0 0),(vS none 0 0),(vI 0),(vI 0),(vI 0),(vS none 0 0),(vS none 0 0),(vI 0),(vS none 0 0)]:=by kernel_rfl
theorem cR:tZ Tryz.prog 47=some [(vI 0),(vI 0)]:=by kernel_rfl
theorem O7:tZ Tryz.prog 74=some [(vI 0),(vI 0),(vS none 0 0)]:=by kernel_rfl
theorem OY:tZ Tryz.prog 76=some [(vB false),(vB false),(vI 0),(vI 0),(vI 0),(vI 0),(vS none 0 0)]:=by kernel_rfl
theorem Nb:tZ Tryz.prog 78=some [(vS none 0 0)]:=by kernel_rfl
theorem LZ:tZ Tryz.prog 86=some [(Value.map none)]:=by kernel_rfl
theorem wD:tZ Tryz.prog 119=some [(vI 0),(vS none 0 0)]:=by kernel_rfl
theorem qU:tZ Tryz.prog 137=some [(vI 0),(vI 0),(vI 0)]:=by kernel_rfl
theorem Br:tZ Tryz.prog 139=some [(vI 0),(vI 0),(vI 0)]:=by kernel_rfl
theorem BJ:tZ Tryz.prog 150=some [Value.nilFunc]:=by kernel_rfl
theorem ND:tZ Tryz.prog 151=some [Value.nilFunc,Value.nilFunc,Value.nilFunc,Value.nilFunc]:=by kernel_rfl
theorem Gm:tZ Tryz.prog 163=some [(vI 0),(vI 0),(vI 0),(vI 0),(vI 0),(vI 0),(vI 0),(Value.int .u8 0),(vI 0)]:=by kernel_rfl
theorem F7:tZ Tryz.prog 165=some [(vI 0),(vI 0)]:=by kernel_rfl
theorem EK:tZ Tryz.prog 216=some [(vS none 0 0)]:=by kernel_rfl
theorem Je:tZ Tryz.prog 232=some [(vS none 0 0),(vS none 0 0),(vS none 0 0)]:=by kernel_rfl
theorem Np:tZ Tryz.prog 235=some [(vS none 0 0),(vS none 0 0),(vS none 0 0)]:=by kernel_rfl
theorem LB:tZ Tryz.prog 268=some [Value.nilFunc]:=by kernel_rfl
theorem qk:tZ Tryz.prog 282=some [(vI 0),(vI 0)]:=by kernel_rfl
theorem p_:Tryz.prog.underlying 3=some (.int .i64):=by kernel_rfl
theorem NW:Tryz.prog.underlying 4=some .bool:=by kernel_rfl
theorem Mm:Tryz.prog.underlying 5=some (.int .u8):=by kernel_rfl
theorem PC:Tryz.prog.underlying 9=some .string:=by kernel_rfl
theorem Ny:Tryz.prog.underlying 22=some (.slice 163):=by kernel_rfl
theorem Ol:Tryz.prog.underlying 25=some (.slice 119):=by kernel_rfl
theorem MK:Tryz.prog.underlying 26=some (.slice 141):=by kernel_rfl
theorem Nu:Tryz.prog.underlying 29=some (.slice 3):=by kernel_rfl
theorem Oo:Tryz.prog.underlying 30=some (.slice 71):=by kernel_rfl
theorem O1:Tryz.prog.underlying 71=some (.slice 76):=by kernel_rfl
theorem OU:Tryz.prog.underlying 72=some (.slice 165):=by kernel_rfl
theorem sZ:Tryz.prog.underlying 86=some (.map 3 47):=by kernel_rfl
theorem M0:Tryz.prog.underlying 117=some (.slice 137):=by kernel_rfl
theorem MD:Tryz.prog.underlying 145=some (.int .u64):=by kernel_rfl
theorem Nm:Tryz.prog.underlying 179=some (.int .u64):=by kernel_rfl
theorem mZ:Tryz.prog.underlying 280=some (.map 282 3):=by kernel_rfl
theorem JH:fL Tryz.prog 47=some [(3,0),(3,1)]:=by kernel_rfl
theorem uJ (d:Nat) (s z:aa) (w:World):(Op.equalIn (d+2) 47 (.agg s.cells.toArray) (.agg z.cells.toArray)).run Tryz.prog w= .ok (decide (s=z)) w:=by
 have hc:(decide (s.Lo=z.Lo)&&(decide (s.Hi=z.Hi)&&true))=decide (s=z):=by rw [Bool.eq_iff_iff]; simp [aa.ext_iff]
 rw [← hc]
 exact jC (d+1) JH w (fD w (dN tW U w) (dN tW U w) (ju _ p_ w) (fD w (dN tW U w) (dN tW U w) (ju _ p_ w) (nD w)))
theorem q7 (x y:Operand) (s z:aa):fG Tryz.prog .eql 47 x y (.agg s.cells.toArray) (.agg z.cells.toArray) (.bool (decide (s=z))):=DR x y (m_ JH) fun w=>uJ 9998 s z w
theorem Ml (x y:Operand) (s z:aa):fG Tryz.prog .neq 47 x y (.agg s.cells.toArray) (.agg z.cells.toArray) (.bool (!decide (s=z))):=mU x y (m_ JH) fun w=>uJ 9998 s z w
theorem Ji:fL Tryz.prog 137=some [(3,0),(47,1)]:=by kernel_rfl
theorem Kn (d:Nat) (s z:bY) (w:World):(Op.equalIn (d+3) 137 (.agg s.cells.toArray) (.agg z.cells.toArray)).run Tryz.prog w= .ok (decide (s=z)) w:=by
 have hc:(decide (s.At=z.At)&&(decide (s.dg=z.dg)&&true))=decide (s=z):=by rw [Bool.eq_iff_iff]; simp [bY.ext_iff]
 rw [← hc]
 exact jC (d+2) Ji w (fD w (dN tW U w) (dN tW U w) (ju _ p_ w) (fD w (gW (vs:=aa.cells s.dg) uB U w) (gW (vs:=aa.cells z.dg) uB U w) (uJ (d+0) s.dg z.dg w) (nD w)))
theorem Gj (x y:Operand) (s z:bY):fG Tryz.prog .neq 137 x y (.agg s.cells.toArray) (.agg z.cells.toArray) (.bool (!decide (s=z))):=mU x y (m_ Ji) fun w=>Kn 9997 s z w
theorem LV:fL Tryz.prog 139=some [(3,0),(47,1)]:=by kernel_rfl
theorem Kc (d:Nat) (s z:ct) (w:World):(Op.equalIn (d+3) 139 (.agg s.cells.toArray) (.agg z.cells.toArray)).run Tryz.prog w= .ok (decide (s=z)) w:=by
 have hc:(decide (s.aM=z.aM)&&(decide (s.jW=z.jW)&&true))=decide (s=z):=by rw [Bool.eq_iff_iff]; simp [ct.ext_iff]
 rw [← hc]
 exact jC (d+2) LV w (fD w (dN tW U w) (dN tW U w) (ju _ p_ w) (fD w (gW (vs:=aa.cells s.jW) uB U w) (gW (vs:=aa.cells z.jW) uB U w) (uJ (d+0) s.jW z.jW w) (nD w)))
theorem I3:fL Tryz.prog 141=some [(139,0),(3,3)]:=by kernel_rfl
theorem J0 (d:Nat) (s z:bL) (w:World):(Op.equalIn (d+4) 141 (.agg s.cells.toArray) (.agg z.cells.toArray)).run Tryz.prog w= .ok (decide (s=z)) w:=by
 have hc:(decide (s.jx=z.jx)&&(decide (s.ig=z.ig)&&true))=decide (s=z):=by rw [Bool.eq_iff_iff]; simp [bL.ext_iff]
 rw [← hc]
 exact jC (d+3) I3 w (fD w (gW (vs:=ct.cells s.jx) EV U w) (gW (vs:=ct.cells z.jx) EV U w) (Kc (d+0) s.jx z.jx w) (fD w (dN tW U w) (dN tW U w) (ju _ p_ w) (nD w)))
theorem KN (x y:Operand) (s z:bL):fG Tryz.prog .neq 141 x y (.agg s.cells.toArray) (.agg z.cells.toArray) (.bool (!decide (s=z))):=mU x y (m_ I3) fun w=>J0 9996 s z w
theorem IU:fL Tryz.prog 163=some [(3,0),(47,1),(47,3),(47,5),(5,7),(3,8)]:=by kernel_rfl
theorem KQ (d:Nat) (s z:aj) (w:World):(Op.equalIn (d+3) 163 (.agg s.cells.toArray) (.agg z.cells.toArray)).run Tryz.prog w= .ok (decide (s=z)) w:=by
 have hc:(decide (s.Id=z.Id)&&(decide (s.ia=z.ia)&&(decide (s.jh=z.jh)&&(decide (s.dh=z.dh)&&(decide (s.gI=z.gI)&&(decide (s.u3=z.u3)&&true))))))=decide (s=z):=by rw [Bool.eq_iff_iff]; simp [aj.ext_iff]
 rw [← hc]
 exact jC (d+2) IU w (fD w (dN tW U w) (dN tW U w) (ju _ p_ w) (fD w (gW (vs:=aa.cells s.ia) uB U w) (gW (vs:=aa.cells z.ia) uB U w) (uJ (d+0) s.ia z.ia w) (fD w (gW (vs:=aa.cells s.jh) uB U w) (gW (vs:=aa.cells z.jh) uB U w) (uJ (d+0) s.jh z.jh w) (fD w (gW (vs:=aa.cells s.dh) uB U w) (gW (vs:=aa.cells z.dh) uB U w) (uJ (d+0) s.dh z.dh w) (fD w (dN Px U w) (dN Px U w) (ju _ Mm w) (fD w (dN tW U w) (dN tW U w) (ju _ p_ w) (nD w)))))))
theorem Jz (x y:Operand) (s z:aj):fG Tryz.prog .neq 163 x y (.agg s.cells.toArray) (.agg z.cells.toArray) (.bool (!decide (s=z))):=mU x y (m_ IU) fun w=>KQ 9997 s z w
theorem IW:fL Tryz.prog 165=some [(3,0),(3,1)]:=by kernel_rfl
theorem JB (d:Nat) (s z:aD) (w:World):(Op.equalIn (d+2) 165 (.agg s.cells.toArray) (.agg z.cells.toArray)).run Tryz.prog w= .ok (decide (s=z)) w:=by
 have hc:(decide (s.e7=z.e7)&&(decide (s.Read=z.Read)&&true))=decide (s=z):=by rw [Bool.eq_iff_iff]; simp [aD.ext_iff]
 rw [← hc]
 exact jC (d+1) IW w (fD w (dN tW U w) (dN tW U w) (ju _ p_ w) (fD w (dN tW U w) (dN tW U w) (ju _ p_ w) (nD w)))
theorem Kf (x y:Operand) (s z:aD):fG Tryz.prog .neq 165 x y (.agg s.cells.toArray) (.agg z.cells.toArray) (.bool (!decide (s=z))):=mU x y (m_ IW) fun w=>JB 9998 s z w
theorem IZ:fL Tryz.prog 282=some [(3,0),(3,1)]:=by kernel_rfl
theorem Lc (d:Nat) (s z:ar) (w:World):(Op.equalIn (d+2) 282 (.agg s.cells.toArray) (.agg z.cells.toArray)).run Tryz.prog w= .ok (decide (s=z)) w:=by
 have hc:(decide (s.right=z.right)&&(decide (s.dT=z.dT)&&true))=decide (s=z):=by rw [Bool.eq_iff_iff]; simp [ar.ext_iff]
 rw [← hc]
 exact jC (d+1) IZ w (fD w (dN tW U w) (dN tW U w) (ju _ p_ w) (fD w (dN tW U w) (dN tW U w) (ju _ p_ w) (nD w)))
theorem bX:Tryz.prog.follows .mixedOrders=true:=by kernel_rfl
def TT:zP:=⟨[(1,false,1),(2,false,1),(3,false,1),(4,false,1),(5,false,1),(6,false,1),(7,true,4),(8,true,4),(12,false,1),(15,false,1),(16,false,1),(17,false,1),(18,true,1),(19,true,1),(21,false,1),(22,false,1),(23,true,1),(24,true,1),(25,false,1),(26,false,1),(27,true,7),(28,true,7),(29,false,1),(30,false,1),(31,true,11),(32,true,11),(33,false,1),(34,false,1),(36,false,1),(38,false,1),(40,false,1),(42,false,1),(43,false,1),(44,false,1),(45,false,1),(46,true,2),(47,true,2),(49,false,1),(51,false,1),(52,false,1),(53,false,1),(54,false,1),(55,false,1),(56,false,1),(57,false,1),(59,false,1),(61,false,1),(63,false,1),(65,false,1),(66,false,1),(67,false,1),(68,false,1),(69,false,1),(70,false,1),(71,false,1),(72,false,1),(73,true,3),(74,true,3),(75,true,7),(76,true,7),(77,false,1),(78,false,1),(80,false,1),(81,false,1),(82,false,1),(84,false,1),(85,false,1),(86,false,1),(87,false,1),(89,false,1),(90,false,1),(92,false,1),(93,false,1),(94,false,1),(96,false,1),(97,false,1),(98,false,1),(99,true,13),(100,true,13),(101,false,1),(102,false,1),(103,false,1),(104,false,1),(105,false,1),(106,false,1),(107,false,1),(108,false,1),(109,false,1),(110,false,1),(111,false,1),(112,false,1),(113,false,1),(114,false,1),(115,false,1),(116,false,1),(117,false,1),(118,true,2),(119,true,2),(120,false,1),(121,false,1),(122,false,1),(123,false,1),(124,false,1),(125,false,1),(127,false,1),(128,false,1),(129,false,1),(130,false,1),(131,false,1),(132,false,1),(133,false,1),(134,false,1),(135,false,1),(136,true,3),(137,true,3),(138,true,3),(139,true,3),(140,true,4),(141,true,4),(142,false,1),(143,false,1),(144,false,1),(145,false,1),(146,false,1),(147,false,1),(148,true,2),(149,false,1),(150,true,1),(151,true,4),(152,false,1),(153,false,1),(154,false,1),(155,false,1),(156,true,2),(157,true,2),(158,true,6),(159,false,1),(160,false,1),(161,false,1),(162,true,9),(163,true,9),(164,true,2),(165,true,2),(166,false,1),(167,false,1),(168,false,1),(170,false,1),(171,false,1),(172,false,1),(173,false,1),(175,false,1),(176,false,1),(177,false,1),(178,false,1),(179,false,1),(180,false,1),(181,false,1),(182,false,1),(183,false,1),(184,false,1),(185,false,1),(186,false,1),(187,false,1),(188,false,1),(189,false,1),(190,false,1),(191,false,1),(192,false,1),(193,false,1),(194,false,1),(195,false,1),(196,false,1),(197,false,1),(198,false,1),(199,false,1),(200,false,1),(201,false,1),(202,false,1),(203,false,1),(204,false,1),(205,false,1),(206,false,1),(207,false,1),(208,false,1),(209,false,1),(211,false,1),(212,false,1),(213,false,1),(214,false,1),(215,true,1),(216,true,1),(218,false,1),(219,false,1),(221,false,1),(222,false,1),(223,false,1),(224,false,1),(226,false,1),(227,false,1),(228,false,1),(229,false,1),(230,false,1),(231,true,3),(232,true,3),(233,false,1),(234,true,3),(235,true,3),(236,false,1),(237,false,1),(238,false,1),(239,false,1),(240,false,1),(241,false,1),(242,false,1),(243,false,1),(244,false,1),(245,false,1),(246,false,1),(247,false,1),(250,true,0),(251,true,0),(252,true,0),(253,false,1),(254,false,1),(255,false,1),(256,false,1),(257,false,1),(258,false,1),(259,false,1),(260,true,11),(261,true,11),(263,false,1),(264,false,1),(265,false,1),(267,false,1),(268,false,1),(269,false,1),(270,false,1),(271,false,1),(272,false,1),(273,false,1),(274,false,1),(275,true,14),(276,true,14),(277,false,1),(278,false,1),(279,false,1),(280,false,1),(281,true,2),(282,true,2),(283,false,1),(284,false,1),(285,false,1),(286,false,1)],[(7,[some 0,some 1,some 2,some 3]),(8,[some 0,some 1,some 2,some 3]),(18,[some 0]),(19,[some 0]),(23,[some 0]),(24,[some 0]),(27,[some 0,some 1,some 2,some 3,some 4,some 5,some 6]),(28,[some 0,some 1,some 2,some 3,some 4,some 5,some 6]),(31,[some 0,some 7,some 8,some 9,some 10]),(32,[some 0,some 7,some 8,some 9,some 10]),(46,[some 0,some 1]),(47,[some 0,some 1]),(73,[some 0,some 1,some 2]),(74,[some 0,some 1,some 2]),(75,[some 0,some 1,some 2,some 4]),(76,[some 0,some 1,some 2,some 4]),(99,[some 0,some 11,some 12]),(100,[some 0,some 11,some 12]),(118,[some 0,some 1]),(119,[some 0,some 1]),(136,[some 0,some 1]),(137,[some 0,some 1]),(138,[some 0,some 1]),(139,[some 0,some 1]),(140,[some 0,some 3]),(141,[some 0,some 3]),(150,[some 0]),(156,[some 0,some 1]),(157,[some 0,some 1]),(162,[some 0,some 1,some 3,some 5,some 7,some 8]),(163,[some 0,some 1,some 3,some 5,some 7,some 8]),(164,[some 0,some 1]),(165,[some 0,some 1]),(215,[some 0]),(216,[some 0]),(231,[some 0,some 1,some 2]),(232,[some 0,some 1,some 2]),(234,[some 0,some 1,some 2]),(235,[some 0,some 1,some 2]),(260,[some 0,some 1,some 2,some 3,some 4,some 5,some 6,some 7,some 8,some 9,some 10]),(261,[some 0,some 1,some 2,some 3,some 4,some 5,some 6,some 7,some 8,some 9,some 10]),(275,[some 0,some 7,some 10,some 11,some 12,some 13]),(276,[some 0,some 7,some 10,some 11,some 12,some 13]),(281,[some 0,some 1]),(282,[some 0,some 1])],[22,25,26,29,30,57,71,72,78,82,114,117,154,209,236,272,273,274]⟩
theorem n_:jQ Tryz.prog TT:=JA kr
theorem bQ {t:TypeId} {x:Bool×Nat} (h:TT.Gu t=some x:=by rfl):tK Tryz.prog t=some x:=n_.Gu h
theorem fq {s f k:Nat} (h:TT.foF s f=some k:=by rfl):q_ Tryz.prog s f=some k:=n_.foF h
end
section
open Go.RowKit
/-- blocks that are read -/
def MM (C:List ao) (M:List (Nat×List Value)):Prop:= ∀ p∈M,∀ o vs,(p.2.drop o).take vs.length=vs→At C (some ⟨p.1,o,none⟩) vs
theorem mn {C:List ao}:MM C []:=fun p h=>by cases h
theorem mc {C:List ao} {b t:Nat} {cs:List Value} {M:List (Nat×List Value)} (i:Nat) (hC:C[i]? =some (cd b t cs)) (h:MM C M):MM C ((b,cs)::M):=fun p hp o vs hv=>by
 rcases List.mem_cons.1 hp with rfl|hp
 ·exact nz i hC hv
 ·exact h p hp o vs hv
theorem mr {C:List ao} {b t:Nat} {cs:List Value} {M:List (Nat×List Value)} (i:Nat) (hC:C[i]? =some (cd b t cs).ro) (h:MM C M):MM C ((b,cs)::M):=fun p hp o vs hv=>by
 rcases List.mem_cons.1 hp with rfl|hp
 ·exact tw i hC hv
 ·exact h p hp o vs hv
def nA:List Prop→Prop
 |[]=>True
 |p::l=>p∧nA l
theorem iZ {p:Prop} {l:List Prop} (h:p) (h2:nA l):nA (p::l):=⟨h,h2⟩
/-- the value of an operation, what it asks for, and what is left of the list of places -/
def pv (T:zP) (ops:Array Oper) (M:List (Nat×List Value)) (L:List (Nat×Value)) (hs:List Nat) (g:Option (Nat×Bool)) (op:Op):Option (Value×List Prop×List Nat):=
 match zH ops L g with
 |true=>some (undef,[],hs)
 |false=>match jc ops L g with
  |false=>none
  |true=>match op with
   | .move x=>match ev L x with
    |some v=>some (v,[],hs)
    |none=>none
   | .assign x=>match ev L x with
    |some v=>some (v,[],hs)
    |none=>none
   | .pick c x y=>match ev L c with
    |some (.bool true)=>match ev L x with
     |some v=>some (v,[],hs)
     |none=>none
    |some (.bool false)=>match ev L y with
     |some v=>some (v,[],hs)
     |none=>none
    |_=>none
   | .unOp .not _ x=>match ev L x with
    |some (.bool b)=>some (.bool !b,[],hs)
    |_=>none
   | .extract x i=>match ev L x with
    |some (.tuple vs)=>match vs.toList[i]? with
     |some v=>some (v,[],hs)
     |none=>none
    |_=>none
   | .fieldAddr s x f=>match ev L x with
    |some (.pointer (some ⟨b,o,none⟩))=>match T.foF s f with
     |some k=>some (.pointer (some ⟨b,o+k,none⟩),[],hs)
     |none=>none
    |_=>none
   | .binOp op _ x y _=>match ev L x with
    |some (.int .i64 a)=>match ev L y with
     |some (.int .i64 b)=>match op with
      | .lss=>some (.bool (decide (a<b)),[],hs)
      | .leq=>some (.bool (decide (a≤b)),[],hs)
      | .gtr=>some (.bool (decide (b<a)),[],hs)
      | .geq=>some (.bool (decide (b≤a)),[],hs)
      | .eql=>some (.bool (decide (a=b)),[],hs)
      | .neq=>some (.bool (!decide (a=b)),[],hs)
      | .add=>some (.int .i64 (a+b),[-9223372036854775808≤a+b,a+b≤9223372036854775807],hs)
      | .sub=>some (.int .i64 (a-b),[-9223372036854775808≤a-b,a-b≤9223372036854775807],hs)
      |_=>none
     |_=>none
    |_=>none
   | .load t x=>match ev L x with
    |some (.pointer (some ⟨b,o,none⟩))=>match M[hs.headD 0]? with
     |some (b',cs)=>match T.Gu t with
      |some (false,_)=>match cs[o]? with
       |some v=>some (v,[b'=b],hs.tail)
       |none=>none
      |some (true,n)=>match Nat.beq o 0 with
       |true=>match Nat.beq cs.length n with
        |true=>some (.agg cs.toArray,[b'=b],hs.tail)
        |false=>none
       |false=>none
      |none=>none
     |none=>none
    |_=>none
   | .call c=>match c with
    |{callee:= .builtin .len,args:=xs,argTypes:=ts}=>match xs.toList with
     |[x]=>match ts.toList with
      |[t]=>match ev L x with
       |some (.slice A n c)=>match G9 T.sl t with
        |true=>some (.int .i64 n,[],hs)
        |false=>none
       |_=>none
      |_=>none
     |_=>none
    |_=>none
   |_=>none
section
variable {E:eB} {T:zP} {ops:Array Oper} {M:List (Nat×List Value)} {D:List Deferred} {L:List (Nat×Value)} {C:List ao} {hs hs':List Nat}
theorem sw {cs:List Value} {o:Nat} {v:Value} (h:cs[o]? =some v):(cs.drop o).take [v].length=[v]:=by
 obtain ⟨hl,rfl⟩:=List.getElem?_eq_some_iff.1 h
 rw [List.drop_eq_getElem_cons hl]; rfl
theorem LF {o:Oper} {v:Value} {S:List Prop} (hT:jQ E.P T) (hM:MM C M) (h:pv T ops M L hs o.guard o.op=some (v,S,hs')) (hS:nA S):SD E ops o D L C v:=by
 obtain ⟨dst,op,ty,ps,af,g⟩:=o
 unfold pv at h
 simp only at h
 split at h
 ·rename_i hg
  cases h
  exact G0 hg
 ·split at h
  ·cases h
  ·rename_i hg
   split at h
   ·split at h
    ·rename_i hx; cases h; exact BX hg hx
    ·cases h
   ·split at h
    ·rename_i hx; cases h; exact wH hg hx
    ·cases h
   ·split at h
    ·rename_i hc
     split at h
     ·rename_i hx; cases h; exact wc hg hc hx
     ·cases h
    ·rename_i hc
     split at h
     ·rename_i hx; cases h; exact wk hg hc hx
     ·cases h
    ·cases h
   ·split at h
    ·rename_i hx; cases h; exact FO hg hx
    ·cases h
   ·split at h
    ·rename_i vs hx
     split at h
     ·rename_i v' hv; cases h; exact tI (vs:=vs.toList) hg (by simpa using hx) hv
     ·cases h
    ·cases h
   ·split at h
    ·rename_i hx
     split at h
     ·rename_i hk; cases h; exact IY hg hx (hT.foF hk) rfl
     ·cases h
    ·cases h
   ·split at h
    ·rename_i hx
     split at h
     ·rename_i hy
      split at h
      ·cases h; exact dG hg hx hy lq
      ·cases h; exact dG hg hx hy Ma
      ·cases h; exact dG hg hx hy Nv
      ·cases h; exact dG hg hx hy B1
      ·cases h; exact dG hg hx hy pD
      ·cases h; exact dG hg hx hy pN
      ·cases h; exact dG hg hx hy (kK ⟨hS.1,hS.2.1⟩)
      ·cases h; exact dG hg hx hy (pG ⟨hS.1,hS.2.1⟩)
      ·cases h
     ·cases h
    ·cases h
   ·split at h
    ·rename_i hx
     split at h
     ·rename_i b' cs hm
      have A:=aI hm
      split at h
      ·rename_i hk
       split at h
       ·rename_i hv
        cases h
        obtain rfl:=hS.1
        exact rn hg hx (hT.Gu hk) (hM _ A _ _ (sw hv))
       ·cases h
      ·rename_i n hk
       split at h
       ·rename_i ho
        split at h
        ·rename_i hn
         cases h
         obtain rfl:=hS.1
         have H:=Nat.eq_of_beq_eq_true ho
         subst H
         exact uL hg hx (hT.Gu hk) (hM _ A 0 cs sm) (Nat.eq_of_beq_eq_true hn)
        ·cases h
       ·cases h
      ·cases h
     ·cases h
    ·cases h
   ·split at h
    ·rename_i xs ts
     split at h
     ·rename_i x G
      split at h
      ·rename_i t F
       split at h
       ·rename_i hx
        split at h
        ·rename_i B
         cases h
         obtain ⟨e,he⟩:=hT.sl t (x7 B)
         have AA:xs= #[x]:=by apply Array.ext'; simpa using G
         have J:ts= #[t]:=by apply Array.ext'; simpa using F
         subst AA J
         exact Gh hg hx he
        ·cases h
       ·cases h
      ·cases h
     ·cases h
    ·cases h
   ·cases h
def pr (T:zP) (n:Nat) (ops:Array Oper) (M:List (Nat×List Value)):Nat→List Nat→List (Nat×Value)→List Oper→Option (List (Nat×Value)×List Oper×List Prop)
 |0,_,L,rest=>some (L,rest,[])
 |k+1,hs,L,[]=>none
 |k+1,hs,L,o::rest=>match o.dst with
  |none=>none
  |some d=>match Nat.blt d n with
   |false=>none
   |true=>match pv T ops M L hs o.guard o.op with
    |none=>none
    |some (v,S,hs')=>match pr T n ops M k hs' ((d,v)::L) rest with
     |none=>none
     |some (L',rest',S')=>some (L',rest',S++S')
theorem vl: ∀ {S S':List Prop},nA (S++S')→nA S∧nA S'
 |[],S',h=>⟨trivial,h⟩
 |p::S,S',h=>⟨⟨h.1,(vl h.2).1⟩,(vl h.2).2⟩
/-- whatever is closed under single steps -/
theorem GW {J:List Oper→List (Nat×Value)→Prop} (hT:jQ E.P T) (hM:MM C M) (hJ: ∀ o rest L d v,SD E ops o D L C v→o.dst=some d→Nat.blt d E.n=true→J rest ((d,v)::L)→J (o::rest) L):
 ∀ (k:Nat) (hs:List Nat) (L:List (Nat×Value)) (rest:List Oper) {L':List (Nat×Value)} {rest':List Oper} {S:List Prop},pr T E.n ops M k hs L rest=some (L',rest',S)→nA S→J rest' L'→J rest L
 |0,hs,L,rest,L',rest',S,h,hS,hj=>by
  unfold pr at h
  cases h
  exact hj
 |k+1,hs,L,[],L',rest',S,h,hS,hj=>by unfold pr at h; cases h
 |k+1,hs,L,o::rest,L',rest',S,h,hS,hj=>by
  unfold pr at h
  split at h
  ·cases h
  ·rename_i d hd
   split at h
   ·cases h
   ·rename_i hn
    split at h
    ·cases h
    ·rename_i v S1 A hv
     split at h
     ·cases h
     ·rename_i L1 G S2 hr
      cases h
      obtain ⟨B,F⟩:=vl hS
      exact hJ o rest L d v (LF hT hM hv B) hd hn (GW hT hM hJ k A _ rest hr F hj)
variable {Q:cM} {rest rest':List Oper} {L0 L':List (Nat×Value)} {S:List Prop} {F:List (Nat×Value)→Prop}
/-- a run of operations, one after the other -/
theorem rP (k:Nat) (hs:List Nat) (hM:MM C M) (j:RJ E ops Q rest' D L' C) (hT:jQ E.P T:=by exact n_) (h:pr T E.n ops M k hs L rest=some (L0,rest',S):=by rfl) (hL:L0=L':=by (try dsimp only)<;>rfl) (hS:nA S:=by repeat' first|exact True.intro |refine iZ ?_ ?_ |exact rfl|omega|(dsimp only; omega)):RJ E ops Q rest D L C:=by
 subst hL
 exact GW (J:=fun r L=>RJ E ops Q r D L C) hT hM (fun o rest L d v A B F G=>L_ A B F G) k hs L rest h hS j
theorem dP (k:Nat) (hs:List Nat) (hM:MM C M) (j:DJ E ops D C F rest' L') (hT:jQ E.P T:=by exact n_) (h:pr T E.n ops M k hs L rest=some (L0,rest',S):=by rfl) (hL:L0=L':=by (try dsimp only)<;>rfl) (hS:nA S:=by repeat' first|exact True.intro |refine iZ ?_ ?_ |exact rfl|omega):DJ E ops D C F rest L:=by
 subst hL
 exact GW (J:=fun r L=>DJ E ops D C F r L) hT hM (fun o rest L d v A B G H=>M8 A B G H) k hs L rest h hS j
end
section
variable {P:Program} {r:Option Nat} {n:Nat} {B:BS} {w0:World} {ops:Array Oper} {M:List (Nat×List Value)} {D:List Deferred} {L L':List (Nat×Value)} {C:List ao} {Q:cM} {rest rest':List Oper} {S:List Prop} {F:List (Nat×Value)→Prop}
theorem eZ (k:Nat) (hs:List Nat) (hM:MM C M) (h:pr TT n ops M k hs L rest=some (L',rest',S)) (j:RJ ⟨P,r,n,B,w0⟩ ops Q rest' D L' C) (hS:nA S:=by repeat' first|exact True.intro |refine iZ ?_ ?_ |exact rfl|omega|(dsimp only; omega)) (hT:jQ P TT:=by exact n_):RJ ⟨P,r,n,B,w0⟩ ops Q rest D L C:=rP k hs hM j hT h rfl hS
theorem lg (k:Nat) (hs:List Nat) (hM:MM C M) (h:pr TT n ops M k hs L rest=some (L',rest',S)) (j:DJ ⟨P,r,n,B,w0⟩ ops D C F rest' L') (hS:nA S:=by repeat' first|exact True.intro |refine iZ ?_ ?_ |exact rfl|omega|(dsimp only; omega)) (hT:jQ P TT:=by exact n_):DJ ⟨P,r,n,B,w0⟩ ops D C F rest L:=dP k hs hM j hT h rfl hS
theorem bp (k:Nat) (h:pr TT n ops [] k [] L rest=some (L',rest',S)) (j:RJ ⟨P,r,n,B,w0⟩ ops Q rest' D L' C) (hS:nA S:=by repeat' first|exact True.intro |refine iZ ?_ ?_ |exact rfl|omega|(dsimp only; omega)) (hT:jQ P TT:=by exact n_):RJ ⟨P,r,n,B,w0⟩ ops Q rest D L C:=rP k [] mn j hT h rfl hS
theorem jY (k:Nat) (h:pr TT n ops [] k [] L rest=some (L',rest',S)) (j:DJ ⟨P,r,n,B,w0⟩ ops D C F rest' L') (hS:nA S:=by repeat' first|exact True.intro |refine iZ ?_ ?_ |exact rfl|omega|(dsimp only; omega)) (hT:jQ P TT:=by exact n_):DJ ⟨P,r,n,B,w0⟩ ops D C F rest L:=dP k [] mn j hT h rfl hS
end
end
section
open Go.RowKit
/-- parts of a context, reckoned to the end -/
def vH (C:List ao):List Nat→Option (List ao)
 |[]=>some []
 |i::is=>match C[i]? with
  |some A=>match vH C is with
   |some l=>some (A::l)
   |none=>none
  |none=>none
theorem tf {C:List ao}: ∀ {is:List Nat} {C':List ao},vH C is=some C'→jt C is=C'
 |[],C',h=>by cases h; rfl
 |i::is,C',h=>by
  unfold vH at h
  split at h
  ·rename_i A hA
   split at h
   ·rename_i l hl
    cases h
    show List.filterMap (C[·]?) (i::is)=A::l
    rw [List.filterMap_cons_some hA]
    exact congrArg _ (tf hl)
   ·cases h
  ·cases h
/-- a part of a context in place of the whole -/
theorem aC {S:BS} {w0:World} {C C':List ao} (is:List Nat) (hn:decide is.Nodup=true:=by rfl) (hC:jt C is=C':=by rfl): ∀ w,St S w0 C w→St S w0 C' w:=fun w h=>St.jt is hn hC h
theorem MY {S:BS} {w0:World} {C C':List ao} (is:List Nat) (hC:vH C is=some C') (hn:decide is.Nodup=true:=by rfl): ∀ w,St S w0 C w→St S w0 C' w:=fun w h=>St.jt is hn (tf hC) h
def IP (C:List ao) (i:Nat) (B:ao):Option (List ao):=match i,C with
 |0,_::C=>some (B::C)
 |i+1,A::C=>match IP C i B with
  |some l=>some (A::l)
  |none=>none
 |_,[]=>none
theorem Bq: ∀ {C:List ao} {i:Nat} {B:ao} {C':List ao},IP C i B=some C'→C.set i B=C'
 |[],0,B,C',h=>by cases h
 |[],i+1,B,C',h=>by cases h
 |A::C,0,B,C',h=>by cases h; rfl
 |A::C,i+1,B,C',h=>by
  unfold IP at h
  split at h
  ·rename_i l hl
   cases h
   exact congrArg _ (Bq hl)
  ·cases h
theorem oz {E:eB} {K:Act→World→Prop} {D:List Deferred} {L:List (Nat×Value)} {C C':List ao} {A B:ao} (i:Nat) (hC:C[i]? =some A) (hh:(∀ w,A.holds w→B.holds w)∧(∀ b,B.eA b→A.eA b)∧ ∀ b,B.wf b→A.wf b) (hC':IP C i B=some C') (h:KJ E K D L C'):KJ E K D L C:=Ez i hC hh (Bq hC') h
/-- the operations of a region but these; marks of some places -/
def Oh (n:Nat) (T:List Nat):List Nat:=(List.range n).filter fun i=> !T.contains i
def Ps (k:Nat) (t:List Nat):List Bool:=(List.range k).map fun i=>t.contains i
theorem dj {E:eB} {id:Nat} {ops:Array Oper} {Q:cM} {D:List Deferred} {L:List (Nat×Value)} {C:List ao} (hm:E.P.follows .mixedOrders=true) (T fe tb i1 i2:List Nat) {C' C1:List ao} {free:List Nat} {feb tbb:List Bool}
 (h1:vH C i1=some C') (h2:vH C i2=some C1) (hf:free=Oh ops.size T) (hfe:feb=Ps free.length fe) (htb:tbb=Ps T.length tb)
 (h:oq E ops D C' C1 (fun L'=>TJ E ops D C' C1 (fun L C=>KJ E (Q .normal) D L C) tbb (dV ops T) L' C) feb (dV ops free) L)
 (hc:Hx ops free T feb tbb=true:=by kernel_rfl) (n1:decide i1.Nodup=true:=by rfl) (n2:decide i2.Nodup=true:=by rfl):WJ E (.region id ops true) Q D L C:=
 Hj hm free T feb tbb C' C1 hc (MY i1 h1 n1) (MY i2 h2 n2) h
end
section
open Go.RowKit
def s7 (T:zP) (M:List (Nat×List Value)) (L:List (Nat×Value)):List ResultVar→List Nat→Option (List Value×List Prop)
 |[],_=>some ([],[])
 | .tmp t::rs,hs=>match L.lookup t with
  |some v=>match s7 T M L rs hs with
   |some (vs,S)=>some (v::vs,S)
   |none=>none
  |none=>none
 | .cell a t::rs,hs=>match L.lookup a with
  |some (.pointer (some ⟨b,o,none⟩))=>match M[hs.headD 0]? with
   |some (b',cs)=>match T.Gu t with
    |some (false,_)=>match cs[o]? with
     |some v=>match s7 T M L rs hs.tail with
      |some (vs,S)=>some (v::vs,(b'=b)::S)
      |none=>none
     |none=>none
    |some (true,n)=>match Nat.beq o 0 with
     |true=>match Nat.beq cs.length n with
      |true=>match s7 T M L rs hs.tail with
       |some (vs,S)=>some (.agg cs.toArray::vs,(b'=b)::S)
       |none=>none
      |false=>none
     |false=>match s7 T M L rs hs.tail with
      |some (vs,S)=>some (.agg ((cs.drop o).take n).toArray::vs,(b'=b)::(((cs.drop o).take n).length=n)::S)
      |none=>none
    |none=>none
   |none=>none
  |_=>none
theorem l_ {P:Program} {T:zP} {M:List (Nat×List Value)} {L:List (Nat×Value)} {C:List ao} (hT:jQ P T) (hM:MM C M): ∀ (rs:List ResultVar) (hs:List Nat) {vs:List Value} {S:List Prop},s7 T M L rs hs=some (vs,S)→nA S→Dd P L C rs vs
 |[],_,vs,S,h,hS=>by unfold s7 at h; cases h; exact trivial
 | .tmp t::rs,hs,vs,S,h,hS=>by
  unfold s7 at h
  split at h
  ·rename_i v hv
   split at h
   ·rename_i vs' S' hr
    cases h
    exact ⟨hv,l_ hT hM rs hs hr hS⟩
   ·cases h
  ·cases h
 | .cell a t::rs,hs,vs,S,h,hS=>by
  unfold s7 at h
  split at h
  ·rename_i b o hl
   split at h
   ·rename_i b' cs hm
    have A:=aI hm
    split at h
    ·rename_i hk
     split at h
     ·rename_i v hv
      split at h
      ·rename_i vs' S' hr
       cases h
       obtain ⟨rfl,hS⟩:=hS
       exact ⟨⟨_,hl,.inr ⟨_,hT.Gu hk,hM _ A _ _ (sw hv)⟩⟩,l_ hT hM rs _ hr hS⟩
      ·cases h
     ·cases h
    ·rename_i n hk
     split at h
     ·rename_i ho
      split at h
      ·rename_i hn
       split at h
       ·rename_i vs' S' hr
        cases h
        obtain ⟨rfl,hS⟩:=hS
        have D:=Nat.eq_of_beq_eq_true ho
        subst D
        exact ⟨⟨_,hl,.inl ⟨_,cs,hT.Gu hk,hM _ A 0 cs sm,Nat.eq_of_beq_eq_true hn,U⟩⟩,l_ hT hM rs _ hr hS⟩
       ·cases h
      ·cases h
     ·split at h
      ·rename_i vs' S' hr
       cases h
       obtain ⟨rfl,B,hS⟩:=hS
       exact ⟨⟨_,hl,.inl ⟨_,_,hT.Gu hk,hM _ A o _ (by rw [B]),B,U⟩⟩,l_ hT hM rs _ hr hS⟩
      ·cases h
    ·cases h
   ·cases h
  ·cases h
section
variable {P:Program} {n:Nat} {fn:Func} {w0:World} {K:Act→World→Prop} {L:List (Nat×Value)} {C:List ao} {M:List (Nat×List Value)} {vs:List Value} {S:List Prop} {u x v:Value}
theorem Ir (hQ: ∀ D L C,LJ ⟨P,none,n,re,w0⟩ fn (Bl w0 v) D L C→KJ ⟨P,none,n,re,w0⟩ K D L C) (hs:List Nat) (hM:MM C M) (h:s7 TT M L fn.results.toList hs=some ([u],S)) (e:u=v) (hS:nA S:=by repeat' first|exact True.intro |refine iZ rfl ?_) (hT:jQ P TT:=by exact n_):KJ ⟨P,none,n,re,w0⟩ K [] L C:=
 hQ _ _ _ (jN (l_ hT hM _ _ h hS) fun w hs=>DV e hs)
theorem ja (hQ: ∀ D L C,LJ ⟨P,none,n,re,w0⟩ fn (Bl w0 v) D L C→KJ ⟨P,none,n,re,w0⟩ K D L C) (hs:List Nat) (hM:MM C M) (h:s7 TT M L fn.results.toList hs=some (u::x::vs,S)) (e:Value.tuple (u::x::vs).toArray=v) (hS:nA S:=by repeat' first|exact True.intro |refine iZ rfl ?_) (hT:jQ P TT:=by exact n_):KJ ⟨P,none,n,re,w0⟩ K [] L C:=
 hQ _ _ _ (jN (l_ hT hM _ _ h hS) fun w hs=>DV e hs)
theorem LX {α:Type} {V:α→Value} {p:α→Prop} {N:α→List ao} (hQ: ∀ D L C,LJ ⟨P,none,n,re,w0⟩ fn (Ef w0 V p N) D L C→KJ ⟨P,none,n,re,w0⟩ K D L C) (x:α) (is hs:List Nat) (hM:MM C M) (h:s7 TT M L fn.results.toList hs=some (vs,S)) (hw:(N x).all (·.wr)=true) (hN:jt C is=N x) (hV:Lg vs=V x) (hp:p x) (hn:decide is.Nodup=true:=by rfl) (hS:nA S:=by repeat' first|exact True.intro |refine iZ rfl ?_) (hT:jQ P TT:=by exact n_):KJ ⟨P,none,n,re,w0⟩ K [] L C:=
 hQ _ _ _ (jN (l_ hT hM _ _ h hS) fun w hs=>Mh x is hV hp hn hN hw hs)
theorem LM {A:ao} {α:Type} {V:α→Value} {p:α→Prop} {A':α→ao} (hQ: ∀ D L C,LJ ⟨P,none,n,⟨A.wf,fun _=>True⟩,w0⟩ fn (Hq w0 A V p A') D L C→KJ ⟨P,none,n,⟨A.wf,fun _=>True⟩,w0⟩ K D L C) (x:α) (i:Nat) (hs:List Nat) (hM:MM C M) (h:s7 TT M L fn.results.toList hs=some (vs,S)) (hw:(A' x).wr=true) (hC:C[i]? =some (A' x)) (hV:Lg vs=V x) (hp:p x) (hS:nA S:=by repeat' exact True.intro) (hT:jQ P TT:=by exact n_):KJ ⟨P,none,n,⟨A.wf,fun _=>True⟩,w0⟩ K [] L C:=
 hQ _ _ _ (jN (l_ hT hM _ _ h hS) fun w hs=>LI x i hV hp hC hw hs)
end
end
section
open Go.RowKit
def Bp {α:Type _}:List α→List α→Option (List α)
 |[],m=>some m
 |a::l,m=>match Bp l m with
  |some r=>some (a::r)
  |none=>none
theorem BO {α:Type _}: ∀ {l m r:List α},Bp l m=some r→l++m=r
 |[],m,r,h=>by cases h; rfl
 |a::l,m,r,h=>by
  unfold Bp at h
  split at h
  ·rename_i r' hr
   cases h
   exact congrArg (a:: ·) (BO hr)
  ·cases h
def NU (L:List (Nat×Value)):List Nat→Option (List (Nat×Value))
 |[]=>some []
 |t::ts=>match L.lookup t with
  |some v=>match NU L ts with
   |some r=>some ((t,v)::r)
   |none=>none
  |none=>none
theorem BA {L M:List (Nat×Value)} (k:cS L M): ∀ {ts:List Nat} {r:List (Nat×Value)},NU L ts=some r→cS L (r++M)
 |[],r,h=>by cases h; exact k
 |t::ts,r,h=>by
  unfold NU at h
  split at h
  ·rename_i v hv
   split at h
   ·rename_i r' hr
    cases h
    exact cS.cons hv (BA k hr)
   ·cases h
  ·cases h
section
variable {E:eB} {Q:cM} {D:List Deferred} {L L0:List (Nat×Value)} {C C0:List ao} {ι:Type} {Li:ι→List (Nat×Value)} {Ci:ι→List ao}
theorem bI {c:Code} (kL kC:List Nat) (hL:NU L kL=some L0) (hC0:vH C kC=some C0) (S:ι→List (Nat×Value)) (G:ι→List ao) (hLi: ∀ x,Bp L0 (S x)=some (Li x)) (hCi: ∀ x,Bp C0 (G x)=some (Ci x)) (μ:ι→Nat) (x0:ι)
 (h0:cS L (S x0)) (hC: ∀ w,St E.S E.w0 C w→St E.S E.w0 (Ci x0) w)
 (round: ∀ x (J:Act→World→Prop),(∀ y D' L' C',D'=D→μ y<μ x→cS L' (Li y)→(∀ w,St E.S E.w0 C' w→St E.S E.w0 (Ci y) w)→KJ E J D' L' C')→WJ E c (Exit.then J Q) D (Li x) (Ci x)):WJ E (.loop c) Q D L C:=
 KM Li Ci μ x0 (BO (hLi x0)▸BA h0 hL) hC round
theorem mu {x y:Code} (kL kC:List Nat) (hL:NU L kL=some L0) (hC0:vH C kC=some C0) (S:ι→List (Nat×Value)) (G:ι→List ao) (hLi: ∀ x,Bp L0 (S x)=some (Li x)) (hCi: ∀ x,Bp C0 (G x)=some (Ci x))
 (hy: ∀ z,WJ E y Q D (Li z) (Ci z)) (h: ∀ K:Act→World→Prop,(∀ z,KJ E K D (Li z) (Ci z))→WJ E x (Exit.then K Q) D L C):WJ E (.seq x y) Q D L C:=KI Li Ci hy h
end
end
section
open Go.RowKit
set_option linter.unusedSectionVars false
/-- what is asked of keys -/
structure rY (P:Program) (kt:Nat) {K:Type} (kV:K→Value):Prop where
 check: ∀ (e:Bool) (x:K) (w:World),(Instr.checkKey e 10000 kt (kV x)).run P w= .ok () w
 find: ∀ (x:K) (w:World) (es:List MapEntry),(∀ e∈es,∃ k,e.key=kV k)→
  ((Instr.findKey kt (kV x) es).run P w= .ok none w∧ ∀ e∈es,e.key≠kV x)∨ ∃ j e,(Instr.findKey kt (kV x) es).run P w= .ok (some (j,e.val)) w∧es[j]? =some e∧e.key=kV x
 bits: ∀ x,Instr.sameBits 10000 (kV x) (kV x)=true
 inj: ∀ x y,kV x=kV y→x=y
section
variable {K:Type} [DecidableEq K] {kV:K→Value}
def ei {β:Type} (l:List (K×β)) (x:K) (y:β):List (K×β):=if (l.lookup x).isSome then l.map (fun p=>if p.1=x then (x,y) else p) else l++[(x,y)]
def ep {β:Type} (l:List (K×β)) (x:K):List (K×β):=l.filter fun p=> !decide (p.1=x)
def cz {β γ:Type} (f:β→γ) (l:List (K×β)):List (K×γ):=l.map fun p=>(p.1,f p.2)
theorem kT {β γ:Type} (f:β→γ) (x:K): ∀ l:List (K×β),(cz f l).lookup x=(l.lookup x).map f
 |[]=>rfl
 |p::l=>by
  obtain ⟨k,v⟩:=p
  have ih:=kT f x l
  by_cases h:x=k
  ·subst h; simp [cz,List.lookup]
  ·have:(x==k)=false:=by simpa using h
   simp only [cz,List.map_cons,List.lookup,this] at ih ⊢
   exact ih
theorem gJ {β γ:Type} (f:β→γ) (l:List (K×β)) (x:K) (y:β):cz f (ei l x y)=ei (cz f l) x (f y):=by
 unfold ei
 rw [kT,Option.isSome_map]
 split
 ·simp only [cz,List.map_map]
  refine List.map_congr_left fun p _=>?_
  simp only [Function.comp]
  split<;>rfl
 ·simp [cz]
theorem n8 {β γ:Type} (f:β→γ) (l:List (K×β)) (x:K):cz f (ep l x)=ep (cz f l) x:=by
 unfold ep cz
 rw [List.filter_map]
 rfl
theorem hH {β:Type} {x:K}: ∀ {l:List (K×β)},l.lookup x=none↔ ∀ p∈l,p.1≠x
 |[]=>by simp
 |p::l=>by
  obtain ⟨k,v⟩:=p
  by_cases h:x=k
  ·subst h; simp [List.lookup]
  ·have hb:(x==k)=false:=by simpa using h
   simp only [List.lookup,hb,g8,forall_eq_or_imp]
   rw [hH (l:=l)]
   exact ⟨fun q=>⟨fun e=>h e.symm,q⟩,fun q=>q.2⟩
theorem ko {β:Type} {x:K} {y:β}: ∀ {l:List (K×β)},(l.map (·.1)).Nodup→((x,y)∈l↔l.lookup x=some y)
 |[],_=>by simp
 |p::l,hn=>by
  obtain ⟨k,v⟩:=p
  simp only [List.map_cons,List.nodup_cons] at hn
  by_cases h:x=k
  ·subst h
   simp only [List.lookup,beq_self_eq_true,g8,Prod.mk.injEq,true_and,Option.some.injEq]
   constructor
   ·rintro (e|e)
    ·exact e.symm
    ·exact absurd (List.mem_map.2 ⟨_,e,U⟩) hn.1
   ·intro e; exact .inl e.symm
  ·have hb:(x==k)=false:=by simpa using h
   simp only [List.lookup,hb,g8,Prod.mk.injEq,h,false_and,false_or]
   exact ko hn.2
structure gU (kV:K→Value) (es:Array MapEntry) (c:Nat) (m:List (K×Value)):Prop where
 list:es.toList.map (fun (e:MapEntry)=>(e.key,e.val))=m.map (fun p=>(kV p.1,p.2))
 keys:(m.map (·.1)).Nodup
 FY: ∀ e∈es.toList,e.born<c
 born:(es.toList.map (·.born)).Nodup
def jV (kV:K→Value) (b:Nat) (m:List (K×Value)):ao where
 eA k:=k=b
 wf k:=k=b
 holds w:= ∃ es c,w.heap[b]? =some (.map es c)∧gU kV es c m
 wr:=true
 jr _ h:=h
 whole _ _ h:=h
 lt w h k hk:=by obtain ⟨es,c,he,_⟩:=h; exact hk▸dy he
 mG w w' hk h:=by obtain ⟨es,c,he,hm⟩:=h; exact ⟨es,c,(hk b rfl).trans he,hm⟩
theorem gU.nil:gU kV #[] 0 []:=⟨rfl,List.nodup_nil,sm,List.nodup_nil⟩
theorem gU.size {es:Array MapEntry} {c:Nat} {m:List (K×Value)} (h:gU kV es c m):es.size=m.length:=by
 have:=congrArg List.length h.list
 simpa using this
theorem z_ {P:Program} {kt:Nat} (hk:rY P kt kV) (x:K): ∀ (es:List MapEntry) (m:List (K×Value)),es.map (fun (e:MapEntry)=>(e.key,e.val))=m.map (fun p=>(kV p.1,p.2))→
 ((∀ e∈es,e.key≠kV x)→m.lookup x=none)∧ ∀ (j:Nat) (e:MapEntry),es[j]? =some e→e.key=kV x→m[j]? =some (x,e.val):=by
 intro es m h
 refine ⟨fun hn=>hH.2 fun p hp e=>?_,fun j e he hx=>?_⟩
 ·have:(kV p.1,p.2)∈es.map (fun (e:MapEntry)=>(e.key,e.val)):=by rw [h]; exact List.mem_map.2 ⟨p,hp,rfl⟩
  obtain ⟨z,hz,B⟩:=List.mem_map.1 this
  simp only [Prod.mk.injEq] at B
  exact hn z hz (by rw [B.1,e])
 ·have A:(es.map (fun (e:MapEntry)=>(e.key,e.val)))[j]? =some (e.key,e.val):=by rw [eG,he]; rfl
  rw [h,eG] at A
  cases hm:m[j]? with
  |none=>simp [hm] at A
  |some p=>
   simp only [hm,Option.map_some,Option.some.injEq,Prod.mk.injEq] at A
   have:=hk.inj _ _ (A.1.trans hx)
   obtain ⟨k,v⟩:=p
   simp only at this A
   rw [this,A.2]
theorem mY {P:Program} {w:World} {kt:Nat} {x:K} {es:Array MapEntry} {c:Nat} {m:List (K×Value)} (hk:rY P kt kV) (h:gU kV es c m):
 ((Instr.findKey kt (kV x) es.toList).run P w= .ok none w∧m.lookup x=none)∨
 ∃ j v,(Instr.findKey kt (kV x) es.toList).run P w= .ok (some (j,v)) w∧m[j]? =some (x,v)∧m.lookup x=some v:=by
 obtain ⟨D,E⟩:=z_ hk x es.toList m h.list
 rcases hk.find x w es.toList (fun e he=>by
  have:(e.key,e.val)∈m.map (fun p=>(kV p.1,p.2)):=by rw [← h.list]; exact List.mem_map.2 ⟨e,he,rfl⟩
  obtain ⟨p,_,hp⟩:=List.mem_map.1 this
  simp only [Prod.mk.injEq] at hp
  exact ⟨p.1,hp.1.symm⟩) with ⟨A,B⟩|⟨j,e,A,B,C⟩
 ·exact .inl ⟨A,D B⟩
 ·have:=E j e B C
  exact .inr ⟨j,e.val,A,this,(ko h.keys).1 (aI this)⟩
theorem gM {P:Program} {w:World} {kt:Nat} {x:K} (hk:rY P kt kV) (e:Bool):(Instr.checkKey e 10000 kt (kV x)).run P w= .ok () w:=hk.check e x w
section
variable {E:eB} {ops:Array Oper} {Q:cM} {rest:List Oper} {D:List Deferred} {L:List (Nat×Value)} {C:List ao}
variable {dst:Option Tmp} {d:Nat} {ty:TypeId} {ps:String} {af:Array Edge} {g:Option (Nat×Bool)}
theorem oY {t:TypeId} (hg:jc ops L g=true) (hd:Nat.blt d E.n=true) (k: ∀ b,RJ E ops Q rest D ((d,.map (some b))::L) (jV kV b []::C)):RJ E ops Q (⟨some d,.makeMap t none,ty,ps,af,g⟩::rest) D L C:=by
 intro a w B hs
 have hd':d<E.n:=by rw [← Nat.blt_eq]; exact hd
 unfold qe
 rw [if_pos (dJ B hg)]
 refine gD (v:= .map (some w.heap.size)) (w':=w.alloc (.map #[] 0)) sm ?_ ?_
 ·simp [execOp,Instr.makeMap,newObj,Sem.run]
 ·refine k _ _ _ (B.put hd' _) (hs.grow (dk.alloc no w _) (N:=[jV kV w.heap.size []]) ⟨fun A hA=>?_,fun A hA b hb=>?_,List.pairwise_singleton _ _⟩)
  ·simp at hA; subst hA; exact ⟨#[],0,heap_alloc_new w _,gU.nil⟩
  ·simp at hA; subst hA; exact Nat.le_of_eq (Eq.symm hb)
theorem gU.push {es:Array MapEntry} {c:Nat} {m:List (K×Value)} (h:gU kV es c m) {x:K} (hx:m.lookup x=none) (v:Value):gU kV (es.push {key:=kV x,val:=v,born:=c}) (c+1) (m++[(x,v)]):=by
 refine ⟨by simp [h.list],?_,?_,?_⟩
 ·rw [List.map_append,List.nodup_append]
  refine ⟨h.keys,sm,fun a ha b hb=>?_⟩
  simp at hb; subst hb
  obtain ⟨p,hp,rfl⟩:=List.mem_map.1 ha
  exact hH.1 hx p hp
 ·intro e he
  simp only [Array.toList_push,qa,cu] at he
  rcases he with he|rfl
  ·exact Nat.lt_succ_of_lt (h.FY e he)
  ·exact Nat.lt_succ_self _
 ·simp only [Array.toList_push,List.map_append,List.map_cons,List.map_nil]
  rw [List.nodup_append]
  refine ⟨h.born,sm,fun a ha b hb=>?_⟩
  simp at hb; subst hb
  obtain ⟨p,hp,rfl⟩:=List.mem_map.1 ha
  exact Nat.ne_of_lt (h.FY p hp)
theorem HC {m:List (K×Value)} {j:Nat} {x:K} {v0 v:Value} (hn:(m.map (·.1)).Nodup) (hj:m[j]? =some (x,v0)):m.map (fun p=>if p.1=x then (x,v) else p)=m.set j (x,v):=by
 refine List.ext_getElem? fun i=>?_
 rw [eG,List.getElem?_set]
 by_cases e:j=i
 ·subst e
  have hl:=(List.getElem?_eq_some_iff.1 hj).1
  rw [hj]; simp [hl]
 ·rw [if_neg e]
  cases hi:m[i]? with
  |none=>rfl
  |some p=>
   simp only [Option.map_some]
   rw [if_neg]
   intro hp
   have B:(m.map (·.1))[i]? =some x:=by rw [eG,hi]; simp [hp]
   have C:(m.map (·.1))[j]? =some x:=by rw [eG,hj]; rfl
   have A:=(List.getElem?_eq_some_iff.1 B).1
   exact e (((List.getElem?_inj A hn).1 (B.trans C.symm)).symm)
theorem gU.set {es:Array MapEntry} {c:Nat} {m:List (K×Value)} (h:gU kV es c m) {x:K} {j:Nat} {v0:Value} (hj:m[j]? =some (x,v0)) (hx:m.lookup x=some v0) (v:Value):
 gU kV (es.modify j fun e=>{e with key:=kV x,val:=v}) c (ei m x v):=by
 have C:ei m x v=m.set j (x,v):=by unfold ei; rw [hx]; simpa using HC h.keys hj
 have hl:=(List.getElem?_eq_some_iff.1 hj).1
 have E:=h.size
 have A:j<es.size:=by omega
 have B:(es.modify j fun e=>{e with key:=kV x,val:=v}).toList=es.toList.set j {(es[j]) with key:=kV x,val:=v}:=by
  refine List.ext_getElem? fun i=>?_
  rw [Array.getElem?_toList,Array.getElem?_modify,List.getElem?_set]
  by_cases e:j=i
  ·subst e; simp [A]
  ·simp [e]
 have D:(es.toList.set j {(es[j]) with key:=kV x,val:=v}).map (·.born)=es.toList.map (·.born):=by
  rw [List.map_set]
  refine List.ext_getElem? fun i=>?_
  rw [List.getElem?_set]
  by_cases e:j=i
  ·subst e; simp [A]
  ·rw [if_neg e]
 refine ⟨?_,?_,?_,?_⟩
 ·rw [B,C,List.map_set,List.map_set,h.list]
 ·rw [C,List.map_set]
  have:(m.map (·.1)).set j x=m.map (·.1):=by
   refine List.ext_getElem? fun i=>?_
   rw [List.getElem?_set]
   by_cases e:j=i
   ·subst e; simp [hl]; simpa using (congrArg Prod.fst ((List.getElem?_eq_some_iff.1 hj).2)).symm
   ·rw [if_neg e]
  simp only [this]
  exact h.keys
 ·intro e he
  rw [B] at he
  have hb:e.born∈(es.toList.set j {(es[j]) with key:=kV x,val:=v}).map (·.born):=List.mem_map.2 ⟨e,he,rfl⟩
  rw [D] at hb
  obtain ⟨e',he',hq⟩:=List.mem_map.1 hb
  rw [← hq]; exact h.FY e' he'
 ·rw [B,D]; exact h.born
/-- m[x] = y -/
theorem jF {t kt et:TypeId} {xm xk xv:Operand} {b:Nat} {x:K} {v:Value} {m m':List (K×Value)} {C':List ao} (i:Nat) (hg:jc ops L g=true) (hm:ev L xm=some (.map (some b))) (hk:ev L xk=some (kV x)) (hv:ev L xv=some v)
 (ht:E.P.underlying t=some (.map kt et)) (hkt:rY E.P kt kV) (hC:C[i]? =some (jV kV b m)) (hm':ei m x v=m') (hC':C.set i (jV kV b m')=C') (k:RJ E ops Q rest D L C'):
 RJ E ops Q (⟨none,.mapUpdate t xm xk xv,ty,ps,af,g⟩::rest) D L C:=by
 subst hm' hC'
 intro a w A hs
 unfold qe
 rw [if_pos (dJ A hg)]
 obtain ⟨es,c,he,hi⟩:=hs.holds _ (aI hC)
 have B:(getObj b).run E.P w= .ok (.map es c) w:=MapKept.run_getObj_map he
 rcases mY (P:=E.P) (w:=w) (x:=x) hkt hi with ⟨AA,F⟩|⟨j,N,AA,F,J⟩
 ·refine py (w':={w with heap:=w.heap.setIfInBounds b (.map (es.push {key:=kV x,val:=v,born:=c}) (c+1))}) sm ?_ ?_
  ·simp [execOp,A.ev hm,A.ev hk,A.ev hv,Instr.mapUpdate,run_underlying ht,B,gM hkt,AA,MapKept.run_setObj_map _ he]
  ·refine k _ _ ⟨A.defers,A.size,A.at_⟩ (hs.zL (b:=b) i hC U U (lh _) (fun _ h=>h) ⟨_,_,nu he,?_⟩)
   have:ei m x v=m++[(x,v)]:=by unfold ei; rw [F]; rfl
   rw [this]; exact hi.push F v
 ·have M:=hi.size
  have G:j<es.size:=by have:=(List.getElem?_eq_some_iff.1 F).1; omega
  have H:(es[j]).key=kV x:=by
   have:=congrArg (fun l=>l[j]?) hi.list
   simp [G,F] at this
   exact this.1
  refine py (w':={w with heap:=w.heap.setIfInBounds b (.map (es.modify j fun e=>{e with key:=kV x,val:=v}) c)}) sm ?_ ?_
  ·simp [execOp,A.ev hm,A.ev hk,A.ev hv,Instr.mapUpdate,run_underlying ht,B,gM hkt,AA,MapKept.run_setObj_map _ he,Instr.keyThatStays,G,H,hkt.bits x]
  ·exact k _ _ ⟨A.defers,A.size,A.at_⟩ (hs.zL (b:=b) i hC U U (lh _) (fun _ h=>h) ⟨_,_,nu he,hi.set F J v⟩)
theorem gU.del {es:Array MapEntry} {c:Nat} {m:List (K×Value)} (h:gU kV es c m) {x:K} {j:Nat} {v0:Value} (hj:m[j]? =some (x,v0)):gU kV (es.eraseIdxIfInBounds j) c (ep m x):=by
 have hl:=(List.getElem?_eq_some_iff.1 hj).1
 have D:=h.size
 have A:j<es.size:=by omega
 have B:(es.eraseIdxIfInBounds j).toList=es.toList.eraseIdx j:=by simp [Array.eraseIdxIfInBounds,A]
 have E:ep m x=m.eraseIdx j:=by
  have hn:=h.keys
  clear h D A B
  induction m generalizing j with
  |nil=>simp at hj
  |cons p m ih=>
   obtain ⟨k,v⟩:=p
   simp only [List.map_cons,List.nodup_cons] at hn
   cases j with
   |zero=>
    simp at hj
    obtain ⟨rfl,rfl⟩:=hj
    simp only [ep,List.eraseIdx_zero,List.tail_cons]
    rw [List.filter_cons_of_neg sm]
    refine List.filter_eq_self.2 fun p hp=>?_
    have:p.1≠k:=fun e=>hn.1 (List.mem_map.2 ⟨p,hp,e⟩)
    simpa using this
   |succ j=>
    simp only [List.getElem?_cons_succ] at hj
    have C:k≠x:=fun e=>hn.1 (List.mem_map.2 ⟨_,aI hj,e.symm⟩)
    simp only [ep,List.eraseIdx_cons_succ] at ih ⊢
    rw [List.filter_cons_of_pos (by simpa using C),ih hj (by simpa using (List.getElem?_eq_some_iff.1 hj).1) hn.2]
 have sub:(es.eraseIdxIfInBounds j).toList.Sublist es.toList:=by rw [B]; exact List.eraseIdx_sublist _ _
 refine ⟨?_,?_,fun e he=>h.FY e (sub.subset he),h.born.sublist (sub.map _)⟩
 ·rw [B,E,ChangeMaps.map_eraseIdx,ChangeMaps.map_eraseIdx,h.list]
 ·rw [E]; exact h.keys.sublist ((List.eraseIdx_sublist _ _).map _)
theorem AZ {m:List (K×Value)} {x:K} (h:m.lookup x=none):ep m x=m:=List.filter_eq_self.2 fun p hp=>by simpa using hH.1 h p hp
/-- y, ok := m[x] -/
theorem E0 {t kt et:TypeId} {xm xk:Operand} {b:Nat} {x:K} {z:Value} {m:List (K×Value)} (hg:jc ops L g=true) (hm:ev L xm=some (.map (some b))) (hk:ev L xk=some (kV x))
 (ht:E.P.underlying t=some (.map kt et)) (hkt:rY E.P kt kV) (hz:tV E.P et=some z) (hC:fR C (jV kV b m).holds):
 SD E ops ⟨dst,.lookup t xm xk true,ty,ps,af,g⟩ D L C (.tuple [(m.lookup x).getD z,.bool (m.lookup x).isSome].toArray):=
 dU hg sm fun a w A hs=>by
  obtain ⟨es,c,he,hi⟩:=hs.has hC
  have B:(getObj b).run E.P w= .ok (.map es c) w:=MapKept.run_getObj_map he
  rcases mY (P:=E.P) (w:=w) (x:=x) hkt hi with ⟨F,G⟩|⟨j,AA,F,G,H⟩
  ·simp [execOp,Instr.lookup,A.ev hm,A.ev hk,run_underlying ht,B,gM hkt,F,G,GX hz]
  ·simp [execOp,Instr.lookup,A.ev hm,A.ev hk,run_underlying ht,B,gM hkt,F,H]
/-- m[x] -/
theorem CZ {t kt et:TypeId} {xm xk:Operand} {b:Nat} {x:K} {z:Value} {m:List (K×Value)} (hg:jc ops L g=true) (hm:ev L xm=some (.map (some b))) (hk:ev L xk=some (kV x))
 (ht:E.P.underlying t=some (.map kt et)) (hkt:rY E.P kt kV) (hz:tV E.P et=some z) (hC:fR C (jV kV b m).holds):
 SD E ops ⟨dst,.lookup t xm xk false,ty,ps,af,g⟩ D L C ((m.lookup x).getD z):=
 dU hg sm fun a w A hs=>by
  obtain ⟨es,c,he,hi⟩:=hs.has hC
  have B:(getObj b).run E.P w= .ok (.map es c) w:=MapKept.run_getObj_map he
  rcases mY (P:=E.P) (w:=w) (x:=x) hkt hi with ⟨F,G⟩|⟨j,AA,F,G,H⟩
  ·simp [execOp,Instr.lookup,A.ev hm,A.ev hk,run_underlying ht,B,gM hkt,F,G,GX hz]
  ·simp [execOp,Instr.lookup,A.ev hm,A.ev hk,run_underlying ht,B,gM hkt,F,H]
theorem lI {β:Type} {t kt et:TypeId} {xm xk:Operand} {b:Nat} {x:K} {f:β→Value} {z:β} {l:List (K×β)} (hg:jc ops L g=true) (hm:ev L xm=some (.map (some b))) (hk:ev L xk=some (kV x))
 (ht:E.P.underlying t=some (.map kt et)) (hkt:rY E.P kt kV) (hz:tV E.P et=some (f z)) (hC:fR C (jV kV b (cz f l)).holds):
 SD E ops ⟨dst,.lookup t xm xk true,ty,ps,af,g⟩ D L C (.tuple [f ((l.lookup x).getD z),.bool (l.lookup x).isSome].toArray):=by
 have:=E0 (dst:=dst) (ty:=ty) (ps:=ps) (af:=af) (D:=D) hg hm hk ht hkt hz hC
 rw [kT] at this
 have A:((l.lookup x).map f).getD (f z)=f ((l.lookup x).getD z):=by cases l.lookup x<;>rfl
 rw [A,Option.isSome_map] at this
 exact this
theorem sJ {β:Type} {t kt et:TypeId} {xm xk:Operand} {b:Nat} {x:K} {f:β→Value} {z:β} {l:List (K×β)} (hg:jc ops L g=true) (hm:ev L xm=some (.map (some b))) (hk:ev L xk=some (kV x))
 (ht:E.P.underlying t=some (.map kt et)) (hkt:rY E.P kt kV) (hz:tV E.P et=some (f z)) (hC:fR C (jV kV b (cz f l)).holds):
 SD E ops ⟨dst,.lookup t xm xk false,ty,ps,af,g⟩ D L C (f ((l.lookup x).getD z)):=by
 have:=CZ (dst:=dst) (ty:=ty) (ps:=ps) (af:=af) (D:=D) hg hm hk ht hkt hz hC
 rw [kT] at this
 have A:((l.lookup x).map f).getD (f z)=f ((l.lookup x).getD z):=by cases l.lookup x<;>rfl
 rw [A] at this
 exact this
end
theorem ky {β:Type} {x:K} {y:β} {l:List (K×β)} (h:(x,y)∈l):(ep l x).length<l.length:=by
 unfold ep
 exact List.length_filter_lt_length_iff_exists.2 ⟨_,h,sm⟩
theorem wo {β:Type} {x:K} {p:K×β} {l:List (K×β)}:p∈ep l x↔p∈l∧p.1≠x:=by simp [ep]
/-- an iterator over a map: what is left; what came last -/
def w7 (kV:K→Value) (r b:Nat) (m left:List (K×Value)) (cur:Option (K×Value)):ao where
 eA k:=k=r∨k=b
 wf k:=k=r∨k=b
 holds w:=r≠b∧ ∃ (es:Array MapEntry) (c since:Nat) (seen:Array Nat) (st:Nat),w.heap[b]? =some (.map es c)∧gU kV es c m∧w.heap[r]? =some (.mapIter (some b) since seen st)∧(∀ e∈es.toList,e.born<since)∧since≤st∧since≤c∧
  (leftOf es seen).toList.map (fun (e:MapEntry)=>(e.key,e.val))=left.map (fun p=>(kV p.1,p.2))∧
  ∀ p,cur=some p→ ∃ (e:MapEntry) (seen0:Array Nat),e∈es.toList∧seen=seen0.push e.born∧st=c∧e.key=kV p.1∧e.val=p.2
 wr:=true
 jr _ h:=h
 whole _ _ h:=h
 lt w h k hk:=by
  obtain ⟨_,es,c,since,seen,st,h1,_,h2,_⟩:=h
  rcases hk with rfl|rfl
  ·exact dy h2
  ·exact dy h1
 mG w w' hk h:=by
  obtain ⟨hne,es,c,since,seen,st,h1,h2,h3,h4⟩:=h
  exact ⟨hne,es,c,since,seen,st,(hk b (.inr rfl)).trans h1,h2,(hk r (.inl rfl)).trans h3,h4⟩
theorem yc {r b:Nat} {m left:List (K×Value)} {cur:Option (K×Value)}:(∀ w,(w7 kV r b m left cur).holds w→(w7 kV r b m left none).holds w)∧(∀ k,(w7 kV r b m left none).eA k→(w7 kV r b m left cur).eA k)∧ ∀ k,(w7 kV r b m left none).wf k→(w7 kV r b m left cur).wf k:=
 ⟨fun w h=>by
  obtain ⟨A,es,c,since,seen,st,B,C,D,E,F,h5',G,_⟩:=h
  exact ⟨A,es,c,since,seen,st,B,C,D,E,F,h5',G,fun p hp=>by cases hp⟩,fun _ h=>h,fun _ h=>h⟩
theorem GL {r b:Nat} {m left:List (K×Value)} {cur:Option (K×Value)}:(∀ w,(w7 kV r b m left cur).holds w→(jV kV b m).holds w)∧(∀ k,(jV kV b m).eA k→(w7 kV r b m left cur).eA k)∧ ∀ k,(jV kV b m).wf k→(w7 kV r b m left cur).wf k:=
 ⟨fun w h=>by
  obtain ⟨C,es,c,since,seen,st,A,B,_⟩:=h
  exact ⟨es,c,A,B⟩,fun _ h=> .inr h,fun _ h=> .inr h⟩
theorem yV {es:Array MapEntry} {c:Nat} {m:List (K×Value)} (hinj: ∀ x y,kV x=kV y→x=y) (hi:gU kV es c m) {x y:MapEntry} (hx:x∈es.toList) (hy:y∈es.toList) (e:x.key=y.key):x=y:=by
 have hk:(es.toList.map (·.key))=(m.map (·.1)).map kV:=by
  have:=congrArg (List.map Prod.fst) hi.list
  simpa [Function.comp_def] using this
 have h:(es.toList.map (·.key)).Nodup:=by
  rw [hk,List.nodup_iff_pairwise_ne,List.pairwise_map]
  exact hi.keys.imp (fun B he=>B (hinj _ _ he))
 obtain ⟨i,A⟩:=List.getElem?_of_mem hx
 obtain ⟨j,hj⟩:=List.getElem?_of_mem hy
 have C:(es.toList.map (·.key))[i]? =some x.key:=by rw [eG,A]; rfl
 have D:(es.toList.map (·.key))[j]? =some x.key:=by rw [eG,hj,e]; rfl
 have E:=(List.getElem?_inj (List.getElem?_eq_some_iff.1 C).1 h).1 (C.trans D.symm)
 subst E
 exact Option.some.inj (A.symm.trans hj)
section
variable {E:eB} {ops:Array Oper} {Q:cM} {rest:List Oper} {D:List Deferred} {L:List (Nat×Value)} {C:List ao}
variable {dst:Option Tmp} {d:Nat} {ty:TypeId} {ps:String} {af:Array Edge} {g:Option (Nat×Bool)}
theorem wM {t kt et:TypeId} {xm:Operand} {b:Nat} {m:List (K×Value)} (i:Nat) (hg:jc ops L g=true) (hm:ev L xm=some (.map (some b))) (ht:E.P.underlying t=some (.map kt et)) (hC:C[i]? =some (jV kV b m)) (hd:Nat.blt d E.n=true)
 (k: ∀ r,RJ E ops Q rest D ((d,.pointer (some ⟨r,0,none⟩))::L) (C.set i (w7 kV r b m m none))):RJ E ops Q (⟨some d,.range t xm,ty,ps,af,g⟩::rest) D L C:=by
 intro a w A hs
 have hd':d<E.n:=by rw [← Nat.blt_eq]; exact hd
 unfold qe
 rw [if_pos (dJ A hg)]
 obtain ⟨es,c,he,hi⟩:=hs.holds _ (aI hC)
 have F:b<w.heap.size:=dy he
 have B:(getObj b).run E.P w= .ok (.map es c) w:=MapKept.run_getObj_map he
 refine gD (v:= .pointer (some ⟨w.heap.size,0,none⟩)) (w':=w.alloc (.mapIter (some b) c #[] c)) sm ?_ ?_
 ·simp [execOp,Instr.range,A.ev hm,run_underlying ht,B,newObj,Sem.run]
 ·refine k _ _ _ (A.put hd' _) (hs.mv i hC ⟨⟨I,es,c,c,#[],c,?_,hi,heap_alloc_new w _,hi.FY,Nat.le_refl _,Nat.le_refl _,?_,fun p hp=>by cases hp⟩,dk.alloc _ w _,fun q hq=>?_,fun q hq=>?_⟩)
  ·rw [Below.heap_alloc w _ b F]; exact he
  ·have:leftOf es #[]=es:=by unfold leftOf; exact Array.filter_eq_self.2 sm
   rw [this]; exact hi.list
  ·rcases hq with rfl|rfl
   ·exact .inr (Nat.le_refl _)
   ·exact .inl U
  ·rcases hq with rfl|rfl
   ·exact .inr (Nat.le_refl _)
   ·exact .inl U
theorem uw {es:Array MapEntry} {c:Nat} {m left:List (K×Value)} {seen:Array Nat} (hinj: ∀ x y,kV x=kV y→x=y) (hi:gU kV es c m) (h:(leftOf es seen).toList.map (fun (e:MapEntry)=>(e.key,e.val))=left.map (fun p=>(kV p.1,p.2))):(left.map (·.1)).Nodup:=by
 have B:((leftOf es seen).toList.map (·.key)).Sublist (es.toList.map (·.key)):=by
  unfold leftOf; rw [Array.toList_filter]; exact List.filter_sublist.map _
 have D:(es.toList.map (·.key))=(m.map (·.1)).map kV:=by
  have:=congrArg (List.map Prod.fst) hi.list
  simpa [Function.comp_def] using this
 have E:((leftOf es seen).toList.map (·.key))=(left.map (·.1)).map kV:=by
  have:=congrArg (List.map Prod.fst) h
  simpa [Function.comp_def] using this
 rw [D,E] at B
 have F:((m.map (·.1)).map kV).Nodup:=by
  rw [List.nodup_iff_pairwise_ne,List.pairwise_map]
  exact hi.keys.imp (fun A he=>A (hinj _ _ he))
 have C:=F.sublist B
 rw [List.nodup_iff_pairwise_ne,List.pairwise_map] at C
 rw [List.nodup_iff_pairwise_ne]
 exact C.imp (fun A he=>A (by rw [he]))
theorem GJ (hinj: ∀ x y,kV x=kV y→x=y) {xi:Operand} {r b:Nat} {m left:List (K×Value)} {cur:Option (K×Value)} (i:Nat) (hg:jc ops L g=true) (hm:ev L xi=some (.pointer (some ⟨r,0,none⟩))) (hC:C[i]? =some (w7 kV r b m left cur)) (hd:Nat.blt d E.n=true)
 (k0:left=[]→RJ E ops Q rest D ((d,.tuple [.bool false].toArray)::L) C)
 (k1: ∀ x v,(x,v)∈left→(left.map (·.1)).Nodup→RJ E ops Q rest D ((d,.tuple [.bool true,kV x,v].toArray)::L) (C.set i (w7 kV r b m (ep left x) (some (x,v))))):
 RJ E ops Q (⟨some d,.next xi false,ty,ps,af,g⟩::rest) D L C:=by
 intro a w G hs
 have hd':d<E.n:=by rw [← Nat.blt_eq]; exact hd
 unfold qe
 rw [if_pos (dJ G hg)]
 obtain ⟨R,es,c,since,seen,st,X,hi,Y,J,V,M,A,_⟩:=hs.holds _ (aI hC)
 rcases run_next_at (P:=E.P) w ty r b since st seen es c Y X J V with ⟨Z,hr⟩|⟨e,he,N,H,hr⟩
 ·refine gD (v:= .tuple #[.bool false]) (w':=w) sm ?_ ?_
  ·simp [execOp,G.ev hm,hr]
  ·refine k0 ?_ _ _ (G.put hd' _) hs
   have:(leftOf es seen).toList=[]:=by rw [← List.length_eq_zero_iff,Array.length_toList]; exact Z
   rw [this] at A
   exact List.map_eq_nil_iff.1 A.symm
 ·have O:(e.key,e.val)∈left.map (fun p=>(kV p.1,p.2)):=by rw [← A]; exact List.mem_map.2 ⟨e,he,rfl⟩
  obtain ⟨p,hp,S⟩:=List.mem_map.1 O
  obtain ⟨x,v⟩:=p
  simp only [Prod.mk.injEq] at S
  obtain ⟨hk,hv⟩:=S
  refine gD (v:= .tuple #[.bool true,e.key,e.val]) (w':=ChangeMaps.setBlock N r (.mapIter (some b) since (seen.push e.born) c)) sm ?_ ?_
  ·simp [execOp,G.ev hm,hr]
  ·rw [← hk,← hv]
   have AA:=uw hinj hi A
   have F:e∈es.toList:=by unfold leftOf at he; rw [Array.toList_filter] at he; exact (List.mem_filter.1 he).1
   have f:c=c:=rfl
   have B:N.heap=w.heap:=by rcases H with rfl|rfl<;>rfl
   refine k1 x v hp AA _ _ (G.put hd' _) (hs.mv i hC ⟨⟨R,es,c,since,seen.push e.born,c,?_,hi,?_,J,M,M,?_,fun q hq=>?_⟩,?_,fun q hq=> .inl hq,fun q hq=> .inl hq⟩)
   ·show (N.heap.setIfInBounds r _)[b]? =_
    rw [Array.getElem?_setIfInBounds_ne R,B]; exact X
   ·show (N.heap.setIfInBounds r _)[r]? =_
    rw [Array.getElem?_setIfInBounds_self_of_lt (by rw [B]; exact dy Y)]
   ·have T:leftOf es (seen.push e.born)=(leftOf es seen).filter (fun z=> !(z.born==e.born)):=by
     unfold leftOf
     rw [Array.filter_filter]
     congr 1
     funext z
     simp only [Array.contains_push,Bool.not_or]
     rw [Bool.and_comm]
    rw [T,Array.toList_filter]
    have key: ∀ (l:List MapEntry) (ll:List (K×Value)),(∀ z∈l,z∈es.toList)→l.map (fun (e:MapEntry)=>(e.key,e.val))=ll.map (fun p=>(kV p.1,p.2))→
     (l.filter (fun z=> !(z.born==e.born))).map (fun (e:MapEntry)=>(e.key,e.val))=(ep ll x).map (fun p=>(kV p.1,p.2)):=by
     intro l
     induction l with
     |nil=>intro ll _ h; cases ll with
      |nil=>rfl
      |cons p ll=>simp at h
     |cons z l ih=>
      intro ll hz h
      cases ll with
      |nil=>simp at h
      |cons p ll=>
       simp only [List.map_cons,List.cons.injEq,Prod.mk.injEq] at h
       have ih':=ih ll (fun y hy=>hz y (by simp [hy])) h.2
       have AB:(z.born=e.born)↔(p.1=x):=by
        constructor
        ·intro hb
         have:z=e:=zI hi.born (hz z sm) F hb
         rw [this] at h
         have:=h.1.1.symm.trans hk.symm
         exact hinj _ _ this
        ·intro hx
         have W:z.key=e.key:=by rw [h.1.1,hx,hk]
         rw [yV hinj hi (hz z sm) F W]
       unfold ep at ih' ⊢
       by_cases hx:p.1=x
       ·rw [List.filter_cons_of_neg (by simp [AB.2 hx]),List.filter_cons_of_neg (by simp [hx])]; exact ih'
       ·rw [List.filter_cons_of_pos (by simpa using fun hb=>hx (AB.1 hb)),List.filter_cons_of_pos (by simpa using hx)]
        simp only [List.map_cons,h.1.1,h.1.2,ih']
    exact key _ _ (fun z hz=>by unfold leftOf at hz; rw [Array.toList_filter] at hz; exact (List.mem_filter.1 hz).1) A
   ·cases hq
    exact ⟨e,seen,F,U,U,hk.symm,hv.symm⟩
   ·refine ⟨?_,?_,?_,?_,fun q hq hn=>?_⟩
    ·rcases H with rfl|rfl<;>rfl
    ·rcases H with rfl|rfl<;>rfl
    ·rcases H with rfl|rfl<;>rfl
    ·show w.heap.size≤(N.heap.setIfInBounds r _).size
     simp [B]
    ·show (N.heap.setIfInBounds r _)[q]? =_
     rw [Array.getElem?_setIfInBounds_ne (fun e=>hn (.inl e.symm)),B]
theorem u9 {xi:Operand} {r b:Nat} {m left:List (K×Value)} {x:K} {v:Value} (i:Nat) (hg:jc ops L g=true) (hm:ev L xi=some (.pointer (some ⟨r,0,none⟩))) (hC:C[i]? =some (w7 kV r b m left (some (x,v)))):
 SD E ops ⟨dst,.entry xi,ty,ps,af,g⟩ D L C (.tuple [kV x,v].toArray):=
 dU hg sm fun a w F hs=>by
  obtain ⟨N,es,c,since,seen,st,J,hi,M,H,O,AA,G,B⟩:=hs.holds _ (aI hC)
  obtain ⟨e,A,he,rfl,rfl,hk,hv⟩:=B _ rfl
  have:=run_entry_at (P:=E.P) w r b since A es st e M J he hi.born
  simp [execOp,F.ev hm,this,hk,hv]
theorem uu (hinj: ∀ x y,kV x=kV y→x=y) {β:Type} {f:β→Value} {xi:Operand} {r b:Nat} {m:List (K×Value)} {ll:List (K×β)} {cur:Option (K×Value)} (i:Nat) (hg:jc ops L g=true) (hm:ev L xi=some (.pointer (some ⟨r,0,none⟩))) (hC:C[i]? =some (w7 kV r b m (cz f ll) cur)) (hd:Nat.blt d E.n=true)
 (k0:ll=[]→RJ E ops Q rest D ((d,.tuple [.bool false].toArray)::L) C)
 (k1: ∀ x y,(x,y)∈ll→(ll.map (·.1)).Nodup→RJ E ops Q rest D ((d,.tuple [.bool true,kV x,f y].toArray)::L) (C.set i (w7 kV r b m (cz f (ep ll x)) (some (x,f y))))):
 RJ E ops Q (⟨some d,.next xi false,ty,ps,af,g⟩::rest) D L C:=by
 refine GJ hinj i hg hm hC hd (fun h=>k0 (List.map_eq_nil_iff.1 h)) (fun x v B hn=>?_)
 obtain ⟨p,hp,A⟩:=List.mem_map.1 B
 simp only [Prod.mk.injEq] at A
 obtain ⟨rfl,rfl⟩:=A
 have:=k1 p.1 p.2 hp (by simpa [cz,Function.comp_def] using hn)
 rwa [n8] at this
end
end
end
section
structure bJ where
 Start:Int
 eX:Int
 oc:List Int
 sN:List (List (Int×aa))
 cW:Int
 eO:Int
 JN:Int
def bJ.n (w:bJ):Nat:=w.oc.length
def ej (s:Int):ar:=if s<0 then ⟨0,1⟩ else ⟨1,0⟩
def cP (a b:ar):ar:=⟨a.right+b.right,a.dT+b.dT⟩
def qP (w:bJ) (b:Nat):List (Int×aa):=(w.sN[b]?).getD []
def gr (w:bJ) (b:Nat):List (Int×aa):=(-1,⟨w.Start,w.eX⟩)::qP w b
def bK (w:bJ) (b:Nat):Int:=(w.oc[b]?).getD 0
def jB (w:bJ) (b:Nat) (p:ar×Int) (o:Int×aa):Option (ar×Int):=if max (p.2+bK w b) o.2.Lo≤min o.2.Hi w.eX then some (cP p.1 (ej o.1),max (p.2+bK w b) o.2.Lo) else none
def fwd (w:bJ):Nat→List (ar×Int)
 |0=>[(⟨0,0⟩,w.Start)]
 |b+1=>(fwd w b).flatMap fun p=>(gr w b).filterMap (jB w b p)
def lY (w:bJ) (b:Nat) (p:ar×Int) (o:Int×aa):Option (ar×Int):=if o.2.Lo≤min p.2 o.2.Hi then some (cP p.1 (ej o.1),min p.2 o.2.Hi-bK w b) else none
def bwd (w:bJ):Nat→List (ar×Int)
 |0=>[(⟨0,0⟩,w.eX)]
 |k+1=>(⟨0,0⟩,w.eX)::(bwd w k).flatMap fun p=>(gr w (w.n-(k+1))).filterMap (lY w (w.n-(k+1)) p)
def back (w:bJ) (b:Nat):List (ar×Int):=bwd w (w.n-b)
def jl (w:bJ) (t:ar):Bool:=decide (t.dT≤w.cW∧w.JN-t.right≤w.eO)
theorem eT {w:bJ} {b:Nat} {q:ar×Int}:q∈fwd w (b+1)↔ ∃ p∈fwd w b,∃ o∈gr w b,jB w b p o=some q:=by
 simp only [fwd,List.mem_flatMap,List.mem_filterMap]
theorem rJ {w:bJ} {b:Nat} (h:w.n≤b):back w b=[(⟨0,0⟩,w.eX)]:=by
 unfold back; rw [Nat.sub_eq_zero_of_le h]; rfl
theorem nk {w:bJ} {b:Nat} (h:b<w.n) {q:ar×Int}:q∈back w b↔q=(⟨0,0⟩,w.eX)∨ ∃ p∈back w (b+1),∃ o∈gr w b,lY w b p o=some q:=by
 unfold back
 have e:w.n-b=(w.n-(b+1))+1:=by omega
 rw [e]
 simp only [bwd,g8,List.mem_flatMap,List.mem_filterMap]
 rw [show w.n-(w.n-(b+1)+1)=b by omega]
def qH (m c:List (ar×Int)):Prop:=(∀ t v,m.lookup t=some v→(t,v)∈c)∧ ∀ t y,(t,y)∈c→ ∃ v,m.lookup t=some v∧v≤y
def sO (m c:List (ar×Int)):Prop:=(∀ t v,m.lookup t=some v→(t,v)∈c)∧ ∀ t y,(t,y)∈c→ ∃ v,m.lookup t=some v∧y≤v
def sL (m c:List (ar×Int)):Prop:= ∀ t v,m.lookup t=some v→(t,v)∈c
theorem kX {K β:Type} [DecidableEq K] {m:List (K×β)} {x t:K} {y:β}:(ei m x y).lookup t=if t=x then some y else m.lookup t:=by
 unfold ei
 by_cases hx:(m.lookup x).isSome
 ·rw [if_pos hx]
  have key: ∀ l:List (K×β),(l.lookup x).isSome∨True→(l.map (fun p=>if p.1=x then (x,y) else p)).lookup t=if t=x then (if (l.lookup x).isSome then some y else none) else l.lookup t:=by
   intro l _
   induction l with
   |nil=>simp
   |cons p l ih=>
    obtain ⟨k,v⟩:=p
    have ih:=ih (.inr trivial)
    by_cases hk:k=x
    ·subst hk
     by_cases ht:t=k
     ·subst ht; simp [List.lookup]
     ·have:(t==k)=false:=by simpa using ht
      simp only [List.map_cons,if_true,List.lookup,this,ih,if_neg ht]
    ·have hk':(x==k)=false:=by simpa using fun e=>hk e.symm
     by_cases ht:t=k
     ·subst ht; simp [List.lookup,hk]
     ·have A:(t==k)=false:=by simpa using ht
      simp only [List.map_cons,if_neg hk,List.lookup,A,ih,hk']
  rw [key m (.inr trivial)]
  by_cases ht:t=x
  ·subst ht
   rw [if_pos rfl,if_pos rfl,if_pos hx]
  ·rw [if_neg ht,if_neg ht]
 ·rw [if_neg hx]
  have hn:m.lookup x=none:=by cases h0:m.lookup x with
   |none=>rfl
   |some v=>exact absurd (by rw [h0]; rfl) hx
  by_cases ht:t=x
  ·subst ht
   rw [if_pos rfl]
   have:=hH.1 hn
   clear hn hx
   induction m with
   |nil=>simp
   |cons p m ih=>
    obtain ⟨k,v⟩:=p
    have hk:(t==k)=false:=by simpa using fun e=>this (k,v) sm e.symm
    simp only [List.cons_append,List.lookup,hk]
    exact ih (fun q hq=>this q (dq _ hq))
  ·rw [if_neg ht]
   clear hn hx
   induction m with
   |nil=>
    have:(t==x)=false:=by simpa using ht
    simp [List.lookup,this]
   |cons p m ih=>
    obtain ⟨k,v⟩:=p
    by_cases hk:t=k
    ·subst hk; simp [List.lookup]
    ·have:(t==k)=false:=by simpa using hk
     simp only [List.cons_append,List.lookup,this]
     exact ih
/-- what a map is after a try -/
def nt (m:List (ar×Int)) (q:ar×Int):List (ar×Int):=match m.lookup q.1 with
 |none=>ei m q.1 q.2
 |some v=>if q.2<v then ei m q.1 q.2 else m
def mW (m:List (ar×Int)) (q:ar×Int):List (ar×Int):=match m.lookup q.1 with
 |none=>ei m q.1 q.2
 |some v=>if v<q.2 then ei m q.1 q.2 else m
theorem uj {m:List (ar×Int)} {q:ar×Int} {t:ar}:(nt m q).lookup t=if t=q.1 then some (match m.lookup q.1 with |none=>q.2|some v=>min q.2 v) else m.lookup t:=by
 unfold nt
 cases h:m.lookup q.1 with
 |none=>simp only; rw [kX]
 |some v=>
  simp only
  split
  ·rename_i A
   rw [kX,Int.min_eq_left I]
  ·rename_i A
   split
   ·rename_i e; subst e; rw [h,Int.min_eq_right I]
   ·rfl
theorem uV {m:List (ar×Int)} {q:ar×Int} {t:ar}:(mW m q).lookup t=if t=q.1 then some (match m.lookup q.1 with |none=>q.2|some v=>max q.2 v) else m.lookup t:=by
 unfold mW
 cases h:m.lookup q.1 with
 |none=>simp only; rw [kX]
 |some v=>
  simp only
  split
  ·rename_i A
   rw [kX,Int.max_eq_left I]
  ·rename_i A
   split
   ·rename_i e; subst e; rw [h,Int.max_eq_right I]
   ·rfl
def tM (m m':List (ar×Int)):Prop:= ∀ t v,m.lookup t=some v→ ∃ v',m'.lookup t=some v'∧v'≤v
def ub (m m':List (ar×Int)):Prop:= ∀ t v,m.lookup t=some v→ ∃ v',m'.lookup t=some v'∧v≤v'
theorem tM.refl (m:List (ar×Int)):tM m m:=fun t v h=>⟨v,h,I⟩
theorem ub.refl (m:List (ar×Int)):ub m m:=fun t v h=>⟨v,h,I⟩
theorem sD {m:List (ar×Int)} {q:ar×Int}:tM m (nt m q):=fun t v h=>by
 rw [uj]
 split
 ·rename_i e; subst e; rw [h]; exact ⟨_,rfl,by simp only; omega⟩
 ·exact ⟨v,h,I⟩
theorem oD {m:List (ar×Int)} {q:ar×Int}:ub m (mW m q):=fun t v h=>by
 rw [uV]
 split
 ·rename_i e; subst e; rw [h]; exact ⟨_,rfl,by simp only; omega⟩
 ·exact ⟨v,h,I⟩
theorem Dx {m c:List (ar×Int)} {q:ar×Int} (h:sL m c) (hq:q∈c):sL (nt m q) c:=fun t v hv=>by
 rw [uj] at hv
 split at hv
 ·rename_i e
  subst e
  cases hm:m.lookup q.1 with
  |none=>simp only [hm,Option.some.injEq] at hv; subst hv; exact hq
  |some x=>
   simp only [hm,Option.some.injEq] at hv; subst hv
   rcases Int.lt_or_le q.2 x with A|A
   ·rw [Int.min_eq_left I]; exact hq
   ·rw [Int.min_eq_right I]; exact h _ _ hm
 ·exact h t v hv
theorem Cu {m c:List (ar×Int)} {q:ar×Int} (h:sL m c) (hq:q∈c):sL (mW m q) c:=fun t v hv=>by
 rw [uV] at hv
 split at hv
 ·rename_i e
  subst e
  cases hm:m.lookup q.1 with
  |none=>simp only [hm,Option.some.injEq] at hv; subst hv; exact hq
  |some x=>
   simp only [hm,Option.some.injEq] at hv; subst hv
   rcases Int.lt_or_le q.2 x with A|A
   ·rw [Int.max_eq_right I]; exact h _ _ hm
   ·rw [Int.max_eq_left I]; exact hq
 ·exact h t v hv
theorem DL {m:List (ar×Int)} {q:ar×Int}: ∃ v,(nt m q).lookup q.1=some v∧v≤q.2:=by
 rw [uj,if_pos rfl]
 refine ⟨_,U,?_⟩
 cases m.lookup q.1<;>simp only <;>omega
theorem D8 {m:List (ar×Int)} {q:ar×Int}: ∃ v,(mW m q).lookup q.1=some v∧q.2≤v:=by
 rw [uV,if_pos rfl]
 refine ⟨_,U,?_⟩
 cases m.lookup q.1<;>simp only <;>omega
/-- all that comes of one entry, by some options, is held -/
def gS (w:bJ) (b:Nat) (m:List (ar×Int)) (p:ar×Int) (os:List (Int×aa)):Prop:= ∀ o∈os,∀ q,jB w b p o=some q→ ∃ v,m.lookup q.1=some v∧v≤q.2
def gV (w:bJ) (b:Nat) (m:List (ar×Int)) (p:ar×Int) (os:List (Int×aa)):Prop:= ∀ o∈os,∀ q,lY w b p o=some q→ ∃ v,m.lookup q.1=some v∧q.2≤v
theorem gS.lower {w:bJ} {b:Nat} {m m':List (ar×Int)} {p:ar×Int} {os:List (Int×aa)} (h:gS w b m p os) (hl:tM m m'):gS w b m' p os:=fun o ho q hq=>by
 obtain ⟨v,A,C⟩:=h o ho q hq
 obtain ⟨v',B,D⟩:=hl _ _ A
 exact ⟨v',B,I⟩
theorem gV.upper {w:bJ} {b:Nat} {m m':List (ar×Int)} {p:ar×Int} {os:List (Int×aa)} (h:gV w b m p os) (hl:ub m m'):gV w b m' p os:=fun o ho q hq=>by
 obtain ⟨v,A,C⟩:=h o ho q hq
 obtain ⟨v',B,D⟩:=hl _ _ A
 exact ⟨v',B,I⟩
theorem gS.sub {w:bJ} {b:Nat} {m:List (ar×Int)} {p:ar×Int} {os os':List (Int×aa)} (h:gS w b m p os) (hs: ∀ o∈os',o∈os):gS w b m p os':=fun o ho=>h o (hs o ho)
theorem gV.sub {w:bJ} {b:Nat} {m:List (ar×Int)} {p:ar×Int} {os os':List (Int×aa)} (h:gV w b m p os) (hs: ∀ o∈os',o∈os):gV w b m p os':=fun o ho=>h o (hs o ho)
theorem gS.add {w:bJ} {b:Nat} {m m':List (ar×Int)} {p:ar×Int} {os:List (Int×aa)} {o:Int×aa} (h:gS w b m p os) (hl:tM m m') (hn: ∀ q,jB w b p o=some q→ ∃ v,m'.lookup q.1=some v∧v≤q.2):gS w b m' p (os++[o]):=fun o' ho q hq=>by
 rcases List.mem_append.1 ho with ho|ho
 ·exact h.lower hl o' ho q hq
 ·simp only [cu] at ho; subst ho; exact hn q hq
theorem gV.add {w:bJ} {b:Nat} {m m':List (ar×Int)} {p:ar×Int} {os:List (Int×aa)} {o:Int×aa} (h:gV w b m p os) (hl:ub m m') (hn: ∀ q,lY w b p o=some q→ ∃ v,m'.lookup q.1=some v∧q.2≤v):gV w b m' p (os++[o]):=fun o' ho q hq=>by
 rcases List.mem_append.1 ho with ho|ho
 ·exact h.upper hl o' ho q hq
 ·simp only [cu] at ho; subst ho; exact hn q hq
theorem ew {m:List (ar×Int)} (hn:(m.map (·.1)).Nodup) {t:ar} {v:Int}:(t,v)∈m↔m.lookup t=some v:=ko hn
theorem mS {z t:ar} {x v:Int}:List.lookup t [(z,x)]=some v↔t=z∧v=x:=by
 by_cases e:t=z
 ·subst e; simp [List.lookup,eq_comm]
 ·have:(t==z)=false:=by simpa using e
  simp [List.lookup,this,e]
theorem CI {w:bJ}:qH [(⟨0,0⟩,w.Start)] (fwd w 0):=by
 refine ⟨fun t v h=>?_,fun t y h=>?_⟩
 ·obtain ⟨rfl,rfl⟩:=mS.1 h
  simp [fwd]
 ·simp only [fwd,cu,Prod.mk.injEq] at h
  obtain ⟨rfl,rfl⟩:=h
  exact ⟨w.Start,mS.2 ⟨U,U⟩,Int.le_refl _⟩
theorem Gx {w:bJ} {b:Nat} {mb m:List (ar×Int)} (hn:(mb.map (·.1)).Nodup) (h:qH mb (fwd w b)) (hs:sL m (fwd w (b+1))) (hd: ∀ p∈mb,gS w b m p (gr w b)):qH m (fwd w (b+1)):=⟨hs,fun t y hy=>by
 obtain ⟨p,hp,o,ho,e⟩:=eT.1 hy
 obtain ⟨v,B,E⟩:=h.2 p.1 p.2 hp
 unfold jB at e
 split at e
 ·rename_i D
  simp only [Option.some.injEq,Prod.mk.injEq] at e
  obtain ⟨v',A,C⟩:=hd (p.1,v) ((ew hn).2 B) o ho (cP p.1 (ej o.1),max (v+bK w b) o.2.Lo) (by unfold jB; rw [if_pos (by simp only; omega)])
  simp only at A C
  rw [e.1] at A
  exact ⟨v',A,I⟩
 ·cases e⟩
theorem En {w:bJ} {b:Nat} (hb:w.n≤b):sO [(⟨0,0⟩,w.eX)] (back w b):=by
 rw [rJ hb]
 refine ⟨fun t v h=>?_,fun t y h=>?_⟩
 ·obtain ⟨rfl,rfl⟩:=mS.1 h
  simp
 ·simp only [cu,Prod.mk.injEq] at h
  obtain ⟨rfl,rfl⟩:=h
  exact ⟨w.eX,mS.2 ⟨U,U⟩,Int.le_refl _⟩
theorem GB {w:bJ} {b:Nat} (hb:b<w.n) {mb m:List (ar×Int)} (hn:(mb.map (·.1)).Nodup) (h:sO mb (back w (b+1))) (hs:sL m (back w b)) (h0: ∃ v,m.lookup ⟨0,0⟩=some v∧w.eX≤v) (hd: ∀ p∈mb,gV w b m p (gr w b)):sO m (back w b):=⟨hs,fun t y hy=>by
 rcases (nk hb).1 hy with e|⟨p,hp,o,ho,e⟩
 ·simp only [Prod.mk.injEq] at e
  obtain ⟨rfl,rfl⟩:=e
  exact h0
 obtain ⟨v,B,E⟩:=h.2 p.1 p.2 hp
 unfold lY at e
 split at e
 ·rename_i D
  simp only [Option.some.injEq,Prod.mk.injEq] at e
  obtain ⟨v',A,C⟩:=hd (p.1,v) ((ew hn).2 B) o ho (cP p.1 (ej o.1),min v o.2.Hi-bK w b) (by unfold lY; rw [if_pos (by simp only; omega)])
  simp only at A C
  rw [e.1] at A
  exact ⟨v',A,I⟩
 ·cases e⟩
end
section
def ic (w:bJ) (b:Nat) (p u:ar×Int) (o:Int×aa):aa:=⟨max (p.2+bK w b) o.2.Lo,min u.2 o.2.Hi⟩
def uY (p u:ar×Int) (o:Int×aa):ar:=cP (cP p.1 u.1) (ej o.1)
def km (w:bJ) (b:Nat) (p u:ar×Int) (o:Int×aa):Option (Int×aa):=if (ic w b p u o).Lo≤(ic w b p u o).Hi∧jl w (uY p u o)=true then some (o.1,ic w b p u o) else none
def oe (w:bJ) (b:Nat) (mf mb:List (ar×Int)):List (Int×aa):=(gr w b).flatMap fun o=>mf.flatMap fun p=>mb.filterMap fun u=>km w b p u o
def kP (w:bJ) (b:Nat):List (Int×aa):=oe w b (fwd w b) (back w (b+1))
theorem gj {w:bJ} {b:Nat} {mf mb:List (ar×Int)} {q:Int×aa}:q∈oe w b mf mb↔ ∃ o∈gr w b,∃ p∈mf,∃ u∈mb,km w b p u o=some q:=by
 simp only [oe,List.mem_flatMap,List.mem_filterMap]
theorem hG {w:bJ} {b:Nat} {p u:ar×Int} {o q:Int×aa}:km w b p u o=some q↔(ic w b p u o).Lo≤(ic w b p u o).Hi∧jl w (uY p u o)=true∧q=(o.1,ic w b p u o):=by
 unfold km
 split
 ·rename_i h
  simp only [Option.some.injEq]
  exact ⟨fun e=>⟨h.1,h.2,e.symm⟩,fun e=>e.2.2.symm⟩
 ·rename_i h
  simp only [reduceCtorEq,false_iff]
  exact fun e=>h ⟨e.1,e.2.1⟩
theorem kW {w:bJ} {b:Nat} {mf mb:List (ar×Int)} {q:Int×aa} (h:q∈oe w b mf mb):q.2.Lo≤q.2.Hi:=by
 obtain ⟨o,_,p,_,u,_,e⟩:=gj.1 h
 obtain ⟨A,_,rfl⟩:=hG.1 e
 exact A
/-- what the maps tell is what all ways tell -/
theorem Ig {w:bJ} {b:Nat} {mf mb:List (ar×Int)} (hf:qH mf (fwd w b)) (hb:sO mb (back w (b+1))) (nf:(mf.map (·.1)).Nodup) (nb:(mb.map (·.1)).Nodup) {q:Int×aa} (h:q∈oe w b mf mb):q∈kP w b:=by
 obtain ⟨o,ho,p,hp,u,hu,e⟩:=gj.1 h
 exact gj.2 ⟨o,ho,p,hf.1 _ _ ((ew nf).1 hp),u,hb.1 _ _ ((ew nb).1 hu),e⟩
theorem ET {w:bJ} {b:Nat} {mf mb:List (ar×Int)} (hf:qH mf (fwd w b)) (hb:sO mb (back w (b+1))) (nf:(mf.map (·.1)).Nodup) (nb:(mb.map (·.1)).Nodup) {q:Int×aa} (h:q∈kP w b): ∃ q'∈oe w b mf mb,q'.1=q.1∧q'.2.Lo≤q.2.Lo∧q.2.Hi≤q'.2.Hi:=by
 obtain ⟨o,ho,p,hp,u,hu,e⟩:=gj.1 h
 obtain ⟨A,B,rfl⟩:=hG.1 e
 obtain ⟨v,hv,C⟩:=hf.2 p.1 p.2 hp
 obtain ⟨y,hy,D⟩:=hb.2 u.1 u.2 hu
 simp only [ic] at A
 refine ⟨(o.1,ic w b (p.1,v) (u.1,y) o),gj.2 ⟨o,ho,(p.1,v),(ew nf).2 hv,(u.1,y),(ew nb).2 hy,hG.2 ⟨?_,B,U⟩⟩,U,?_,?_⟩
 ·simp only [ic]; omega
 ·simp only [ic]; omega
 ·simp only [ic]; omega
def kM:aa:=⟨1,0⟩
def ks (h x:aa):aa:=if h=kM then x else ⟨min x.Lo h.Lo,max x.Hi h.Hi⟩
def uh (l:List (Int×aa)):aa:=l.foldl (fun h q=>ks h q.2) kM
structure mJ (l:List (Int×aa)) (h:aa):Prop where
 le:h.Lo≤h.Hi
 lo: ∃ x∈l,x.2.Lo=h.Lo
 hi: ∃ x∈l,x.2.Hi=h.Hi
 all: ∀ x∈l,h.Lo≤x.2.Lo∧x.2.Hi≤h.Hi
def je (l:List (Int×aa)) (h:aa):Prop:=(l=[]∧h=kM)∨mJ l h
theorem mJ.ne {l:List (Int×aa)} {h:aa} (hh:mJ l h):h≠kM:=fun e=>by
 have:=hh.le; rw [e] at this; simp [kM] at this
theorem zG:je [] kM:= .inl ⟨rfl,rfl⟩
theorem rG {l:List (Int×aa)} {h:aa} {q:Int×aa} (hh:je l h) (hq:q.2.Lo≤q.2.Hi):je (l++[q]) (ks h q.2):=by
 right
 rcases hh with ⟨rfl,rfl⟩|hh
 ·unfold ks
  rw [if_pos rfl]
  exact ⟨hq,⟨q,sm,rfl⟩,⟨q,sm,rfl⟩,fun x hx=>by simp at hx; subst hx; exact ⟨Int.le_refl _,Int.le_refl _⟩⟩
 ·unfold ks
  rw [if_neg hh.ne]
  have A:=hh.le
  obtain ⟨a,ha,ea⟩:=hh.lo
  obtain ⟨c,hc,ec⟩:=hh.hi
  refine ⟨by simp only; omega,?_,?_,fun x hx=>?_⟩
  ·rcases Int.lt_or_le q.2.Lo h.Lo with p|p
   ·exact ⟨q,sm,by simp only; omega⟩
   ·exact ⟨a,by simp [ha],by simp only; omega⟩
  ·rcases Int.lt_or_le h.Hi q.2.Hi with p|p
   ·exact ⟨q,sm,by simp only; omega⟩
   ·exact ⟨c,by simp [hc],by simp only; omega⟩
  ·rcases List.mem_append.1 hx with hx|hx
   ·have:=hh.all x hx; simp only; omega
   ·simp at hx; subst hx; simp only; omega
theorem rq {l:List (Int×aa)} (hl: ∀ q∈l,q.2.Lo≤q.2.Hi):je l (uh l):=by
 have key: ∀ (r d:List (Int×aa)) (h:aa),(∀ q∈r,q.2.Lo≤q.2.Hi)→je d h→je (d++r) (r.foldl (fun h q=>ks h q.2) h):=by
  intro r
  induction r with
  |nil=>intro d h _ hd; simpa using hd
  |cons q r ih=>
   intro d h hr hd
   have:=ih (d++[q]) (ks h q.2) (fun x hx=>hr x (dq _ hx)) (rG hd (hr q sm))
   simpa using this
 have:=key l [] kM hl zG
 rw [List.nil_append] at this
 exact this
def Bj (a b:List (Int×aa)):Prop:= ∀ x∈b,∃ y∈a,y.2.Lo≤x.2.Lo∧x.2.Hi≤y.2.Hi
theorem HK {a b:List (Int×aa)} {h k:aa} (ha:je a h) (hb:je b k) (hab:Bj a b) (hba:Bj b a):h=k:=by
 rcases ha with ⟨rfl,rfl⟩|ha
 ·rcases hb with ⟨rfl,rfl⟩|hb
  ·rfl
  ·obtain ⟨x,hx,_⟩:=hb.lo
   obtain ⟨y,hy,_⟩:=hab x hx
   cases hy
 ·rcases hb with ⟨rfl,rfl⟩|hb
  ·obtain ⟨x,hx,_⟩:=ha.lo
   obtain ⟨y,hy,_⟩:=hba x hx
   cases hy
  ·have le: ∀ {a b:List (Int×aa)} {h k:aa},mJ a h→mJ b k→Bj a b→h.Lo≤k.Lo∧k.Hi≤h.Hi:=fun {a b h k} ha hb hab=>by
    obtain ⟨x,hx,ex⟩:=hb.lo
    obtain ⟨z,hz,ez⟩:=hb.hi
    obtain ⟨y,hy,ey⟩:=hab x hx
    obtain ⟨y',hy',ey'⟩:=hab z hz
    have A:=ha.all y hy
    have B:=ha.all y' hy'
    omega
   have A:=le ha hb hab
   have B:=le hb ha hba
   rw [aa.ext_iff]; omega
theorem wL {w:bJ} {b:Nat} {mf mb:List (ar×Int)} {l:List (Int×aa)} {h:aa} (hf:qH mf (fwd w b)) (hb:sO mb (back w (b+1))) (nf:(mf.map (·.1)).Nodup) (nb:(mb.map (·.1)).Nodup)
 (hl: ∀ q∈l,q∈oe w b mf mb) (hl2: ∀ q∈oe w b mf mb,q∈l) (hh:je l h):h=uh (kP w b):=
 HK hh (rq fun q hq=>kW hq) (fun x hx=>by
  obtain ⟨q,hq,_,A,B⟩:=ET hf hb nf nb hx
  exact ⟨q,hl2 q hq,A,B⟩) (fun x hx=>⟨x,Ig hf hb nf nb (hl x hx),Int.le_refl _,Int.le_refl _⟩)
def g9 (w:bJ) (m:List (ar×Int)):Bool:=m.any fun p=>jl w p.1
theorem x5 {w:bJ} {b:Nat} {m:List (ar×Int)} (h:qH m (fwd w b)) (nf:(m.map (·.1)).Nodup):g9 w m=g9 w (fwd w b):=by
 unfold g9
 rw [Bool.eq_iff_iff,List.any_eq_true,List.any_eq_true]
 constructor
 ·rintro ⟨p,hp,A⟩
  exact ⟨p,h.1 _ _ ((ew nf).1 hp),A⟩
 ·rintro ⟨p,hp,A⟩
  obtain ⟨v,hv,_⟩:=h.2 p.1 p.2 hp
  exact ⟨(p.1,v),(ew nf).2 hv,A⟩
def jg (w:bJ) (k:Nat):List Int:=((List.range k).filter fun i=>g9 w (fwd w i)).map fun (i:Nat)=>(i:Int)
def iI (w:bJ):List Int:=jg w (w.n+1)
theorem Ap {w:bJ} {k:Nat} (h:g9 w (fwd w k)=true):jg w (k+1)=jg w k++[(k:Int)]:=by simp [jg,List.range_succ,h]
theorem CD {w:bJ} {k:Nat} (h:g9 w (fwd w k)=false):jg w (k+1)=jg w k:=by simp [jg,List.range_succ,h]
theorem uH {w:bJ} {k:Nat}:(jg w k).length≤k:=by
 unfold jg
 rw [List.length_map]
 exact Nat.le_trans (List.length_filter_le _ _) sm
end
section
open Go.RowKit
theorem Dk {P:Program} {t:Nat} {k:IntKind} (hu:P.underlying t=some (.int k)) (e:Bool) (n:Nat) (v:Value) (w:World):(Instr.checkKey e (n+1) t v).run P w= .ok () w:=by
 unfold Instr.checkKey
 simp only [Sem.run_bind,run_underlying hu,Result.andThen]
 cases v<;>rfl
theorem xC {P:Program} {kt:Nat} {l:List (Nat×Nat)} (hl:fL P kt=some l) (e:Bool) (n:Nat) (cs:Array Value) (w:World)
 (hf: ∀ p∈l,(∃ v,(part p.1 cs p.2).run P w= .ok v w)∧ ∃ k,P.underlying p.1=some (.int k)):(Instr.checkKey e (n+2) kt (.agg cs)).run P w= .ok () w:=by
 unfold fL at hl
 cases hu:P.underlying kt with
 |none=>simp [hu] at hl
 |some d=>
  cases d<;>simp [hu] at hl
  rename_i fs
  obtain ⟨hn,hl⟩:=hl
  rw [show n+2=(n+1)+1 from rfl,Instr.checkKey]
  simp only [Sem.run_bind,run_underlying hu,Result.andThen_ok]
  rw [← Array.forIn_toList]
  have A: ∀ f∈fs.toList,(∃ v,(part f.type cs f.offset).run P w= .ok v w)∧ ∃ k,P.underlying f.type=some (.int k):=fun f hf'=>hf (f.type,f.offset) (by rw [← hl]; exact List.mem_map.2 ⟨f,hf',rfl⟩)
  have B: ∀ f∈fs.toList,f.name≠"_":=fun f hf'=>by
   obtain ⟨i,hi,rfl⟩:=List.getElem_of_mem hf'
   exact hn.1.1 i (by simpa using hi)
  clear hl hn hf
  generalize fs.toList=L at A B
  induction L with
  |nil=>simp
  |cons f L ih=>
   obtain ⟨⟨v,hv⟩,k,hk⟩:=A f sm
   have C:=B f sm
   simp only [List.forIn_cons,Sem.run_bind,C,ne_eq,not_false_eq_true,if_true,Result.andThen_ok,hv,Dk hk,Sem.run_pure]
   exact ih (fun y hy=>A y (by simp [hy])) (fun y hy=>B y (by simp [hy]))
theorem zz {P:Program} {kt:Nat} {K:Type} [DecidableEq K] {kV:K→Value} (hw: ∀ (k:Value) (es:List MapEntry) (w:World),(Instr.findKey kt k es).run P w=(Instr.findAsking kt k es).run P w)
 (heq: ∀ x y w,(Op.equal kt (kV x) (kV y)).run P w= .ok (decide (x=y)) w) (inj: ∀ x y,kV x=kV y→x=y) (x:K) (w:World) (es:List MapEntry) (hk: ∀ e∈es,∃ k,e.key=kV k):
 ((Instr.findKey kt (kV x) es).run P w= .ok none w∧ ∀ e∈es,e.key≠kV x)∨ ∃ j e,(Instr.findKey kt (kV x) es).run P w= .ok (some (j,e.val)) w∧es[j]? =some e∧e.key=kV x:=by
 have key: ∀ (es:List MapEntry) (i:Nat),(∀ e∈es,∃ k,e.key=kV k)→((Instr.findAsking kt (kV x) es i).run P w= .ok none w∧ ∀ e∈es,e.key≠kV x)∨ ∃ j e,(Instr.findAsking kt (kV x) es i).run P w= .ok (some (i+j,e.val)) w∧es[j]? =some e∧e.key=kV x:=by
  intro es
  induction es with
  |nil=>intro i _; exact .inl ⟨by simp [Instr.findAsking],sm⟩
  |cons e es ih=>
   intro i B
   obtain ⟨k,A⟩:=B e sm
   by_cases h:x=k
   ·refine .inr ⟨0,e,?_,U,by rw [A,h]⟩
    subst h
    simp [Instr.findAsking,A,heq]
   ·rcases ih (i+1) (fun y hy=>B y (by simp [hy])) with ⟨C,D⟩|⟨j,e',C,D,E⟩
    ·refine .inl ⟨by simp [Instr.findAsking,A,heq,h,C],fun y hy=>?_⟩
     rcases List.mem_cons.1 hy with rfl|hy
     ·rw [A]; exact fun q=>h (inj _ _ q).symm
     ·exact D y hy
    ·exact .inr ⟨j+1,e',by simp [Instr.findAsking,A,heq,h,C]; omega,by simpa using D,E⟩
 rw [hw]
 rcases key es 0 hk with h|⟨j,e,C,D,E⟩
 ·exact .inl h
 ·exact .inr ⟨j,e,by simpa using C,D,E⟩
theorem Ab {P:Program} {kt:Nat} {l:List (Nat×Nat)} (hl:fL P kt=some l) (k:Value) (es:List MapEntry) (w:World):(Instr.findKey kt k es).run P w=(Instr.findAsking kt k es).run P w:=by
 refine run_findKey_eq w ?_ k es
 unfold fL at hl
 cases hu:P.underlying kt with
 |none=>simp [hu] at hl
 |some d=>cases d<;>simp [hu] at hl ⊢
theorem Ix {P:Program} {kt:Nat} {K:Type} [DecidableEq K] {kV:K→Value} {l:List (Nat×Nat)} (hl:fL P kt=some l) (heq: ∀ x y w,(Op.equal kt (kV x) (kV y)).run P w= .ok (decide (x=y)) w) (inj: ∀ x y,kV x=kV y→x=y)
 (hb: ∀ x,Instr.sameBits 10000 (kV x) (kV x)=true) (hp: ∀ x w,∃ cs,kV x= .agg cs∧ ∀ p∈l,(∃ v,(part p.1 cs p.2).run P w= .ok v w)∧ ∃ k,P.underlying p.1=some (.int k)):rY P kt kV:=
 ⟨fun e x w=>by obtain ⟨cs,A,B⟩:=hp x w; rw [A]; exact xC hl e 9998 cs w B,fun x w es=>zz (Ab hl) heq inj x w es,hb,inj⟩
end
section
open Go.RowKit
set_option linter.unusedSectionVars false
theorem h_ {P:Program} {kt:Nat} (hk:P.underlying kt=some (.int .i64)):rY P kt (Value.int .i64):=by
 refine ⟨fun e x w=>DW hk e,fun x w es A=>?_,fun x=>by simp [Instr.sameBits],fun x y h=>by injection h⟩
 have key: ∀ (es:List MapEntry) (i:Nat),(∀ e∈es,∃ k:Int,e.key= .int .i64 k)→(Instr.findNow (.int .i64) (.int .i64 x) es i=some none∧ ∀ e∈es,e.key≠ .int .i64 x)∨ ∃ j e,Instr.findNow (.int .i64) (.int .i64 x) es i=some (some (i+j,e.val))∧es[j]? =some e∧e.key= .int .i64 x:=by
  intro es
  induction es with
  |nil=>intro i _; exact .inl ⟨rfl,sm⟩
  |cons e es ih=>
   intro i A
   obtain ⟨k,B⟩:=A e sm
   by_cases h:x=k
   ·subst h
    exact .inr ⟨0,e,by simp [Instr.findNow,Instr.sameNow,B],U,B⟩
   ·have hb:(x==k)=false:=by simpa using h
    rcases ih (i+1) (fun y hy=>A y (by simp [hy])) with ⟨C,D⟩|⟨j,e',C,D,E⟩
    ·refine .inl ⟨by simp [Instr.findNow,Instr.sameNow,B,hb,C],fun y hy=>?_⟩
     rcases List.mem_cons.1 hy with rfl|hy
     ·rw [B]; intro q; injection q with _ q; exact h q.symm
     ·exact D y hy
    ·refine .inr ⟨j+1,e',?_,by simpa using D,E⟩
     simp only [Instr.findNow,Instr.sameNow,B,hb,if_true,C]
     simp; omega
 rcases key es 0 A with ⟨C,D⟩|⟨j,e,C,D,E⟩
 ·exact .inl ⟨MapKept.run_findKey hk C,D⟩
 ·exact .inr ⟨j,e,MapKept.run_findKey hk (by simpa using C),D,E⟩
theorem St.H8 {S:BS} {w0 w w':World} {C:List ao} {A N:ao} (h:St S w0 C w) (i:Nat) (hA:C[i]? =some A) (k:dk no w w') (hN:N.holds w') (hf: ∀ b,N.eA b→w.heap.size≤b∨A.eA b∧ ¬ A.wf b∧ ¬ N.wf b):St S w0 (N::C) w':=by
 have h':=h.same k
 have G:=aI hA
 have hi:=(List.getElem?_eq_some_iff.1 hA).1
 have B:C[i]=A:=(List.getElem?_eq_some_iff.1 hA).2
 refine ⟨h'.keeps,fun X hX=>?_,List.Pairwise.cons (fun X hX b hb hb'=>?_) h'.sep,fun X hX b hb=>?_,fun X hX b hb=>?_⟩
 ·rcases List.mem_cons.1 hX with rfl|hX
  ·exact hN
  ·exact h'.holds X hX
 ·rcases hf b hb with E|⟨E,AA,H⟩
  ·have:=X.lt w (h.holds X hX) b hb'; omega
  ·refine ⟨H,?_⟩
   obtain ⟨j,hj,D⟩:=List.mem_iff_getElem.1 hX
   by_cases e:j=i
   ·subst e; rw [← D,B]; exact AA
   ·rcases Nat.lt_or_gt_of_ne e with F|F
    ·have:=List.pairwise_iff_getElem.1 h.sep j i hj hi F b (by rw [D]; exact hb') (by rw [B]; exact E)
     rw [← D]; exact this.1
    ·have:=List.pairwise_iff_getElem.1 h.sep i j hi hj F b (by rw [B]; exact E) (by rw [D]; exact hb')
     rw [← D]; exact this.2
 ·rcases List.mem_cons.1 hX with rfl|hX
  ·rcases hf b (X.jr b hb) with E|⟨_,_,H⟩
   ·exact .inl (Nat.le_trans h.keeps.size E)
   ·exact absurd hb H
  ·exact h'.own X hX b hb
 ·rcases List.mem_cons.1 hX with rfl|hX
  ·rcases hf b hb with E|⟨E,_,_⟩
   ·exact .inl (Nat.le_trans h.keeps.size E)
   ·exact h.seen A G b E
  ·exact h'.seen X hX b hb
section
variable {K:Type} [DecidableEq K] {kV:K→Value}
/-- an iterator over a map that is read alone -/
def zN (kV:K→Value) (r b:Nat) (m left:List (K×Value)) (cur:Option (K×Value)):ao where
 eA k:=k=r∨k=b
 wf k:=k=r
 holds w:=r≠b∧ ∃ (es:Array MapEntry) (c since:Nat) (seen:Array Nat) (st:Nat),w.heap[b]? =some (.map es c)∧gU kV es c m∧w.heap[r]? =some (.mapIter (some b) since seen st)∧(∀ e∈es.toList,e.born<since)∧since≤st∧since≤c∧
  (leftOf es seen).toList.map (fun (e:MapEntry)=>(e.key,e.val))=left.map (fun p=>(kV p.1,p.2))∧
  ∀ p,cur=some p→ ∃ (e:MapEntry) (seen0:Array Nat),e∈es.toList∧seen=seen0.push e.born∧st=c∧e.key=kV p.1∧e.val=p.2
 wr:=false
 jr _ h:= .inl h
 whole h:=by cases h
 lt w h k hk:=by
  obtain ⟨_,es,c,since,seen,st,h1,_,h2,_⟩:=h
  rcases hk with rfl|rfl
  ·exact dy h2
  ·exact dy h1
 mG w w' hk h:=by
  obtain ⟨hne,es,c,since,seen,st,h1,h2,h3,h4⟩:=h
  exact ⟨hne,es,c,since,seen,st,(hk b (.inr rfl)).trans h1,h2,(hk r (.inl rfl)).trans h3,h4⟩
theorem mP {r b:Nat} {m left:List (K×Value)} {cur:Option (K×Value)}:(∀ w,(zN kV r b m left cur).holds w→(zN kV r b m left none).holds w)∧(∀ k,(zN kV r b m left none).eA k→(zN kV r b m left cur).eA k)∧ ∀ k,(zN kV r b m left none).wf k→(zN kV r b m left cur).wf k:=
 ⟨fun w h=>by
  obtain ⟨A,es,c,since,seen,st,B,C,D,E,F,h5',G,_⟩:=h
  exact ⟨A,es,c,since,seen,st,B,C,D,E,F,h5',G,fun p hp=>by cases hp⟩,fun _ h=>h,fun _ h=>h⟩
section
variable {E:eB} {ops:Array Oper} {Q:cM} {rest:List Oper} {D:List Deferred} {L:List (Nat×Value)} {C:List ao}
variable {dst:Option Tmp} {d:Nat} {ty:TypeId} {ps:String} {af:Array Edge} {g:Option (Nat×Bool)}
theorem nZ {t kt et:TypeId} {xm:Operand} {b:Nat} {m:List (K×Value)} {A:ao} (i:Nat) (hg:jc ops L g=true) (hm:ev L xm=some (.map (some b))) (ht:E.P.underlying t=some (.map kt et)) (hA:C[i]? =some A) (hAf:A.eA b∧ ¬ A.wf b) (hC:fR C (jV kV b m).holds) (hd:Nat.blt d E.n=true)
 (k: ∀ r,RJ E ops Q rest D ((d,.pointer (some ⟨r,0,none⟩))::L) (zN kV r b m m none::C)):RJ E ops Q (⟨some d,.range t xm,ty,ps,af,g⟩::rest) D L C:=by
 intro a w B hs
 have hd':d<E.n:=by rw [← Nat.blt_eq]; exact hd
 unfold qe
 rw [if_pos (dJ B hg)]
 obtain ⟨es,c,he,hi⟩:=hs.has hC
 have G:b<w.heap.size:=dy he
 have F:(getObj b).run E.P w= .ok (.map es c) w:=MapKept.run_getObj_map he
 refine gD (v:= .pointer (some ⟨w.heap.size,0,none⟩)) (w':=w.alloc (.mapIter (some b) c #[] c)) sm ?_ ?_
 ·simp [execOp,Instr.range,B.ev hm,run_underlying ht,F,newObj,Sem.run]
 ·refine k _ _ _ (B.put hd' _) (hs.H8 i hA (dk.alloc no w _) ⟨I,es,c,c,#[],c,?_,hi,heap_alloc_new w _,hi.FY,Nat.le_refl _,Nat.le_refl _,?_,fun p hp=>by cases hp⟩ (fun q hq=>?_))
  ·rw [Below.heap_alloc w _ b G]; exact he
  ·have:leftOf es #[]=es:=by unfold leftOf; exact Array.filter_eq_self.2 sm
   rw [this]; exact hi.list
  ·rcases hq with rfl|rfl
   ·exact .inl (Nat.le_refl _)
   ·refine .inr ⟨hAf.1,hAf.2,fun (e:q=w.heap.size)=>by omega⟩
theorem Df (hinj: ∀ x y,kV x=kV y→x=y) {xi:Operand} {r b:Nat} {m left:List (K×Value)} {cur:Option (K×Value)} (i:Nat) (hg:jc ops L g=true) (hm:ev L xi=some (.pointer (some ⟨r,0,none⟩))) (hC:C[i]? =some (zN kV r b m left cur)) (hd:Nat.blt d E.n=true)
 (k0:left=[]→RJ E ops Q rest D ((d,.tuple [.bool false].toArray)::L) C)
 (k1: ∀ x v,(x,v)∈left→(left.map (·.1)).Nodup→RJ E ops Q rest D ((d,.tuple [.bool true,kV x,v].toArray)::L) (C.set i (zN kV r b m (ep left x) (some (x,v))))):
 RJ E ops Q (⟨some d,.next xi false,ty,ps,af,g⟩::rest) D L C:=by
 intro a w G hs
 have hd':d<E.n:=by rw [← Nat.blt_eq]; exact hd
 unfold qe
 rw [if_pos (dJ G hg)]
 obtain ⟨R,es,c,since,seen,st,X,hi,Y,J,V,M,A,_⟩:=hs.holds _ (aI hC)
 rcases run_next_at (P:=E.P) w ty r b since st seen es c Y X J V with ⟨Z,hr⟩|⟨e,he,N,H,hr⟩
 ·refine gD (v:= .tuple #[.bool false]) (w':=w) sm ?_ ?_
  ·simp [execOp,G.ev hm,hr]
  ·refine k0 ?_ _ _ (G.put hd' _) hs
   have:(leftOf es seen).toList=[]:=by rw [← List.length_eq_zero_iff,Array.length_toList]; exact Z
   rw [this] at A
   exact List.map_eq_nil_iff.1 A.symm
 ·have O:(e.key,e.val)∈left.map (fun p=>(kV p.1,p.2)):=by rw [← A]; exact List.mem_map.2 ⟨e,he,rfl⟩
  obtain ⟨p,hp,S⟩:=List.mem_map.1 O
  obtain ⟨x,v⟩:=p
  simp only [Prod.mk.injEq] at S
  obtain ⟨hk,hv⟩:=S
  refine gD (v:= .tuple #[.bool true,e.key,e.val]) (w':=ChangeMaps.setBlock N r (.mapIter (some b) since (seen.push e.born) c)) sm ?_ ?_
  ·simp [execOp,G.ev hm,hr]
  ·rw [← hk,← hv]
   have AA:=uw hinj hi A
   have F:e∈es.toList:=by unfold leftOf at he; rw [Array.toList_filter] at he; exact (List.mem_filter.1 he).1
   have f:c=c:=rfl
   have B:N.heap=w.heap:=by rcases H with rfl|rfl<;>rfl
   refine k1 x v hp AA _ _ (G.put hd' _) (hs.mv i hC ⟨⟨R,es,c,since,seen.push e.born,c,?_,hi,?_,J,M,M,?_,fun q hq=>?_⟩,?_,fun q hq=> .inl hq,fun q hq=> .inl hq⟩)
   ·show (N.heap.setIfInBounds r _)[b]? =_
    rw [Array.getElem?_setIfInBounds_ne R,B]; exact X
   ·show (N.heap.setIfInBounds r _)[r]? =_
    rw [Array.getElem?_setIfInBounds_self_of_lt (by rw [B]; exact dy Y)]
   ·have T:leftOf es (seen.push e.born)=(leftOf es seen).filter (fun z=> !(z.born==e.born)):=by
     unfold leftOf
     rw [Array.filter_filter]
     congr 1
     funext z
     simp only [Array.contains_push,Bool.not_or]
     rw [Bool.and_comm]
    rw [T,Array.toList_filter]
    have key: ∀ (l:List MapEntry) (ll:List (K×Value)),(∀ z∈l,z∈es.toList)→l.map (fun (e:MapEntry)=>(e.key,e.val))=ll.map (fun p=>(kV p.1,p.2))→
     (l.filter (fun z=> !(z.born==e.born))).map (fun (e:MapEntry)=>(e.key,e.val))=(ep ll x).map (fun p=>(kV p.1,p.2)):=by
     intro l
     induction l with
     |nil=>intro ll _ h; cases ll with
      |nil=>rfl
      |cons p ll=>simp at h
     |cons z l ih=>
      intro ll hz h
      cases ll with
      |nil=>simp at h
      |cons p ll=>
       simp only [List.map_cons,List.cons.injEq,Prod.mk.injEq] at h
       have ih':=ih ll (fun y hy=>hz y (by simp [hy])) h.2
       have AB:(z.born=e.born)↔(p.1=x):=by
        constructor
        ·intro hb
         have:z=e:=zI hi.born (hz z sm) F hb
         rw [this] at h
         have:=h.1.1.symm.trans hk.symm
         exact hinj _ _ this
        ·intro hx
         have W:z.key=e.key:=by rw [h.1.1,hx,hk]
         rw [yV hinj hi (hz z sm) F W]
       unfold ep at ih' ⊢
       by_cases hx:p.1=x
       ·rw [List.filter_cons_of_neg (by simp [AB.2 hx]),List.filter_cons_of_neg (by simp [hx])]; exact ih'
       ·rw [List.filter_cons_of_pos (by simpa using fun hb=>hx (AB.1 hb)),List.filter_cons_of_pos (by simpa using hx)]
        simp only [List.map_cons,h.1.1,h.1.2,ih']
    exact key _ _ (fun z hz=>by unfold leftOf at hz; rw [Array.toList_filter] at hz; exact (List.mem_filter.1 hz).1) A
   ·cases hq
    exact ⟨e,seen,F,U,U,hk.symm,hv.symm⟩
   ·refine ⟨?_,?_,?_,?_,fun q hq hn=>?_⟩
    ·rcases H with rfl|rfl<;>rfl
    ·rcases H with rfl|rfl<;>rfl
    ·rcases H with rfl|rfl<;>rfl
    ·show w.heap.size≤(N.heap.setIfInBounds r _).size
     simp [B]
    ·show (N.heap.setIfInBounds r _)[q]? =_
     rw [Array.getElem?_setIfInBounds_ne (fun e=>hn e.symm),B]
theorem my {xi:Operand} {r b:Nat} {m left:List (K×Value)} {x:K} {v:Value} (i:Nat) (hg:jc ops L g=true) (hm:ev L xi=some (.pointer (some ⟨r,0,none⟩))) (hC:C[i]? =some (zN kV r b m left (some (x,v)))):
 SD E ops ⟨dst,.entry xi,ty,ps,af,g⟩ D L C (.tuple [kV x,v].toArray):=
 dU hg sm fun a w F hs=>by
  obtain ⟨N,es,c,since,seen,st,J,hi,M,H,O,AA,G,B⟩:=hs.holds _ (aI hC)
  obtain ⟨e,A,he,rfl,rfl,hk,hv⟩:=B _ rfl
  have:=run_entry_at (P:=E.P) w r b since A es st e M J he hi.born
  simp [execOp,F.ev hm,this,hk,hv]
theorem mq (hinj: ∀ x y,kV x=kV y→x=y) {β:Type} {f:β→Value} {xi:Operand} {r b:Nat} {m:List (K×Value)} {ll:List (K×β)} {cur:Option (K×Value)} (i:Nat) (hg:jc ops L g=true) (hm:ev L xi=some (.pointer (some ⟨r,0,none⟩))) (hC:C[i]? =some (zN kV r b m (cz f ll) cur)) (hd:Nat.blt d E.n=true)
 (k0:ll=[]→RJ E ops Q rest D ((d,.tuple [.bool false].toArray)::L) C)
 (k1: ∀ x y,(x,y)∈ll→(ll.map (·.1)).Nodup→RJ E ops Q rest D ((d,.tuple [.bool true,kV x,f y].toArray)::L) (C.set i (zN kV r b m (cz f (ep ll x)) (some (x,f y))))):
 RJ E ops Q (⟨some d,.next xi false,ty,ps,af,g⟩::rest) D L C:=by
 refine Df hinj i hg hm hC hd (fun h=>k0 (List.map_eq_nil_iff.1 h)) (fun x v B hn=>?_)
 obtain ⟨p,hp,A⟩:=List.mem_map.1 B
 simp only [Prod.mk.injEq] at A
 obtain ⟨rfl,rfl⟩:=A
 have:=k1 p.1 p.2 hp (by simpa [cz,Function.comp_def] using hn)
 rwa [n8] at this
theorem v_ {t kt et:TypeId} {xm xk xv:Operand} {b:Nat} {x:K} {v:Value} {m m':List (K×Value)} {C':List ao} (i:Nat) (hg:jc ops L g=true) (hm:ev L xm=some (.map (some b))) (hk:ev L xk=some (kV x)) (hv:ev L xv=some v)
 (ht:E.P.underlying t=some (.map kt et)) (hkt:rY E.P kt kV) (hC:C[i]? =some (jV kV b m)) (hm':ei m x v=m') (hC':C.set i (jV kV b m')=C') (k:RJ E ops Q rest D L C'):
 RJ E ops Q (⟨none,.insert t xm xk xv,ty,ps,af,g⟩::rest) D L C:=by
 subst hm' hC'
 intro a w A hs
 unfold qe
 rw [if_pos (dJ A hg)]
 obtain ⟨es,c,he,hi⟩:=hs.holds _ (aI hC)
 have B:(getObj b).run E.P w= .ok (.map es c) w:=MapKept.run_getObj_map he
 rcases mY (P:=E.P) (w:=w) (x:=x) hkt hi with ⟨AA,F⟩|⟨j,N,AA,F,J⟩
 ·refine py (w':={w with heap:=w.heap.setIfInBounds b (.map (es.push {key:=kV x,val:=v,born:=c}) (c+1))}) sm ?_ ?_
  ·simp [execOp,A.ev hm,A.ev hk,A.ev hv,Instr.mapUpdate,run_underlying ht,B,gM hkt,AA,MapKept.run_setObj_map _ he]
  ·refine k _ _ ⟨A.defers,A.size,A.at_⟩ (hs.zL (b:=b) i hC U U (lh _) (fun _ h=>h) ⟨_,_,nu he,?_⟩)
   have:ei m x v=m++[(x,v)]:=by unfold ei; rw [F]; rfl
   rw [this]; exact hi.push F v
 ·have M:=hi.size
  have G:j<es.size:=by have:=(List.getElem?_eq_some_iff.1 F).1; omega
  have H:(es[j]).key=kV x:=by
   have:=congrArg (fun l=>l[j]?) hi.list
   simp [G,F] at this
   exact this.1
  refine py (w':={w with heap:=w.heap.setIfInBounds b (.map (es.modify j fun e=>{e with key:=kV x,val:=v}) c)}) sm ?_ ?_
  ·simp [execOp,A.ev hm,A.ev hk,A.ev hv,Instr.mapUpdate,run_underlying ht,B,gM hkt,AA,MapKept.run_setObj_map _ he,Instr.keyThatStays,G,H,hkt.bits x]
  ·exact k _ _ ⟨A.defers,A.size,A.at_⟩ (hs.zL (b:=b) i hC U U (lh _) (fun _ h=>h) ⟨_,_,nu he,hi.set F J v⟩)
end
end
end
section
open Go.RowKit
def Oi {σ:Type} (w0:World) (P:Program) (l:Nat) (step:σ→List Value→σ→Prop) (J:σ→ao→Prop) (Z:ao→Prop):Prop:=
 ∀ k x k' A w,step k x k'→J k A→w0.heap.size≤w.heap.size→A.holds w→YieldAt (Fw none) 0 P l x.toArray w fun e w'=>
  (e= .returned (.bool true)∧ ∃ B,J k' B∧Mv A B w w')∨(e= .returned (.bool false)∧ ∃ B,Z B∧Mv A B w w')
def Ek {σ:Type} (J:σ→ao→Prop) (Z:ao→Prop) (fin:σ→Prop) (A0:ao) (w0:World) (e:Ending) (w':World):Prop:=
 ∃ v,e= .returned v∧((∃ s B,fin s∧J s B∧Mv A0 B w0 w')∨ ∃ B,Z B∧Mv A0 B w0 w')
structure Hg {σ:Type} (P:Program) (f:FuncId) (fi ca:List Value) (Cp:List ao) (s0:σ) (step:σ→List Value→σ→Prop) (fin:σ→Prop):Prop where
 go:qo P f=true
 run: ∀ (l:Nat) (J:σ→ao→Prop) (Z:ao→Prop) (A0:ao) (w:World),Oi w P l step J Z→J s0 A0→A0.holds w→(∀ A∈Cp,A.holds w)→(∀ A∈Cp,zQ A0 A.ro)→
  Calls P f (fi++Value.func (.yield l) #[] #[]::ca).toArray w (Ek J Z fin A0 w)
theorem Ns {σ:Type} {J:σ→ao→Prop} {Z:ao→Prop} {n:σ} {fin:σ→Prop} {A0 B:ao} {w0 w:World} {C:List ao} {v:Value} (i:Nat) (hC:C[i]? =some B) (hfin:fin n) (hJ:J n B) (hF:Fo A0 w0 B) (hs:St ⟨A0.wf,fun _=>True⟩ w0 C w):Ek J Z fin A0 w0 (.returned v) w:=
 ⟨v,rfl,.inl ⟨n,B,hfin,hJ,hs.holds B (aI hC),hs.keeps,fun b hb=>(hs.own B (aI hC) b hb).symm,hF⟩⟩
theorem EI {σ:Type} {J:σ→ao→Prop} {Z:ao→Prop} {fin:σ→Prop} {A0 B:ao} {w0 w:World} {C:List ao} {v:Value} (i:Nat) (hC:C[i]? =some B) (hJ:Z B) (hF:Fo A0 w0 B) (hs:St ⟨A0.wf,fun _=>True⟩ w0 C w):Ek J Z fin A0 w0 (.returned v) w:=
 ⟨v,rfl,.inr ⟨B,hJ,hs.holds B (aI hC),hs.keeps,fun b hb=>(hs.own B (aI hC) b hb).symm,hF⟩⟩
theorem Cq {σ:Type} {P:Program} {f:FuncId} {fn:Func} {c:Code} {fi ca:List Value} {Cp:List ao} {s0:σ} {step:σ→List Value→σ→Prop} {fin:σ→Prop} (hgo:qo P f=true) (hf:P.funcs[f]? =some fn) (hb:fn.body=some c) (hn:Nat.ble (fi.length+ca.length+1) fn.ntmps=true)
 (h: ∀ (l:Nat) (J:σ→ao→Prop) (Z:ao→Prop) (A0:ao) (w0:World) (Q:cM),Oi w0 P l step J Z→J s0 A0→Fo A0 w0 A0→
  (∀ D L C,LJ ⟨P,none,fn.ntmps,⟨A0.wf,fun _=>True⟩,w0⟩ fn (Ek J Z fin A0 w0) D L C→KJ ⟨P,none,fn.ntmps,⟨A0.wf,fun _=>True⟩,w0⟩ (Q .ret) D L C)→
  (∀ D L C,LJ ⟨P,none,fn.ntmps,⟨A0.wf,fun _=>True⟩,w0⟩ fn (Ek J Z fin A0 w0) D L C→KJ ⟨P,none,fn.ntmps,⟨A0.wf,fun _=>True⟩,w0⟩ (Q .normal) D L C)→
  WJ ⟨P,none,fn.ntmps,⟨A0.wf,fun _=>True⟩,w0⟩ c Q [] (Jv (fi++Value.func (.yield l) #[] #[]::ca)) (A0::Cp.map ao.ro)):Hg P f fi ca Cp s0 step fin:=by
 refine ⟨hgo,fun l J Z A0 w hY hJ hA F E=>?_⟩
 refine Ao hf hb (by simpa [Nat.add_assoc] using hn) (h l J Z A0 w · hY hJ (fun b hb=> .inl hb)) ?_
 have G:=q9 F
 refine ⟨dk.refl _ _,fun A hA'=>?_,List.Pairwise.cons (fun B hB=>?_) G.sep,fun A hA' b hb=>?_,fun _ _ _ _=> .inr trivial⟩
 ·rcases List.mem_cons.1 hA' with rfl|hA'
  ·exact hA
  ·exact G.holds A hA'
 ·obtain ⟨B',hB',rfl⟩:=List.mem_map.1 hB
  exact E B' hB'
 ·rcases List.mem_cons.1 hA' with rfl|hA'
  ·exact .inr hb
  ·obtain ⟨B',hB',rfl⟩:=List.mem_map.1 hA'
   exact hb.elim
section
variable {E:eB} {ops:Array Oper} {Q:cM} {rest:List Oper} {D:List Deferred} {L:List (Nat×Value)} {C:List ao}
variable {d:Nat} {ty:TypeId} {ps:String} {af:Array Edge} {g:Option (Nat×Bool)}
/-- a call of yield -/
theorem uR {σ:Type} {fop:Operand} {xs:Array Operand} {ts:Array TypeId} {l:Nat} {k k':σ} {vs:List Value} {step:σ→List Value→σ→Prop} {J:σ→ao→Prop} {Z:ao→Prop} {A0 A:ao} {w1:World} (i:Nat) (hw1:w1.heap.size≤E.w0.heap.size) (hY:Oi w1 E.P l step J Z) (hJ:J k A) (hF:Fo A0 w1 A) (hg:jc ops L g=true) (hf:ev L fop=some (.func (.yield l) #[] #[]))
 (hx:evs L xs.toList=some vs) (hk:step k vs k') (hC:C[i]? =some A) (hd:Nat.blt d E.n=true)
 (k1: ∀ B,J k' B→Fo A0 w1 B→RJ E ops Q rest D ((d,.bool true)::L) (C.set i B))
 (k2: ∀ B,Z B→Fo A0 w1 B→RJ E ops Q rest D ((d,.bool false)::L) (C.set i B)):
 RJ E ops Q (⟨some d,.call {callee:= .value fop,args:=xs,argTypes:=ts},ty,ps,af,g⟩::rest) D L C:=by
 intro a w F hs
 have hd':d<E.n:=by rw [← Nat.blt_eq]; exact hd
 unfold qe
 rw [if_pos (dJ F hg)]
 have K:xs.map a.eval=vs.toArray:=by
  have:=F.evs hx
  apply Array.ext'
  simp [this]
 obtain ⟨fn,tmps,assign,body,hy,hr⟩:=hY k vs k' A w hk hJ (Nat.le_trans hw1 hs.keeps.size) (hs.holds A (aI hC))
 have H:(execOp a.eval ⟨some d,.call {callee:= .value fop,args:=xs,argTypes:=ts},ty,ps,af,g⟩).run E.P w= .ok (.round l fn tmps assign body) w:=by
  simp [execOp,resolve,F.ev hf,Deferred.ofValue,invoke,K,hy]
 refine ⟨fun _ _=>trivial,?_⟩
 rw [Oper.semAt_eq _ _ _ sm,H]
 refine ⟨fun h=>by simp at h,?_⟩
 have G: ∀ (B:ao) (w':World),Mv A B w w'→Fo A0 w1 B:=fun B w' m b hb=>by
  rcases m.eA b hb with AA|AA
  ·exact hF b AA
  ·exact .inr (Nat.le_trans hw1 (Nat.le_trans hs.keeps.size AA))
 have hr':RoundIn (Fw E.r) 0 E.P l fn tmps assign body w _:=hr
 refine hr'.mono fun e w' he=>?_
 rcases he with ⟨rfl,B,hB,m⟩|⟨rfl,B,hB,m⟩
 ·exact k1 B hB (G B w' m) _ _ (F.put hd' _) (hs.mv i hC m)
 ·exact k2 B hB (G B w' m) _ _ (F.put hd' _) (hs.mv i hC m)
end
theorem qB {σ:Type} {E:eB} {Q:cM} {D:List Deferred} {L L0:List (Nat×Value)} {C F:List ao} {g:Operand} {ps:Array Tmp} {assign body:Code} {f:FuncId} {fi ca:List Value} {Cp:List ao} {s0:σ} {step:σ→List Value→σ→Prop} {fin_:σ→Prop} {ι κ:Type}
 (inv:σ→ι→Prop) (Ci:σ→ι→List ao) (invx:Code→κ→Prop) (Cx:Code→κ→List ao) (isJ isF:List Nat) (y0:ι)
 (hr:E.r=none) (hg:ev L g=some (.func (.func f) fi.toArray ca.toArray)) (hs:Hg E.P f fi ca Cp s0 step fin_)
 (hnd:decide (isJ++isF).Nodup=true) (hJ:jt C isJ=Ci s0 y0) (hF:jt C isF=F) (h0:inv s0 y0) (hCp: ∀ A∈Cp,∃ B∈F,Hb B A)
 (hps: ∀ k x k',step k x k'→x.length=ps.size) (hpn:ps.toList.all (fun t=>Nat.blt t E.n)=true) (hL:cS L L0)
 (round: ∀ (k:σ) (x:List Value) (k':σ) (y:ι) (l:Nat) (ra rb:Loop) (S:BS) (w0:World) (K:Act→World→Prop) (Qr:cM),E.w0.heap.size≤w0.heap.size→step k x k'→inv k y→
  (∀ L' C',WJ ⟨E.P,some l,E.n,S,w0⟩ body Qr [] L' (jU l (.loop rb)::C')→KJ ⟨E.P,some l,E.n,S,w0⟩ K [] L' (jU l (.loop ra)::C'))→
  (∀ y' L' C',inv k' y'→(∀ w,St S w0 C' w→St S w0 (jU l (.loop rb)::Ci k' y') w)→KJ ⟨E.P,some l,E.n,S,w0⟩ (Qr .normal) [] L' C')→
  (∀ id z L' C',invx (.exit id) z→(∀ w,St S w0 C' w→St S w0 (jU l (.loop rb)::Cx (.exit id) z) w)→KJ ⟨E.P,some l,E.n,S,w0⟩ (Qr (.exit id)) [] L' C')→
  (∀ z L' C',invx .ret z→(∀ w,St S w0 C' w→St S w0 (jU l (.loop rb)::Cx .ret z) w)→KJ ⟨E.P,some l,E.n,S,w0⟩ (Qr .ret) [] L' C')→
  WJ ⟨E.P,some l,E.n,S,w0⟩ assign (Exit.then K (fun _ _ _=>False)) [] (yR ps.toList x L0) (jU l (.loop ra)::Ci k y))
 (fin: ∀ r s y,fin_ s→inv s y→KJ E (Q .normal) (jZ r::D) L0 (jU r (.deferred (some []))::(F++Ci s y)))
 (finx: ∀ r id z,invx (.exit id) z→KJ E (Q (.exit id)) (jZ r::D) L0 (jU r (.deferred (some []))::(F++Cx (.exit id) z)))
 (finr: ∀ r z,invx .ret z→KJ E (Q .ret) (jZ r::D) L0 (jU r (.deferred (some []))::(F++Cx .ret z))):WJ E (.rangeFunc g ps assign body) Q D L C:=by
 intro a w hf q
 refine wpIn_rangeFunc fun fn _=>?_
 show ∃ l jZ w₁ d w₁' f args w₂,(Instr.enterLoop fn a.tmps ps assign body E.r).run E.P w= .ok (l,jZ) w₁∧_
 rw [hr]
 obtain ⟨rec,G⟩: ∃ rec:LoopState→Option Code→Loop,rec=fun st pe=>{state:=st,pending:=pe,fn,tmps:=a.tmps,params:=ps,assign,body,defers:=w.heap.size}:=⟨_,rfl⟩
 obtain ⟨W1,R⟩: ∃ W1,(w.alloc (.deferred (some []))).alloc (.loop (rec .ready none))=W1:=⟨_,rfl⟩
 have AE:a.eval g= .func (.func f) fi.toArray ca.toArray:=hf.ev hg
 have p:(Instr.enterLoop fn a.tmps ps assign body none).run E.P w= .ok (w.heap.size+1,[jZ w.heap.size]) W1:=by
  rw [← R,G]; exact run_enterLoop_outer _ _ _ _ _
 -- the state with the record and the block
 have u:St E.S E.w0 ((jU (w.heap.size+1) (.loop (rec .ready none))::Ci s0 y0)++(jU w.heap.size (.deferred (some []))::F)) W1:=by
  have X:St E.S E.w0 (Ci s0 y0++F) w:=St.jt (isJ++isF) hnd (by have X:=hJ; have j:=hF; unfold Go.Proofs.YtcoejkiaokbmpaaGreatDoor.jt at X j ⊢; rw [List.filterMap_append,X,j]) q
  have hn:HE w W1 [jU (w.heap.size+1) (.loop (rec .ready none)),jU w.heap.size (.deferred (some []))]:=by
   refine ⟨fun A hA=>?_,fun A hA b hb=>?_,?_⟩
   ·rcases List.mem_cons.1 hA with rfl|hA
    ·show W1.heap[w.heap.size+1]? =_
     rw [← R]; have:=World.alloc_heap_new (w.alloc (.deferred (some []))) (.loop (rec .ready none)); rwa [World.size_alloc] at this
    ·simp only [cu] at hA; subst hA
     show W1.heap[w.heap.size]? =_
     rw [← R]; exact (Below.heap_alloc _ _ _ sm).trans (World.alloc_heap_new w _)
   ·rcases List.mem_cons.1 hA with rfl|hA
    ·have:b=w.heap.size+1:=hb
     omega
    ·simp only [cu] at hA; subst hA
     have:b=w.heap.size:=hb
     omega
   ·refine List.Pairwise.cons (fun B hB b X j=>?_) (List.pairwise_singleton _ _)
    simp only [cu] at hB; subst hB
    have V:b=w.heap.size+1:=X
    have O:b=w.heap.size:=j
    omega
  have hk:dk no w W1:=by rw [← R]; exact (dk.alloc no w _).trans (dk.alloc no _ _)
  have j:=X.grow hk hn
  refine j.perm ?_
  simp only [List.cons_append,List.nil_append]
  exact List.Perm.cons _ (List.perm_middle.symm)
 have Y:=u.tied
 obtain ⟨H,AJ⟩:=List.pairwise_cons.1 Y.sep
 have AC:=Y.holds _ (ck ..)
 let J:σ→ao→Prop:=fun k A=> ∃ y,inv k y∧A=bM (jU (w.heap.size+1) (.loop (rec .ready none))::Ci k y)
 let Z:ao→Prop:=fun A=> ∃ c z,(c= .ret∨ ∃ id,c= .exit id)∧invx c z∧A=bM (jU (w.heap.size+1) (.loop (rec .done (some c)))::Cx c z)
 refine ⟨w.heap.size+1,[jZ w.heap.size],W1,{target:= .fn (.func f) ca.toArray,args:=fi.toArray++ #[.func (.yield (w.heap.size+1)) #[] #[]]},W1,f,
  (fi++Value.func (.yield (w.heap.size+1)) #[] #[]::ca).toArray,W1,p,?_,fun _ _=>trivial,?_,fun h=>by simp at h,?_⟩
 ·simp only [resolve,AE]
  simp [Deferred.ofValue,Act.eval]
 ·have:fi.toArray++ #[Value.func (.yield (w.heap.size+1)) #[] #[]]++ca.toArray=(fi++Value.func (.yield (w.heap.size+1)) #[] #[]::ca).toArray:=by simp
  simp [invoke,nO hs.go]
 ·refine (oN E.r (hs.run (w.heap.size+1) J Z _ W1 ?_ ⟨y0,h0,U⟩ AC ?_ ?_)).mono ?_
  ·-- a round
   rintro k x k' A W hx ⟨y,hy,rfl⟩ AD hA
   have hl:W.heap[w.heap.size+1]? =some (.loop (rec .ready none)):=hA.1 _ (ck ..)
   have AA:=run_yield (P:=E.P) (args:=x.toArray) hl (by rw [G]; simpa using hps k x k' hx)
   rw [G] at AA
   refine ⟨fn,_,assign,body,AA,roundIn_of_wpIn trivial ?_⟩
   let A:ao:=bM (jU (w.heap.size+1) (.loop (rec .ready none))::Ci k y)
   have AF:Fr E.n [] (yR ps.toList x L0) {tmps:=(ps.zip x.toArray).foldl (fun tmps (t,a)=>tmps.setIfInBounds t a) a.tmps,defers:=[]}:=by
    have X:=EJ ps.toList x L0 a.tmps (fun t ht=>by have:=List.all_eq_true.1 hpn t ht; rwa [Nat.blt_eq] at this) ⟨rfl,hf.size,fun t v hv=>hf.at_ t v (hL t v hv)⟩
    rw [← Array.foldl_toList]
    simpa using X
   have o: ∀ (c:Option Code) (b:Bool),({rec .busy none with state:=if b then .ready else .done,pending:=c}:Loop)=rec (if b then .ready else .done) c:=fun c b=>by rw [G]
   have T: ∀ (c:Option Code) (N:World) (C':List ao) (S:BS),St S W (jU (w.heap.size+1) (.loop (rec .busy none))::C') N→
    ∃ M,(Instr.endRound (w.heap.size+1) c).run E.P N= .ok (.bool c.isNone) M∧St S W (jU (w.heap.size+1) (.loop (rec (if c.isNone then .ready else .done) c))::C') M:=fun c N C' S H=>by
    have AI:N.heap[w.heap.size+1]? =some (.loop (rec .busy none)):=H.holds _ (ck ..)
    refine ⟨_,run_endRound c AI,?_⟩
    have:=H.zL (b:=w.heap.size+1) (A':=jU (w.heap.size+1) (.loop (rec (if c.isNone then .ready else .done) c))) 0 rfl rfl rfl (hP _) (fun _ h=>h) (World.putObj_heap_same (dy AI))
    rw [o]
    exact this
   refine round k x k' y (w.heap.size+1) (rec .ready none) (rec .busy none) ⟨A.wf,A.eA⟩ W _ (roundPost E.P (w.heap.size+1) (fun e w'=>(e= .returned (.bool true)∧ ∃ B,J k' B∧Mv A B W w')∨(e= .returned (.bool false)∧ ∃ B,Z B∧Mv A B W w'))) (Nat.le_trans (Nat.le_trans q.keeps.size (by rw [← R]; simp; omega)) AD) hx hy ?_ ?_ ?_ ?_ _ _ AF (St.Bz hA)
   ·intro L' C' hW a1 N i H
    have AI:N.heap[w.heap.size+1]? =some (.loop (rec .ready none)):=H.holds _ (ck ..)
    refine ⟨_,run_beginRound AI (by rw [G]),hW _ _ i ?_⟩
    have:=H.zL (b:=w.heap.size+1) (A':=jU (w.heap.size+1) (.loop (rec .busy none))) 0 rfl rfl rfl (hP _) (fun _ h=>h) (World.putObj_heap_same (dy AI))
    have e:({rec .ready none with state:= .busy}:Loop)=rec .busy none:=by rw [G]
    rw [e]; exact this
   ·intro y' L' C' hy' hC' a1 N i H
    obtain ⟨M,V,O⟩:=T none N _ _ (hC' _ H)
    exact ⟨_,M,V,.inl ⟨U,_,⟨y',hy',U⟩,Mv.of O⟩⟩
   ·intro id z L' C' hz hC' a1 N i H
    obtain ⟨M,V,O⟩:=T (some (.exit id)) N _ _ (hC' _ H)
    exact ⟨_,M,V,.inr ⟨U,_,⟨_,z,.inr ⟨id,U⟩,hz,U⟩,Mv.of O⟩⟩
   ·intro z L' C' hz hC' a1 N i H
    obtain ⟨M,V,O⟩:=T (some .ret) N _ _ (hC' _ H)
    exact ⟨_,M,V,.inr ⟨U,_,⟨_,z,.inl U,hz,U⟩,Mv.of O⟩⟩
  ·intro A hA
   obtain ⟨B,hB,hc⟩:=hCp A hA
   exact hc.holds _ (Y.holds B (dq _ (dq _ hB)))
  ·intro A hA b hb hb'
   obtain ⟨B,hB,hc⟩:=hCp A hA
   exact ⟨(H B (dq _ hB) b hb (hc.eA b hb')).1,fun h=>h⟩
  ·rintro e w' ⟨v,rfl,hh⟩
   have AB:Fr E.n (jZ w.heap.size::D) L0 {a with defers:=[jZ w.heap.size]++a.defers}:=⟨by simp [hf.defers],hf.size,fun t v hv=>hf.at_ t v (hL t v hv)⟩
   have hleave: ∀ (st:LoopState) (c:Option Code) (C':List ao),st≠ .busy→Mv (bM (jU (w.heap.size+1) (.loop (rec .ready none))::Ci s0 y0)) (bM (jU (w.heap.size+1) (.loop (rec st c))::C')) W1 w'→
    ∃ M,(Instr.endLoop (w.heap.size+1)).run E.P w'= .ok c M∧St E.S E.w0 (jU w.heap.size (.deferred (some []))::(F++C')) M:=fun st c C' AH m=>by
    have X:=(Y.mv 0 rfl m).gR
    have h1':St E.S E.w0 ((jU (w.heap.size+1) (.loop (rec st c))::C')++(jU w.heap.size (.deferred (some []))::F)) w':=X
    have AI:w'.heap[w.heap.size+1]? =some (.loop (rec st c)):=h1'.holds (jU (w.heap.size+1) (.loop (rec st c))) sm
    refine ⟨_,by have:=run_endLoop (P:=E.P) AI (by rw [G]; exact AH); rw [this,G],?_⟩
    have j:=h1'.zL (b:=w.heap.size+1) (A':=jU (w.heap.size+1) (.loop {rec st c with state:= .exhausted})) 0 rfl rfl rfl (hP _) (fun _ h=>h) (World.putObj_heap_same (dy AI))
    have h3:St E.S E.w0 (C'++(jU w.heap.size (.deferred (some []))::F)) _:=j.take (List.sublist_cons_self _ _)
    rw [G] at h3
    refine h3.perm ?_
    exact (List.perm_append_comm).trans sm
   rcases hh with ⟨s,B,AG,⟨y,hy,rfl⟩,m⟩|⟨B,⟨c,z,hc,hz,rfl⟩,m⟩
   ·obtain ⟨M,V,O⟩:=hleave .ready none _ sm m
    exact ⟨none,M,V,fin w.heap.size s y AG hy _ _ AB O⟩
   ·obtain ⟨M,V,O⟩:=hleave .done (some c) _ sm m
    refine ⟨some c,M,V,?_⟩
    rcases hc with rfl|⟨id,rfl⟩
    ·exact wpIn_ret (finr w.heap.size z hz _ _ AB O)
    ·exact wpIn_exit (finx w.heap.size id z hz _ _ AB O)
end
section
open Go.RowKit
/-- where a row lies, and its capacity -/
abbrev RA:=OA×Nat
/-- what is asked of memory by all elements -/
def aZ {M A:Type} (f:M→A→List ao):List M→List A→List ao
 |m::ms,a::asl=>f m a++aZ f ms asl
 |_,_=>[]
theorem bk {M A:Type} {f:M→A→List ao}: ∀ {ms:List M} {asl:List A} {k:Nat} {m:M} {a:A} {X:ao},ms[k]? =some m→asl[k]? =some a→X∈f m a→X∈aZ f ms asl
 |[],_,k,m,a,X,h,_,_=>by simp at h
 |_::_,[],k,m,a,X,_,h,_=>by simp at h
 |x::ms,y::asl,0,m,a,X,h,h2,hX=>by
  simp at h h2; subst h h2
  exact List.mem_append_left _ hX
 |x::ms,y::asl,k+1,m,a,X,h,h2,hX=>List.mem_append_right _ (bk (ms:=ms) (asl:=asl) (k:=k) (by simpa using h) (by simpa using h2) hX)
theorem jn {M A:Type} {f:M→A→List ao}: ∀ {ms:List M} {asl:List A} {X:ao},X∈aZ f ms asl→ ∃ (k:Nat) (m:M) (a:A),ms[k]? =some m∧asl[k]? =some a∧X∈f m a
 |[],_,X,h=>by cases h
 |_::_,[],X,h=>by cases h
 |x::ms,y::asl,X,h=>by
  rcases List.mem_append.1 h with h|h
  ·exact ⟨0,x,y,U,U,h⟩
  ·obtain ⟨k,m,a,B,C,D⟩:=jn h
   exact ⟨k+1,m,a,by simpa using B,by simpa using C,D⟩
theorem iJ {M A:Type} {f:M→A→List ao}: ∀ {ms:List M} {asl:List A} {ns:List M} {bs:List A},ms.length=asl.length→aZ f (ms++ns) (asl++bs)=aZ f ms asl++aZ f ns bs
 |[],[],ns,bs,_=>rfl
 |[],_::_,ns,bs,h=>by simp at h
 |_::_,[],ns,bs,h=>by simp at h
 |x::ms,y::asl,ns,bs,h=>by
  simp only [List.cons_append,aZ,List.append_assoc]
  rw [iJ (by simpa using h)]
theorem db {M A β:Type} {f:M→A→β} {ms:List M} {asl:List A} {k:Nat} {m:M} {a:A} (h:ms[k]? =some m) (h2:asl[k]? =some a):(List.zipWith f ms asl)[k]? =some (f m a):=by
 rw [List.getElem?_zipWith,h,h2]
theorem bT {C L:List ao} {A:ao} (i:Nat) (hC:C[i]? =some (eg L).ro) (hm:A∈L):fR C A.holds:=fun w hw=>hw _ (aI hC) A hm
theorem eY {M A:Type} {f g:M→A→List ao} {ms:List M} {asl:List A} {C:List ao} (i:Nat) (hC:C[i]? =some (bM (aZ g ms asl))) (h: ∀ m a w,(∀ X∈g m a,X.holds w)→ ∀ X∈f m a,X.holds w):fR C (eg (aZ f ms asl)).holds:=fun w hw X hX=>by
 have hb:=hw _ (aI hC)
 obtain ⟨k,m,a,B,D,E⟩:=jn hX
 exact h m a w (fun Y hY=>hb.1 Y (bk B D hY)) X E
/-- a row that is part of another one -/
theorem wQ {C:List ao} {A:OA} {n k sz:Nat} {es:List (List Value)} (hR:fR C (rd A n sz es).holds) (hk:k≤n):fR C (rd A k sz (es.take k)).holds:=fun w hw=>by
 obtain ⟨D,E,F⟩:=hR w hw
 refine ⟨by rw [List.length_take,D]; omega,fun x hx=>E x (List.mem_of_mem_take hx),fun hp=>?_⟩
 have G:0<k:=Nat.pos_of_mul_pos_right hp
 have hs:0<sz:=Nat.pos_of_mul_pos_left hp
 obtain ⟨ad,hA,B⟩:=F (Nat.mul_pos I hs)
 refine ⟨ad,hA,fun i e j v he hv=>B i e j v ?_ hv⟩
 rw [List.getElem?_take] at he
 split at he
 ·exact he
 ·cases he
section
variable {E:eB} {ops:Array Oper} {Q:cM} {rest:List Oper} {D:List Deferred} {L:List (Nat×Value)} {C:List ao}
variable {d:Nat} {ty:TypeId} {ps:String} {af:Array Edge} {g:Option (Nat×Bool)}
/-- an element of a slice that is the head of a row -/
theorem L4 (k:Nat) {x ix:Operand} {A:OA} {n n' c sz e t:Nat} {es:List (List Value)} {j:Int} (h:bF E.n ops L d g x ix=some (.slice A n' c,.int .i64 j)) (hR:fR C (rd A n sz es).holds)
 (ht:tE E.P t=some (e,sz)) (hz:0<sz) (hj:j=(k:Int)) (hk:k<n') (hn:n'≤n):SE E ops ⟨some d,.indexAddr t x ix,ty,ps,af,g⟩ D L C (.pointer (oo A (k*sz))) d:=IA k h (wQ hR hn) ht hz hj hk
end
theorem St.tie {S:BS} {w0 w:World} {C:List ao} {A:ao} {L L':List ao} (h:St S w0 (A::bM L::C) w) (e:L++[A]=L'):St S w0 (bM L'::C) w:=by
 subst e
 have B:St S w0 (bM L::A::C) w:=h.perm (List.Perm.swap _ _ _)
 have D:St S w0 (L++(A::C)) w:=B.gR
 have E:St S w0 ((L++[A])++C) w:=by simpa using D
 exact E.tied
theorem St.Jx {S:BS} {w0 w:World} {C:List ao} (h:St S w0 C w):St S w0 (bM []::C) w:=St.tied (C1:=[]) h
section
variable {E:eB} {Q:cM} {D:List Deferred} {L:List (Nat×Value)} {C:List ao}
theorem nU {c:Code} (h:WJ E c Q D L (bM []::C)):WJ E c Q D L C:=fun a w hf hs=>h a w hf hs.Jx
theorem z8 {ops:Array Oper} {rest:List Oper} (h:RJ E ops Q rest D L (bM []::C)):RJ E ops Q rest D L C:=fun a w hf hs=>h a w hf hs.Jx
theorem wq {K:Act→World→Prop} {C1:List ao} {A:ao} {X X':List ao} (i j:Nat) (hn:decide (j::i::(List.range C.length).filter fun k=>k != i&&k != j).Nodup=true) (hC:jt C (j::i::(List.range C.length).filter fun k=>k != i&&k != j)=A::bM X::C1) (e:X++[A]=X')
 (h:KJ E K D L (bM X'::C1)):KJ E K D L C:=fun a w hf hs=>h a w hf ((St.jt _ hn hC hs).tie e)
theorem Ni {ops:Array Oper} {rest:List Oper} {C1:List ao} {A:ao} {X X':List ao} (i j:Nat) (hn:decide (j::i::(List.range C.length).filter fun k=>k != i&&k != j).Nodup=true) (hC:jt C (j::i::(List.range C.length).filter fun k=>k != i&&k != j)=A::bM X::C1) (e:X++[A]=X')
 (h:RJ E ops Q rest D L (bM X'::C1)):RJ E ops Q rest D L C:=fun a w hf hs=>h a w hf ((St.jt _ hn hC hs).tie e)
end
end
section
open Go.RowKit
abbrev gE:aa→Value:=fun s=>vA (aa.cells s)
abbrev dA:ar→Value:=fun s=>vA (ar.cells s)
abbrev TM:=List (Int×aa)
abbrev FM:=List (ar×Int)
def fz {α:Type} (m:α) (b:Nat):List Value:=[Value.map (some b)]
def pz (m:TM) (b:Nat):List ao:=[jV iV b (cz gE m)]
def lW (m:FM) (b:Nat):List ao:=[jV dA b (cz iV m)]
theorem uc {M A:Type} {f:M→A→List ao}: ∀ (m:M) (a:A) (w:World),(∀ X∈f m a,X.holds w)→ ∀ X∈f m a,X.holds w:=fun _ _ _ h=>h
/-- untied -/
theorem Hn {E:eB} {ops:Array Oper} {Q:cM} {rest:List Oper} {D:List Deferred} {L:List (Nat×Value)} {C X C1:List ao} (i:Nat) (hn:decide (i::(List.range C.length).filter fun k=>k != i).Nodup=true) (hC:jt C (i::(List.range C.length).filter fun k=>k != i)=bM X::C1)
 (h:RJ E ops Q rest D L (X++C1)):RJ E ops Q rest D L C:=fun a w hf hs=>h a w hf (St.gR (St.jt _ hn hC hs))
end
section
def cp (ln:cb) (rd:dZ) (e:List Int) (tms:List TM):bJ:=⟨rd.Start,rd.eX,e,tms,ln.cW,ln.eO,(rd.ag.n:Int)⟩
def IT (o:Int×aa):List Value:=[.int .i64 o.1,.agg (aa.cells o.2).toArray]
structure D_ (w:bJ):Prop where
 n:w.n≤6
 times:w.sN.length=w.n
 now:0≤w.Start∧w.Start≤w.eX∧w.eX≤86400000
 least: ∀ x∈w.oc,1≤x∧x≤500000000
 Ce: ∀ t∈w.sN,∀ p∈t,(0≤p.1∧p.1≤10)∧0≤p.2.Lo∧p.2.Lo≤p.2.Hi∧p.2.Hi≤86400000
theorem D_.opt {w:bJ} (h:D_ w) {b:Nat} {o:Int×aa} (ho:o∈gr w b):(-1≤o.1∧o.1≤10)∧0≤o.2.Lo∧o.2.Lo≤o.2.Hi∧o.2.Hi≤86400000:=by
 unfold gr qP at ho
 rcases List.mem_cons.1 ho with rfl|ho
 ·have:=h.now; simp only; omega
 ·cases ht:w.sN[b]? with
  |none=>simp [ht] at ho
  |some t=>
   rw [ht] at ho
   have:=h.Ce t (aI ht) o ho
   omega
theorem D_.bK {w:bJ} (h:D_ w) (b:Nat):0≤bK w b∧bK w b≤500000000:=by
 unfold Go.Proofs.YtcoejkiaokbmpaaGreatDoor.bK
 cases ht:w.oc[b]? with
 |none=>simp
 |some x=>have:=h.least x (aI ht); simp only [Option.getD_some]; omega
theorem rj (s:Int):(0≤(ej s).right∧0≤(ej s).dT)∧(ej s).right+(ej s).dT=1:=by unfold ej; split<;>simp
theorem EC {w:bJ} (h:D_ w): ∀ (b:Nat) p,p∈fwd w b→(0≤p.2∧p.2≤86400000)∧(0≤p.1.right∧0≤p.1.dT)∧p.1.right+p.1.dT=(b:Int):=by
 intro b
 induction b with
 |zero=>
  intro p hp
  simp only [fwd,cu] at hp
  subst hp
  have:=h.now; simp only; omega
 |succ b ih=>
  intro q hq
  obtain ⟨p,hp,o,ho,e⟩:=eT.1 hq
  have A:=ih p hp
  have B:=h.opt ho
  have C:=h.bK b
  have D:=h.now
  have E:=rj o.1
  unfold jB at e
  split at e
  ·simp only [Option.some.injEq] at e
   subst e
   simp only [cP]
   omega
  ·cases e
theorem NN {w:bJ} (h:D_ w): ∀ (k:Nat) p,p∈bwd w k→(-(500000000*(k:Int))≤p.2∧p.2≤86400000)∧(0≤p.1.right∧0≤p.1.dT)∧p.1.right+p.1.dT≤(k:Int):=by
 intro k
 induction k with
 |zero=>
  intro p hp
  simp only [bwd,cu] at hp
  subst hp
  have:=h.now; simp only; omega
 |succ k ih=>
  intro q hq
  simp only [bwd,g8,List.mem_flatMap,List.mem_filterMap] at hq
  rcases hq with rfl|⟨p,hp,o,ho,e⟩
  ·have:=h.now; simp only; omega
  ·have A:=ih p hp
   have B:=h.opt ho
   have C:=h.bK (w.n-(k+1))
   have D:=h.now
   have E:=rj o.1
   unfold lY at e
   split at e
   ·simp only [Option.some.injEq] at e
    subst e
    simp only [cP]
    omega
   ·cases e
theorem Fb {w:bJ} (h:D_ w) {b:Nat} {p:ar×Int} (hp:p∈back w b):(-3000000000≤p.2∧p.2≤86400000)∧(0≤p.1.right∧0≤p.1.dT)∧p.1.right+p.1.dT≤6:=by
 have:=NN h _ _ hp
 have:=h.n
 omega
theorem vp {w:bJ} {b:Nat} {t:TM} (ht:w.sN[b]? =some t) {o:Int×aa}:o∈gr w b↔o=(-1,⟨w.Start,w.eX⟩)∨o∈t:=by
 unfold gr qP; rw [ht]; simp
theorem j4 {K β:Type} [DecidableEq K] {l:List (K×β)} {x:K} {y:β} (hn:(l.map (·.1)).Nodup) (hm:(x,y)∈l) {o:K×β} (h:o∈l):o∈ep l x∨o=(x,y):=by
 by_cases e:o.1=x
 ·right
  obtain ⟨k,v⟩:=o
  simp only at e
  subst e
  have B:=(ko hn).1 h
  have A:=(ko hn).1 hm
  rw [B] at A
  cases A; rfl
 ·exact .inl (wo.2 ⟨h,e⟩)
theorem DI {K β:Type} [DecidableEq K] {t l ys:List (K×β)} {x:K} {y:β} (hn:(l.map (·.1)).Nodup) (hm:(x,y)∈l) (h: ∀ o∈t,o∈l∨o∈ys): ∀ o∈t,o∈ep l x∨o∈ys++[(x,y)]:=fun o ho=>by
 rcases h o ho with h|h
 ·rcases j4 hn hm h with h|h
  ·exact .inl h
  ·exact .inr (by simp [h])
 ·exact .inr (by simp [h])
theorem kq {K β:Type} [DecidableEq K] {t l:List (K×β)} {x:K} (h: ∀ o∈l,o∈t): ∀ o∈ep l x,o∈t:=fun o ho=>h o (wo.1 ho).1
theorem E1 {w:bJ} {m left:List (ar×Int)} (h: ∀ p∈m,p∈left∨jl w p.1=false) (h0:left=[]):g9 w m=false:=by
 unfold g9
 rw [List.any_eq_false]
 intro p hp
 rcases h p hp with q|q
 ·rw [h0] at q; cases q
 ·simp [q]
theorem Hl {w:bJ} {m:List (ar×Int)} {p:ar×Int} (hp:p∈m) (h:jl w p.1=true):g9 w m=true:=List.any_eq_true.2 ⟨p,hp,h⟩
theorem E8 {w:bJ} {m left:List (ar×Int)} {t:ar} {v:Int} (hn:(left.map (·.1)).Nodup) (hm:(t,v)∈left) (h: ∀ p∈m,p∈left∨jl w p.1=false) (hf:jl w t=false): ∀ p∈m,p∈ep left t∨jl w p.1=false:=fun p hp=>by
 rcases h p hp with q|q
 ·rcases j4 hn hm q with q|q
  ·exact .inl q
  ·right; rw [q]; exact hf
 ·exact .inr q
/-- what the maps of a watch are -/
structure uG (w:bJ) (fs:List (List (ar×Int))):Prop where
 len:fs.length=w.n+1
 min: ∀ (b:Nat) m,fs[b]? =some m→qH m (fwd w b)
 keys: ∀ (b:Nat) m,fs[b]? =some m→(m.map (·.1)).Nodup
structure rW (w:bJ) (bs:List (List (ar×Int))):Prop where
 len:bs.length=w.n+1
 max: ∀ (b:Nat) m,bs[b]? =some m→sO m (back w b)
 keys: ∀ (b:Nat) m,bs[b]? =some m→(m.map (·.1)).Nodup
theorem uG.mem {w:bJ} {fs:List (List (ar×Int))} (h:uG w fs) {b:Nat} {m:List (ar×Int)} (hm:fs[b]? =some m) {p:ar×Int} (hp:p∈m):p∈fwd w b:=(h.min b m hm).1 _ _ ((ew (h.keys b m hm)).1 hp)
theorem rW.mem {w:bJ} {fs:List (List (ar×Int))} (h:rW w fs) {b:Nat} {m:List (ar×Int)} (hm:fs[b]? =some m) {p:ar×Int} (hp:p∈m):p∈back w b:=(h.max b m hm).1 _ _ ((ew (h.keys b m hm)).1 hp)
theorem C_ {w:bJ} {b:Nat} {t l ys:List (Int×aa)} (ht:w.sN[b]? =some t) (h: ∀ o∈t,o∈l∨o∈ys) (h0:l=[]) (hs:(-1,(⟨w.Start,w.eX⟩:aa))∈ys): ∀ o∈gr w b,o∈ys:=fun o ho=>by
 rcases (vp ht).1 ho with rfl|ho
 ·exact hs
 ·rcases h o ho with q|q
  ·rw [h0] at q; cases q
  ·exact q
end
section
/-- by these options all is yielded -/
def j2 (w:bJ) (b:Nat) (mf mb:List (ar×Int)) (os ys:List (Int×aa)):Prop:= ∀ o∈os,∀ p∈mf,∀ u∈mb,∀ q,km w b p u o=some q→q∈ys
def lD (w:bJ) (b:Nat) (mf mb:List (ar×Int)) (o:Int×aa) (left:List (ar×Int)) (ys:List (Int×aa)):Prop:= ∀ p∈mf,p∈left∨ ∀ u∈mb,∀ q,km w b p u o=some q→q∈ys
def lJ (w:bJ) (b:Nat) (mb:List (ar×Int)) (o:Int×aa) (p:ar×Int) (left:List (ar×Int)) (ys:List (Int×aa)):Prop:= ∀ u∈mb,u∈left∨ ∀ q,km w b p u o=some q→q∈ys
variable {w:bJ} {b:Nat} {mf mb left:List (ar×Int)} {o x:Int×aa} {os ys:List (Int×aa)} {p u:ar×Int}
theorem j2.nil:j2 w b mf mb [] ys:=fun o ho=>by cases ho
theorem j2.app (h:j2 w b mf mb os ys):j2 w b mf mb os (ys++[x]):=fun o ho p hp u hu q e=>List.mem_append_left _ (h o ho p hp u hu q e)
theorem lD.app (h:lD w b mf mb o left ys):lD w b mf mb o left (ys++[x]):=fun p hp=>(h p hp).imp id fun h u hu q e=>List.mem_append_left _ (h u hu q e)
theorem lD.start:lD w b mf mb o mf ys:=fun p hp=> .inl hp
theorem lJ.start:lJ w b mb o p mb ys:=fun p hp=> .inl hp
theorem lJ.skip {t:ar} {v:Int} (hn:(left.map (·.1)).Nodup) (hm:(t,v)∈left) (h:lJ w b mb o p left ys) (he:km w b p (t,v) o=none):lJ w b mb o p (ep left t) ys:=fun u hu=>by
 rcases h u hu with q|q
 ·rcases j4 hn hm q with q|q
  ·exact .inl q
  ·right; intro z hz; rw [q,he] at hz; cases hz
 ·exact .inr q
theorem lJ.N4 {t:ar} {v:Int} (hn:(left.map (·.1)).Nodup) (hm:(t,v)∈left) (h:lJ w b mb o p left ys) (he:km w b p (t,v) o=some x):lJ w b mb o p (ep left t) (ys++[x]):=fun u hu=>by
 rcases h u hu with q|q
 ·rcases j4 hn hm q with q|q
  ·exact .inl q
  ·right; intro z hz; rw [q,he] at hz; cases hz; simp
 ·right; intro z hz; exact List.mem_append_left _ (q z hz)
theorem lD.next {t:ar} {v:Int} {l2:List (ar×Int)} (hn:(left.map (·.1)).Nodup) (hm:(t,v)∈left) (h:lD w b mf mb o left ys) (hq:lJ w b mb o (t,v) l2 ys) (h0:l2=[]):lD w b mf mb o (ep left t) ys:=fun p hp=>by
 rcases h p hp with q|q
 ·rcases j4 hn hm q with q|q
  ·exact .inl q
  ·right; intro u hu z hz; subst q
   rcases hq u hu with q|q
   ·rw [h0] at q; cases q
   ·exact q z hz
 ·exact .inr q
theorem j2.next (h:j2 w b mf mb os ys) (hp:lD w b mf mb o left ys) (h0:left=[]):j2 w b mf mb (os++[o]) ys:=fun o' ho p hp' u hu q e=>by
 rcases List.mem_append.1 ho with ho|ho
 ·exact h o' ho p hp' u hu q e
 ·simp only [cu] at ho; subst ho
  rcases hp p hp' with z|z
  ·rw [h0] at z; cases z
  ·exact z u hu q e
theorem j2.fin (h:j2 w b mf mb os ys) (ho: ∀ o∈gr w b,o∈os): ∀ q∈oe w b mf mb,q∈ys:=fun q hq=>by
 obtain ⟨o,A,p,B,u,C,e⟩:=gj.1 hq
 exact h o (ho o A) p B u C q e
theorem DY (h:max (p.2+bK w b) o.2.Lo≤min u.2 o.2.Hi) (h2:jl w (cP (cP p.1 u.1) (ej o.1))=true):km w b p u o=some (o.1,⟨max (p.2+bK w b) o.2.Lo,min u.2 o.2.Hi⟩):=by
 unfold km ic uY; rw [if_pos ⟨h,h2⟩]
theorem EM (h: ¬ max (p.2+bK w b) o.2.Lo≤min u.2 o.2.Hi):km w b p u o=none:=by
 unfold km ic; rw [if_neg (fun q=>h q.1)]
theorem Dh (h2:jl w (cP (cP p.1 u.1) (ej o.1))=false):km w b p u o=none:=by
 unfold km uY; rw [if_neg (fun q=>by rw [h2] at q; exact absurd q.2 dc)]
theorem lL {v:Int} (h:w.oc[b]? =some v):bK w b=v:=by unfold bK; rw [h]; rfl
theorem yB {t q:ar} {v z y:Int} (hy:w.oc[b]? =some y) (h:max (v+y) o.2.Lo≤min z o.2.Hi) (h2:jl w (cP (cP t q) (ej o.1))=true):km w b (t,v) (q,z) o=some (o.1,⟨max (v+y) o.2.Lo,min z o.2.Hi⟩):=by
 have e:=lL hy
 subst e
 exact DY h h2
theorem CT {t q:ar} {v z y:Int} (hy:w.oc[b]? =some y) (h: ¬ max (v+y) o.2.Lo≤min z o.2.Hi):km w b (t,v) (q,z) o=none:=by
 have e:=lL hy
 subst e
 exact EM h
theorem l5 {m:List (ar×Int)} {k:ar} {y:Int} (h:(m.map (·.1)).Nodup):((ei m k y).map (·.1)).Nodup:=by
 unfold ei
 by_cases hx:(m.lookup k).isSome
 ·rw [if_pos hx,List.map_map]
  have e:m.map ((fun p=>p.1)∘fun p=>if p.1=k then (k,y) else p)=m.map (·.1):=by
   apply List.map_congr_left
   intro p _
   simp only [Function.comp]
   split
   ·rename_i e; exact e.symm
   ·rfl
  rw [e]; exact h
 ·rw [if_neg hx,List.map_append,List.nodup_append]
  refine ⟨h,sm,?_⟩
  intro a ha c hc
  simp only [List.map_cons,List.map_nil,cu] at hc
  rw [hc]
  obtain ⟨p,hp,rfl⟩:=List.mem_map.1 ha
  have hn:m.lookup k=none:=by cases h0:m.lookup k with
   |none=>rfl
   |some v=>exact absurd (by rw [h0]; rfl) hx
  exact hH.1 hn p hp
theorem yk {m:List (ar×Int)} {q:ar×Int} (h:(m.map (·.1)).Nodup):((nt m q).map (·.1)).Nodup:=by
 unfold nt; split
 ·exact l5 h
 ·split
  ·exact l5 h
  ·exact h
theorem yp {m:List (ar×Int)} {q:ar×Int} (h:(m.map (·.1)).Nodup):((mW m q).map (·.1)).Nodup:=by
 unfold mW; split
 ·exact l5 h
 ·split
  ·exact l5 h
  ·exact h
/-- a map of the first times, on its way -/
structure tJ (w:bJ) (b:Nat) (m:List (ar×Int)):Prop where
 snd:sL m (fwd w (b+1))
 keys:(m.map (·.1)).Nodup
structure sT (w:bJ) (b:Nat) (m:List (ar×Int)):Prop where
 snd:sL m (back w b)
 keys:(m.map (·.1)).Nodup
 zero: ∃ v,m.lookup ⟨0,0⟩=some v∧w.eX≤v
theorem Gs (h:max (p.2+bK w b) o.2.Lo≤min o.2.Hi w.eX):jB w b p o=some (cP p.1 (ej o.1),max (p.2+bK w b) o.2.Lo):=by unfold jB; rw [if_pos h]
theorem HP (h: ¬ max (p.2+bK w b) o.2.Lo≤min o.2.Hi w.eX):jB w b p o=none:=by unfold jB; rw [if_neg h]
theorem FN (h:o.2.Lo≤min p.2 o.2.Hi):lY w b p o=some (cP p.1 (ej o.1),min p.2 o.2.Hi-bK w b):=by unfold lY; rw [if_pos h]
theorem Hk (h: ¬ o.2.Lo≤min p.2 o.2.Hi):lY w b p o=none:=by unfold lY; rw [if_neg h]
theorem tJ.start:tJ w b []:=⟨fun t v h=>by simp at h,List.nodup_nil⟩
theorem tJ.add {m:List (ar×Int)} {q:ar×Int} (h:tJ w b m) (hp:p∈fwd w b) (ho:o∈gr w b) (he:jB w b p o=some q):tJ w b (nt m q):=⟨Dx h.snd (eT.2 ⟨p,hp,o,ho,he⟩),yk h.keys⟩
theorem sT.start (hb:b<w.n):sT w b [(⟨0,0⟩,w.eX)]:=⟨fun t v h=>by
 obtain ⟨rfl,rfl⟩:=mS.1 h
 exact (nk hb).2 (.inl U),sm,w.eX,mS.2 ⟨U,U⟩,Int.le_refl _⟩
theorem sT.add {m:List (ar×Int)} {q:ar×Int} (hb:b<w.n) (h:sT w b m) (hp:p∈back w (b+1)) (ho:o∈gr w b) (he:lY w b p o=some q):sT w b (mW m q):=⟨Cu h.snd ((nk hb).2 (.inr ⟨p,hp,o,ho,he⟩)),yp h.keys,by
 obtain ⟨v,A,C⟩:=h.zero
 obtain ⟨v',B,D⟩:=oD (q:=q) _ _ A
 exact ⟨v',B,I⟩⟩
theorem gS.none_ {m:List (ar×Int)} (h:gS w b m p os) (he:jB w b p o=none):gS w b m p (os++[o]):=h.add (tM.refl _) fun q hq=>by rw [he] at hq; cases hq
theorem gS.EW {m:List (ar×Int)} {q:ar×Int} (h:gS w b m p os) (he:jB w b p o=some q):gS w b (nt m q) p (os++[o]):=h.add sD fun q' hq=>by rw [he] at hq; cases hq; exact DL
theorem gV.none_ {m:List (ar×Int)} (h:gV w b m p os) (he:lY w b p o=none):gV w b m p (os++[o]):=h.add (ub.refl _) fun q hq=>by rw [he] at hq; cases hq
theorem gV.EW {m:List (ar×Int)} {q:ar×Int} (h:gV w b m p os) (he:lY w b p o=some q):gV w b (mW m q) p (os++[o]):=h.add oD fun q' hq=>by rw [he] at hq; cases hq; exact D8
/-- what of a map of the beam before is used already -/
def iS (w:bJ) (b:Nat) (mb m left:List (ar×Int)):Prop:= ∀ p∈mb,p∈left∨gS w b m p (gr w b)
def iv (w:bJ) (b:Nat) (mb m left:List (ar×Int)):Prop:= ∀ p∈mb,p∈left∨gV w b m p (gr w b)
theorem iS.start {m:List (ar×Int)}:iS w b mb m mb:=fun p hp=> .inl hp
theorem iv.start {m:List (ar×Int)}:iv w b mb m mb:=fun p hp=> .inl hp
theorem iS.lower {m m':List (ar×Int)} (h:iS w b mb m left) (hl:tM m m'):iS w b mb m' left:=fun p hp=>(h p hp).imp id fun h=>h.lower hl
theorem iv.upper {m m':List (ar×Int)} (h:iv w b mb m left) (hl:ub m m'):iv w b mb m' left:=fun p hp=>(h p hp).imp id fun h=>h.upper hl
theorem iS.next {m:List (ar×Int)} {t:ar} {v:Int} (hn:(left.map (·.1)).Nodup) (hm:(t,v)∈left) (h:iS w b mb m left) (hd:gS w b m (t,v) os) (ho: ∀ o∈gr w b,o∈os):iS w b mb m (ep left t):=fun p hp=>by
 rcases h p hp with q|q
 ·rcases j4 hn hm q with q|q
  ·exact .inl q
  ·right; rw [q]; exact hd.sub ho
 ·exact .inr q
theorem iv.next {m:List (ar×Int)} {t:ar} {v:Int} (hn:(left.map (·.1)).Nodup) (hm:(t,v)∈left) (h:iv w b mb m left) (hd:gV w b m (t,v) os) (ho: ∀ o∈gr w b,o∈os):iv w b mb m (ep left t):=fun p hp=>by
 rcases h p hp with q|q
 ·rcases j4 hn hm q with q|q
  ·exact .inl q
  ·right; rw [q]; exact hd.sub ho
 ·exact .inr q
theorem iS.fin {m:List (ar×Int)} (h:iS w b mb m left) (h0:left=[]): ∀ p∈mb,gS w b m p (gr w b):=fun p hp=>by
 rcases h p hp with q|q
 ·rw [h0] at q; cases q
 ·exact q
theorem iv.fin {m:List (ar×Int)} (h:iv w b mb m left) (h0:left=[]): ∀ p∈mb,gV w b m p (gr w b):=fun p hp=>by
 rcases h p hp with q|q
 ·rw [h0] at q; cases q
 ·exact q
end
section
def kp (a b:aa):aa:=⟨a.Lo+b.Lo,a.Hi+b.Hi⟩
def cg:aa:=⟨0,0⟩
def jm (a:aa) (l:List aa):aa:=l.foldl kp a
def jX (z:aa):Prop:=(-1000000000≤z.Lo∧z.Lo≤1000000000)∧ -1000000000≤z.Hi∧z.Hi≤1000000000
theorem vR {a:aa} {l:List aa} {i:Nat} {z:aa} (h:l[i]? =some z):jm a (l.take (i+1))=kp (jm a (l.take i)) z:=by
 rw [List.take_add_one,h]; unfold jm; simp
theorem K_ {a:aa} {l:List aa} (ha:jX a) (hl: ∀ z∈l,jX z): ∀ i:Nat,(-1000000000-1000000000*(i:Int)≤(jm a (l.take i)).Lo∧(jm a (l.take i)).Lo≤1000000000+1000000000*(i:Int))∧ -1000000000-1000000000*(i:Int)≤(jm a (l.take i)).Hi∧(jm a (l.take i)).Hi≤1000000000+1000000000*(i:Int):=by
 intro i
 induction i with
 |zero=>unfold jX at ha; simp [jm]; omega
 |succ i ih=>
  cases h:l[i]? with
  |none=>rw [List.take_add_one,h]; simp only [Option.toList_none,List.append_nil]; omega
  |some z=>
   have hz:=hl z (aI h)
   unfold jX at hz
   rw [vR h]
   simp only [kp]
   omega
theorem GG {a:aa} {l:List aa} {i:Nat} (h:l.length≤i):jm a (l.take i)=jm a l:=by rw [List.take_of_length_le h]
theorem lx {a z:aa}:vA (aa.cells (jm a [z]))=vA (aa.cells (kp a z)):=rfl
theorem zF {a y z:aa}:vA (aa.cells (jm a [y,z]))=vA (aa.cells (kp (kp a y) z)):=rfl
/-- how long the run is from one mark, over so many stretches; by how much it falls -/
def dI (ts:List aj) (f:Nat):Nat→aa
 |0=>cg
 |k+1=>match ts[f+k]? with
  |some x=>kp (dI ts f k) x.ia
  |none=>dI ts f k
def ff (ts:List aj) (f:Nat):Nat→aa
 |0=>cg
 |k+1=>match ts[f+k]? with
  |some x=>kp (ff ts f k) x.jh
  |none=>ff ts f k
theorem nS {ts:List aj} {f k:Nat} {x:aj} (h:ts[f+k]? =some x):dI ts f (k+1)=kp (dI ts f k) x.ia:=by simp [dI,h]
theorem nG {ts:List aj} {f k:Nat} {x:aj} (h:ts[f+k]? =some x):ff ts f (k+1)=kp (ff ts f k) x.jh:=by simp [ff,h]
theorem ki {ts:List aj} (ht: ∀ x∈ts,bD x) (f:Nat): ∀ k:Nat,(0≤(dI ts f k).Lo∧(dI ts f k).Lo≤(dI ts f k).Hi)∧(dI ts f k).Hi≤30000*(k:Int):=by
 intro k
 induction k with
 |zero=>simp [dI,cg]
 |succ k ih=>
  simp only [dI]
  cases h:ts[f+k]? with
  |none=>simp only; omega
  |some x=>
   have hx:=(ht x (aI h)).2.1
   simp only [di] at hx
   simp only [kp]
   omega
theorem Bv {ts:List aj} (ht: ∀ x∈ts,bD x) (f:Nat): ∀ k:Nat,(0≤(ff ts f k).Lo∧(ff ts f k).Lo≤(ff ts f k).Hi)∧(ff ts f k).Hi≤5000*(k:Int):=by
 intro k
 induction k with
 |zero=>simp [ff,cg]
 |succ k ih=>
  simp only [ff]
  cases h:ts[f+k]? with
  |none=>simp only; omega
  |some x=>
   have hx:=(ht x (aI h)).2.2.1
   simp only [di] at hx
   simp only [kp]
   omega
theorem oF {ts:List aj} (ht: ∀ x∈ts,bD x) {f k:Nat} (hk:k≤13):jX (dI ts f k):=by
 have:=ki ht f k; unfold jX; omega
theorem vd {ts:List aj} (ht: ∀ x∈ts,bD x) {f k:Nat} (hk:k≤13):jX (ff ts f k):=by
 have:=Bv ht f k; unfold jX; omega
theorem rX {x:aj} (h:bD x):jX x.ia:=by have:=h.2.1; simp only [di] at this; unfold jX; omega
theorem rp {x:aj} (h:bD x):jX x.jh:=by have:=h.2.2.1; simp only [di] at this; unfold jX; omega
theorem vJ {ts:List aj} (h: ¬ (if cK ts=true then (0:Int) else 10)=0):cK ts=false∧(if cK ts=true then (0:Int) else 10)=10:=by
 cases ht:cK ts with
 |true=>rw [ht] at h; exact absurd rfl h
 |false=>exact ⟨rfl,rfl⟩
theorem AB {ts:List aj} (h:(if cK ts=true then (0:Int) else 10)=0):cK ts=true:=by
 cases ht:cK ts with
 |true=>rfl
 |false=>rw [ht] at h; exact absurd h dc
/-- what the iterator of marks yields -/
def qq (ts:List aj) (f:Nat):List (List Value):=(List.range (ts.length-f+1)).map fun (k:Nat)=>[.agg (dI ts f k).cells.toArray,.agg (ff ts f k).cells.toArray]
theorem qZ {ts:List aj} {f:Nat}:(qq ts f).length=ts.length-f+1:=by simp [qq]
theorem wK {ts:List aj} {f k:Nat} (h:k≤ts.length-f):(qq ts f)[k]? =some [.agg (dI ts f k).cells.toArray,.agg (ff ts f k).cells.toArray]:=by
 simp [qq,List.getElem?_range (show k<ts.length-f+1 by omega)]
theorem D1 {ts:List aj} {f k:Nat} {x:List Value} (h:(qq ts f)[k]? =some x):k≤ts.length-f∧x=[.agg (dI ts f k).cells.toArray,.agg (ff ts f k).cells.toArray]:=by
 have hi:k<ts.length-f+1:=by
  have:=(List.getElem?_eq_some_iff.1 h).1
  simpa [qq] using this
 rw [wK I] at h
 exact ⟨I,(Option.some.inj h).symm⟩
theorem AN {ts:List aj} {f:Nat}: ∀ x∈qq ts f,x.length=2:=fun x hx=>by
 obtain ⟨k,_,rfl⟩:=List.mem_map.1 hx; rfl
end
section
def eH (ts:List aj) (s:ct):Prop:=(0≤s.aM∧s.aM<(ts.length:Int))∧ ∃ x,ts[s.aM.toNat]? =some x∧di s.jW 0 (x.ia.Lo-1)
noncomputable instance (ts:List aj) (s:ct):Decidable (eH ts s):=Classical.propDecidable _
theorem zk {ts:List aj} {s:ct} {x:aj} (h:0≤s.aM∧s.aM<(ts.length:Int)) (hx:ts[s.aM.toNat]? =some x):eH ts s↔di s.jW 0 (x.ia.Lo-1):=
 ⟨fun A=>by obtain ⟨y,hy,B⟩:=A.2; rw [hx] at hy; cases hy; exact B,fun A=>⟨h,x,hx,A⟩⟩
theorem yA {ts:List aj} {s:ct} (h: ¬ (0≤s.aM∧s.aM<(ts.length:Int))): ¬ eH ts s:=fun A=>h A.1
theorem w6 {ts:List aj} {s:ct} (ht: ∀ x∈ts,bD x) (h:eH ts s):(0≤s.jW.Lo∧s.jW.Lo≤s.jW.Hi)∧s.jW.Hi≤30000:=by
 obtain ⟨x,hx,A⟩:=h.2
 have:=(ht x (aI hx)).2.1
 simp only [di] at A this
 omega
theorem Bf {ts:List aj} {a:ct}:vB (decide (∀ s∈[a],eH ts s))=vB (decide (eH ts a)):=congrArg _ (decide_eq_decide.2 sm)
theorem Ad {ts:List aj} {a b:ct}:vB (decide (∀ s∈[a,b],eH ts s))=vB (decide (eH ts a∧eH ts b)):=congrArg _ (decide_eq_decide.2 sm)
def mo (z:aa):aa:=⟨-z.Hi,-z.Lo⟩
def G_ (ts:List aj) (s:ct):aa:=kp (dI ts 0 s.aM.toNat) s.jW
noncomputable def BE (ts:List aj) (s:ct):Int:=if cK ts=true then (if eH ts s then 0 else 12) else 10
noncomputable def Ka (ts:List aj) (s:ct):aa:=if BE ts s=0 then G_ ts s else cg
theorem FV {ts:List aj} {s:ct} (h:cK ts=false):BE ts s=10∧Ka ts s=cg:=by
 have e:BE ts s=10:=by unfold BE; rw [h]; rfl
 exact ⟨e,by unfold Ka; rw [e]; rfl⟩
theorem E5 {ts:List aj} {s:ct} (h:cK ts=true) (h2: ¬ eH ts s):BE ts s=12∧Ka ts s=cg:=by
 have e:BE ts s=12:=by unfold BE; rw [if_pos h,if_neg h2]
 exact ⟨e,by unfold Ka; rw [e]; rfl⟩
theorem ua {ts:List aj} {s:ct} (h:cK ts=true) (h2:eH ts s):BE ts s=0∧Ka ts s=G_ ts s:=by
 have e:BE ts s=0:=by unfold BE; rw [if_pos h,if_pos h2]
 exact ⟨e,if_pos e⟩
theorem BU {ts:List aj} {s:ct} (h:cK ts=true):BE ts s=0↔eH ts s:=by
 unfold BE; rw [if_pos h]; split<;>simp [*]
def um (ts:List aj) (a b:ct):aa:=dI ts (min a.aM b.aM).toNat (max a.aM b.aM-min a.aM b.aM).toNat
def iM (ts:List aj) (a b:ct):aa:=kp (kp (if b.aM<a.aM then mo (um ts a b) else um ts a b) b.jW) (mo a.jW)
noncomputable def j8 (ts:List aj) (a b:ct):Int:=if cK ts=true then (if eH ts a∧eH ts b then 0 else 12) else 10
noncomputable def jy (ts:List aj) (a b:ct):aa:=if j8 ts a b=0 then iM ts a b else cg
theorem rz {ts:List aj} {a b:ct} (h:cK ts=false):j8 ts a b=10∧jy ts a b=cg:=by
 have e:j8 ts a b=10:=by unfold j8; rw [h]; rfl
 exact ⟨e,by unfold jy; rw [e]; rfl⟩
theorem mN {ts:List aj} {a b:ct} (h:cK ts=true) (h2: ¬ (eH ts a∧eH ts b)):j8 ts a b=12∧jy ts a b=cg:=by
 have e:j8 ts a b=12:=by unfold j8; rw [if_pos h,if_neg h2]
 exact ⟨e,by unfold jy; rw [e]; rfl⟩
theorem jP {ts:List aj} {a b:ct} (h:cK ts=true) (h2:eH ts a∧eH ts b):j8 ts a b=0∧jy ts a b=iM ts a b:=by
 have e:j8 ts a b=0:=by unfold j8; rw [if_pos h,if_pos h2]
 exact ⟨e,if_pos e⟩
theorem w8 {z:aa} (h:jX z):jX (mo z):=by unfold jX mo at *; simp only; omega
theorem oQ {ts:List aj} {s:ct} (ht: ∀ x∈ts,bD x) (h:eH ts s):jX s.jW:=by have:=w6 ht h; unfold jX; omega
theorem Km {ts:List aj} {a b:ct} (ht: ∀ x∈ts,bD x) (hl:ts.length≤12) (ha:eH ts a) (hb:eH ts b):(0≤(um ts a b).Lo∧(um ts a b).Lo≤(um ts a b).Hi)∧(um ts a b).Hi≤360000:=by
 have h:=ki ht (min a.aM b.aM).toNat (max a.aM b.aM-min a.aM b.aM).toNat
 have A:=ha.1
 have B:=hb.1
 unfold um
 omega
theorem uE {ts:List aj} {a b:ct} (ht: ∀ x∈ts,bD x) (hl:ts.length≤12) (ha:eH ts a) (hb:eH ts b):(-400000≤(iM ts a b).Lo∧(iM ts a b).Lo≤(iM ts a b).Hi)∧(iM ts a b).Hi≤400000:=by
 have h:=Km ht hl ha hb
 have A:=w6 ht ha
 have B:=w6 ht hb
 unfold iM kp mo
 split<;>simp only <;>omega
theorem L6 {ts:List aj} {s:ct} (ht: ∀ x∈ts,bD x) (hl:ts.length≤12) (h:eH ts s):(0≤(G_ ts s).Lo∧(G_ ts s).Lo≤(G_ ts s).Hi)∧(G_ ts s).Hi≤400000:=by
 have A:=ki ht 0 s.aM.toNat
 have B:=w6 ht h
 have C:=h.1
 unfold G_ kp
 simp only; omega
theorem D4 {α:Type} {p:Nat→α→Bool} {l:List α}:((l.zipIdx.filter fun q=>p q.2 q.1).map fun q=>(q.2:Int))=[]↔ ∀ (i:Nat) x,l[i]? =some x→p i x=false:=by
 rw [List.map_eq_nil_iff,List.filter_eq_nil_iff]
 constructor
 ·intro h i x hx
  have:=h (x,i) (by rw [List.mem_zipIdx_iff_getElem?]; simpa using hx)
  simpa using this
 ·rintro h ⟨x,i⟩ hm
  rw [List.mem_zipIdx_iff_getElem?] at hm
  simpa using h i x (by simpa using hm)
/-- the places of a list at which something is so -/
def qb {α:Type} (p:Nat→α→Bool) (l:List α) (n:Nat):List Int:=(((l.take n).zipIdx.filter fun q=>p q.2 q.1).map fun q=>(q.2:Int))
theorem E9 {α:Type} {p:Nat→α→Bool} {l:List α} {i:Nat} {x:α} (hx:l[i]? =some x) (h:p i x=true):qb p l (i+1)=qb p l i++[(i:Int)]:=by
 have hi:=(List.getElem?_eq_some_iff.1 hx).1
 unfold qb
 rw [List.take_add_one,hx,List.zipIdx_append,List.filter_append,List.map_append]
 simp [Nat.min_eq_left (Nat.le_of_lt hi),h]
theorem IJ {α:Type} {p:Nat→α→Bool} {l:List α} {i:Nat} {x:α} (hx:l[i]? =some x) (h:p i x=false):qb p l (i+1)=qb p l i:=by
 have hi:=(List.getElem?_eq_some_iff.1 hx).1
 unfold qb
 rw [List.take_add_one,hx,List.zipIdx_append,List.filter_append,List.map_append]
 simp [Nat.min_eq_left (Nat.le_of_lt hi),h]
theorem x3 {α:Type} {p:Nat→α→Bool} {l:List α} {n:Nat}:(qb p l n).length≤n:=by
 unfold qb
 rw [List.length_map]
 refine Nat.le_trans (List.length_filter_le _ _) ?_
 rw [List.length_zipIdx,List.length_take]; omega
def Fx {α:Type} (p:Nat→α→Bool) (l:List α):List Int:=qb p l l.length
theorem HG {α:Type} {p:Nat→α→Bool} {l:List α} {n:Nat} (h:n=l.length):qb p l n=Fx p l:=by rw [h]; rfl
theorem D7 {α:Type} {p:Nat→α→Bool} {l:List α}:(Fx p l).length=0↔ ∀ (i:Nat) x,l[i]? =some x→p i x=false:=by
 unfold Fx qb
 rw [List.length_eq_zero_iff,List.take_length]
 exact D4
end
section
theorem wE (p:Int→Bool) (n:Nat): ∃ r:Int,r=((List.range n).findIdx fun (k:Nat)=>p (k:Int):Nat):=⟨_,rfl⟩
noncomputable def eV (p:Int→Bool) (n:Nat):Int:=Classical.choose (wE p n)
theorem pT (p:Int→Bool) (n:Nat):eV p n=((List.range n).findIdx fun (k:Nat)=>p (k:Int):Nat):=Classical.choose_spec (wE p n)
theorem gF {p:Int→Bool} {n:Nat}:0≤eV p n∧eV p n≤n:=by
 rw [pT]
 have:=List.findIdx_le_length (xs:=List.range n) (p:=fun (k:Nat)=>p (k:Int))
 rw [List.length_range] at this
 omega
theorem wI {p:Int→Bool} {n:Nat} {x:Int} (h0:0≤x) (h:x<eV p n):p x=false:=by
 have hb:=gF (p:=p) (n:=n)
 rw [pT] at h
 have B:x.toNat<(List.range n).findIdx fun (k:Nat)=>p (k:Int):=by omega
 have A:=List.not_of_lt_findIdx B
 simp only [List.getElem_range] at A
 rw [show (x.toNat:Int)=x by omega] at A
 simpa using A
theorem Dq {p:Int→Bool} {n:Nat} (h:eV p n<n):p (eV p n)=true:=by
 rw [pT] at h ⊢
 have A:((List.range n).findIdx fun (k:Nat)=>p (k:Int))<(List.range n).length:=by rw [List.length_range]; omega
 have:=List.findIdx_getElem (w:=A)
 simpa using this
end
section
def nv (n by_:Int):Int:=(n+by_-1)/by_
/-- by how much a sync may be off -/
def pW (c:al) (at_:Int) (x:bY):Int:=nv (c.cJ*max (at_-x.At) (x.At-at_)) 1000000
def kb (c:al) (at_:Int) (s:aa) (x:bY):aa:=⟨max s.Lo (x.dg.Lo-pW c at_ x),min s.Hi (x.dg.Hi+pW c at_ x)⟩
def fj (c:al) (at_:Int) (k:Nat):aa:=(c.aK.take k).foldl (kb c at_) ⟨-1099511627776,1099511627776⟩
def gp (c:al) (at_:Int):aa:=c.aK.foldl (kb c at_) ⟨-1099511627776,1099511627776⟩
theorem iO {c:al} {at_:Int} {k:Nat} {x:bY} (h:c.aK[k]? =some x):fj c at_ (k+1)=kb c at_ (fj c at_ k) x:=by
 unfold fj; rw [List.take_add_one,h,List.foldl_append]; rfl
theorem lE {c:al} {at_:Int} {k:Nat} (h:c.aK.length≤k):fj c at_ k=gp c at_:=by unfold fj gp; rw [List.take_of_length_le h]
def jd (c:al) (i:Nat):Int:=if i=0 then-1 else ((c.aK[i-1]?).map (·.At)).getD 0
def eE (c:al) (i:Nat) (x:bY):Prop:=(jd c i<x.At∧x.At≤86400000)∧ -10000≤x.dg.Lo∧x.dg.Lo≤x.dg.Hi∧x.dg.Hi≤10000
def mK (c:al) (x o:bY):Prop:=x.dg.Lo-o.dg.Hi≤nv (c.cJ*(x.At-o.At)) 1000000∧o.dg.Lo-x.dg.Hi≤nv (c.cJ*(x.At-o.At)) 1000000
structure ed (c:al):Prop where
 pI:0≤c.cJ∧c.cJ≤1000
 len:1≤c.aK.length∧c.aK.length≤5
 sync: ∀ (i:Nat) x,c.aK[i]? =some x→eE c i x
 pair: ∀ (i k:Nat) x o,c.aK[i]? =some x→k<i→c.aK[k]? =some o→mK c x o
noncomputable instance (c:al):Decidable (ed c):=Classical.propDecidable _
theorem fr {c:al} {i:Nat} (h:i=0):jd c i= -1:=if_pos h
theorem uD {c:al} {i:Nat} {y:bY} (h:0<i) (hy:c.aK[i-1]? =some y):jd c i=y.At:=by unfold jd; rw [if_neg I,hy]; rfl
theorem mx {c:al} {i:Nat} {y:bY} (hy:c.aK[i]? =some y):jd c (i+1)=y.At:=by unfold jd; rw [if_neg I,Nat.add_sub_cancel,hy]; rfl
/-- the times of the syncs -/
theorem IM {c:al} (h: ∀ (i:Nat) x,c.aK[i]? =some x→eE c i x): ∀ (i:Nat) x,c.aK[i]? =some x→0≤x.At∧ ∀ (k:Nat) o,k<i→c.aK[k]? =some o→o.At<x.At:=by
 intro i
 induction i with
 |zero=>
  intro x hx
  have:=(h 0 x hx).1.1
  rw [fr rfl] at this
  exact ⟨I,fun k o hk=>by omega⟩
 |succ i ih=>
  intro x hx
  have hi:=(List.getElem?_eq_some_iff.1 hx).1
  have hy:c.aK[i]? =some (c.aK[i]'I):=e_ I
  have B:=ih _ hy
  have A:=(h (i+1) x hx).1.1
  rw [mx hy] at A
  refine ⟨I,fun k o hk ho=>?_⟩
  by_cases e:k=i
  ·subst e; rw [hy] at ho; cases ho; exact A
  ·have:=B.2 k o I ho; omega
theorem ed.rH {c:al} (h:ed c) {i:Nat} {x:bY} (hx:c.aK[i]? =some x):(0≤x.At∧x.At≤86400000)∧ -10000≤x.dg.Lo∧x.dg.Lo≤x.dg.Hi∧x.dg.Hi≤10000:=by
 have A:=h.sync i x hx
 exact ⟨⟨(IM h.sync i x hx).1,A.1.2⟩,A.2⟩
theorem B2 {d a b:Int} (hd:0≤d∧d≤1000) (ha:0≤a∧a≤90000000) (hb:0≤b∧b≤90000000):0≤d*max (a-b) (b-a)∧d*max (a-b) (b-a)≤90000000000:=by
 have:=KG (a:=d) (b:=max (a-b) (b-a)) (A:=1000) (B:=90000000) hd.1 hd.2 I I
 omega
theorem rR {c:al} {at_:Int} {x:bY} (hd:0≤c.cJ∧c.cJ≤1000) (ha:0≤at_∧at_≤90000000) (hx:0≤x.At∧x.At≤86400000):0≤pW c at_ x∧pW c at_ x≤90001:=by
 have h:=B2 hd ha (show 0≤x.At∧x.At≤90000000 by omega)
 unfold pW nv; omega
theorem zd {c:al} {at_:Int} (h:ed c) (ha:0≤at_∧at_≤90000000): ∀ k:Nat,(-1099511627776≤(fj c at_ k).Lo∧(fj c at_ k).Lo≤10000)∧ -10000≤(fj c at_ k).Hi∧(fj c at_ k).Hi≤1099511627776:=by
 intro k
 induction k with
 |zero=>simp [fj]
 |succ k ih=>
  cases hx:c.aK[k]? with
  |none=>unfold fj at ih ⊢; rw [List.take_add_one,hx]; simpa using ih
  |some x=>
   have hb:=h.rH hx
   have ho:=rR h.pI ha hb.1
   rw [iO hx]
   unfold kb
   simp only
   omega
theorem ox {c:al} {at_:Int} (h:ed c) (ha:0≤at_∧at_≤90000000):(-110000≤(gp c at_).Lo∧(gp c at_).Lo≤10000)∧ -10000≤(gp c at_).Hi∧(gp c at_).Hi≤110000:=by
 obtain ⟨n,hn⟩: ∃ n,c.aK.length=n+1:=⟨c.aK.length-1,by have:=h.len; omega⟩
 have hx:c.aK[n]? =some (c.aK[n]'I):=e_ I
 have hb:=h.rH hx
 have ho:=rR h.pI ha hb.1
 have A:=zd h ha n
 rw [← lE (k:=n+1) I,iO hx]
 unfold kb
 simp only
 omega
/-- as time goes on, time and what a clock may be ahead, together, never go back -/
theorem Aj {c:al} (h:ed c) {a b:Int} (ha:0≤a) (hab:a≤b) (hb:b≤90000000): ∀ k:Nat,(a+(fj c a k).Lo≤b+(fj c b k).Lo∨(fj c a k).Lo= -1099511627776)∧a+(fj c a k).Hi≤b+(fj c b k).Hi:=by
 have step: ∀ (x:bY),0≤x.At∧x.At≤86400000→ ∀ a b:Int,0≤a→a≤b→b≤90000000→pW c a x≤pW c b x+(b-a)∧pW c b x≤pW c a x+(b-a):=by
  intro x hx a b ha hab hb
  have hd:=h.pI
  have e: ∀ u v:Int,u≤v+1000000*(b-a)→nv u 1000000≤nv v 1000000+(b-a):=by intro u v C; unfold nv; omega
  have m: ∀ p q:Int,p≤q+(b-a)→c.cJ*p≤c.cJ*q+1000000*(b-a):=by
   intro p q A
   have D:c.cJ*p≤c.cJ*(q+(b-a)):=Int.mul_le_mul_of_nonneg_left A hd.1
   have E:c.cJ*(q+(b-a))=c.cJ*q+c.cJ*(b-a):=Int.mul_add _ _ _
   have F:c.cJ*(b-a)≤1000*(b-a):=Int.mul_le_mul_of_nonneg_right hd.2 I
   omega
  exact ⟨e _ _ (m _ _ I),e _ _ (m _ _ I)⟩
 intro k
 induction k with
 |zero=>simp [fj]; omega
 |succ k ih=>
  cases hx:c.aK[k]? with
  |none=>
   have e: ∀ t,fj c t (k+1)=fj c t k:=fun t=>by unfold fj; rw [List.take_add_one,hx]; simp
   rw [e,e]; exact ih
  |some x=>
   have hs:=h.rH hx
   have:=step x hs.1 a b ha hab hb
   have B:=rR (at_:=a) h.pI ⟨ha,I⟩ hs.1
   rw [iO hx,iO hx]
   unfold kb
   simp only
   omega
theorem sf {c:al} (h:ed c) {a b:Int} (ha:0≤a) (hab:a≤b) (hb:b≤90000000):a+(gp c a).Lo≤b+(gp c b).Lo∧a+(gp c a).Hi≤b+(gp c b).Hi:=by
 have A:=Aj h ha hab hb c.aK.length
 have B:=ox h (at_:=a) ⟨ha,I⟩
 rw [lE (Nat.le_refl _),lE (Nat.le_refl _)] at A
 omega
noncomputable def kZ (l:aQ) (i:Nat):Int:=match l.ab[i]? with
 |some b=>if i=0 then (G_ l.aH b.jx).Lo else (match l.ab[i-1]? with
  |some a=>(iM l.aH a.jx b.jx).Lo
  |none=>0)
 |none=>0
theorem wx {l:aQ} {b:bL} (h:l.ab[0]? =some b):kZ l 0=(G_ l.aH b.jx).Lo:=by unfold kZ; rw [h]; rfl
theorem zm {l:aQ} {i:Nat} {a b:bL} (hi:0<i) (h:l.ab[i]? =some b) (ha:l.ab[i-1]? =some a):kZ l i=(iM l.aH a.jx b.jx).Lo:=by unfold kZ; rw [h,ha]; simp only; rw [if_neg I]
def iK (l:aQ) (b:bL):Prop:=eH l.aH b.jx∧0≤b.ig∧b.ig<(l.ah.length:Int)
def fu (l:aQ):Prop:=(1≤l.gY∧l.gY≤5000)∧(1≤(l.ah.length:Int)∧(l.ah.length:Int)≤4)∧(1≤(l.ab.length:Int)∧(l.ab.length:Int)≤6)∧(0≤l.cQ∧l.cQ≤(l.ab.length:Int)-1)∧(0≤l.eO∧l.eO≤3)∧0≤l.cW∧l.cW≤3
structure ke (l:aQ):Prop where
 head:fu l
 clock: ∀ c∈l.ah,ed c
 sQ: ∀ b∈l.ab,iK l b
 Ln: ∀ i,i<l.ab.length→1≤kZ l i
noncomputable instance (l:aQ):Decidable (ke l):=Classical.propDecidable _
noncomputable def cY (l:aQ):Int:=if cK l.aH=true then (if ke l then 0 else 50) else 10
theorem wg {l:aQ} (h:cK l.aH=false):cY l=10:=by unfold cY; rw [h]; rfl
theorem ou {l:aQ} (h:cK l.aH=true) (h2: ¬ ke l):cY l=50:=by unfold cY; rw [if_pos h,if_neg h2]
theorem yo {l:aQ} (h:cK l.aH=true) (h2:ke l):cY l=0:=by unfold cY; rw [if_pos h,if_pos h2]
theorem fF {l:aQ} (h:cY l=0):cK l.aH=true∧ke l:=by
 unfold cY at h
 split at h
 ·split at h
  ·exact ⟨asm,asm⟩
  ·omega
 ·omega
theorem Bt {l:aQ} (ht:cK l.aH=true) (hb: ∀ b∈l.ab,iK l b) (i:Nat): -400000≤kZ l i∧kZ l i≤400000:=by
 have A:=iN ht
 have hl:=jw ht
 unfold kZ
 cases h:l.ab[i]? with
 |none=>simp
 |some b=>
  have B:=(hb b (aI h)).1
  simp only
  split
  ·have:=L6 A hl B; omega
  ·cases h2:l.ab[i-1]? with
   |none=>simp
   |some a=>
    have C:=(hb a (aI h2)).1
    have:=uE A hl C B
    simp only; omega
def n9 (l:aQ) (s:aD):al:=((l.ab[s.e7.toNat]?).bind fun b=>l.ah[b.ig.toNat]?).getD ⟨0,[]⟩
def fV (c:al) (r t:Int):Bool:=decide (r≤t+(gp c t).Hi)
def fW (c:al) (r t:Int):Bool:=decide (r<t+(gp c t).Lo)
noncomputable def yF (c:al) (r:Int):aa:=⟨eV (fV c r) 86400001,eV (fW c r) 86400001-1⟩
noncomputable def cD (l:aQ) (s:aD):aa:=yF (n9 l s) s.Read
noncomputable def dp (l:aQ) (i:Nat):Int:=nv (1000*kZ l i) l.gY
end
section
open Go.RowKit
def xO (n:Int):Int:=IntKind.i64.wrap n
theorem w4 {n:Int} (h:ot n):xO n=n:=l8 h
theorem Nk (n:Int): -9223372036854775808≤xO n∧xO n≤9223372036854775807:=by
 unfold xO
 rw [IntKind.wrap_i64]
 omega
section
variable {P:Program} {t:TypeId} {x y:Operand} {a b:Int}
theorem Ks:fG P .add t x y (.int .i64 a) (.int .i64 b) (.int .i64 (xO (a+b))):=fun w=>by simp [eqGuard_add,binOp_add,Op.intArith,xO]
theorem F8:fG P .sub t x y (.int .i64 a) (.int .i64 b) (.int .i64 (xO (a-b))):=fun w=>by simp [eqGuard_sub,binOp_sub,Op.intArith,xO]
theorem KP:fG P .mul t x y (.int .i64 a) (.int .i64 b) (.int .i64 (xO (a*b))):=fun w=>by simp [eqGuard_mul,binOp_mul,Op.intArith,xO]
end
/-- divided, and rounded up, as it comes out -/
def Nl (n by_:Int):Int:=(xO (xO (n+by_)-1)).tdiv by_
theorem Le {a b:Int} (ha: -9223372036854775808≤a∧a≤9223372036854775807) (hb:2≤b):ot (a.tdiv b):=by
 have A:a.tdiv b=a/b+if a % b≠0∧a<0 then 1 else 0:=by
  rcases Int.lt_or_le a 0 with h|h
  ·rw [Int.tdiv_eq_ediv]
   have:b.sign=1:=Int.sign_eq_one_of_pos I
   rw [this]
   by_cases hd:b∣a
   ·have:a % b=0:=Int.emod_eq_zero_of_dvd hd
    simp [hd,this]
   ·have:a % b≠0:=fun e=>hd (Int.dvd_of_emod_eq_zero e)
    have hn: ¬ 0≤a:=by omega
    simp [hd,this,h,hn]
  ·rw [Int.tdiv_eq_ediv_of_nonneg h]
   have: ¬ a<0:=by omega
   simp [this]
 have B:a/b*b+a % b=a:=by rw [Int.mul_comm]; exact Int.mul_ediv_add_emod a b
 have C:0≤a % b:=Int.emod_nonneg _ I
 have D:a % b<b:=Int.emod_lt_of_pos _ I
 have E: -9223372036854775808≤a/b∧a/b≤4611686018427387904:=by
  constructor
  ·refine Int.le_ediv_of_mul_le I ?_
   have:(-9223372036854775808:Int)*b≤ -9223372036854775808*1:=Int.mul_le_mul_of_nonpos_left I I
   omega
  ·refine Int.ediv_le_of_le_mul I ?_
   have:(4611686018427387904:Int)*2≤4611686018427387904*b:=Int.mul_le_mul_of_nonneg_left hb I
   omega
 rw [A]
 unfold ot
 split<;>omega
theorem K6 {n by_:Int} (h0:0≤n) (h1:n≤1000000000000000000) (hb:1≤by_∧by_≤1000000000000):Nl n by_=(n+by_-1)/by_:=by
 unfold Nl
 rw [w4 (show ot (n+by_) from ⟨I,I⟩),w4 (show ot (n+by_-1) from ⟨I,I⟩),Int.tdiv_eq_ediv_of_nonneg I]
end
section
def kj (c:al) (i:Nat) (x:bY) (k:Nat):Prop:=eE c i x∧ ∀ (j:Nat) o,j<k→c.aK[j]? =some o→mK c x o
def p8 (c:al) (n:Nat):Prop:= ∀ (i:Nat) x,i<n→c.aK[i]? =some x→kj c i x i
noncomputable instance (c:al) (i:Nat) (x:bY) (k:Nat):Decidable (kj c i x k):=Classical.propDecidable _
instance (c:al) (i:Nat) (x:bY):Decidable (eE c i x):=by unfold eE; infer_instance
theorem Al {c:al} {i:Nat} {x:bY}:kj c i x 0↔eE c i x:=⟨fun h=>h.1,fun h=>⟨h,fun j o hj=>by omega⟩⟩
theorem pU {c:al} {i k:Nat} {x o:bY} (h:c.aK[k]? =some o):kj c i x (k+1)↔kj c i x k∧mK c x o:=by
 constructor
 ·intro hr
  exact ⟨⟨hr.1,fun j o' hj ho=>hr.2 j o' I ho⟩,hr.2 k o I h⟩
 ·rintro ⟨hr,hp⟩
  refine ⟨hr.1,fun j o' hj ho=>?_⟩
  by_cases e:j=k
  ·subst e; rw [h] at ho; cases ho; exact hp
  ·exact hr.2 j o' I ho
theorem Ds {c:al}:p8 c 0:=fun i x hi=>by omega
theorem CG {c:al} {i:Nat} {x:bY} (h:p8 c i) (hx:c.aK[i]? =some x) (hr:kj c i x i):p8 c (i+1):=fun j y hj hy=>by
 by_cases e:j=i
 ·subst e; rw [hx] at hy; cases hy; exact hr
 ·exact h j y I hy
theorem Fa {c:al} {i:Nat} {x:bY} (hx:c.aK[i]? =some x) (h: ¬ kj c i x i): ¬ ed c:=fun hc=>h ⟨hc.sync i x hx,fun j o hj ho=>hc.pair i j x o hx hj ho⟩
theorem Dj {c:al} (h1:0≤c.cJ∧c.cJ≤1000) (h2:1≤c.aK.length∧c.aK.length≤5) (h:p8 c c.aK.length):ed c:=
 ⟨h1,h2,fun i x hx=>(h i x (List.getElem?_eq_some_iff.1 hx).1 hx).1,fun i k x o hx hk ho=>(h i x (List.getElem?_eq_some_iff.1 hx).1 hx).2 k o hk ho⟩
/-- syncs so far -/
theorem r8 {c:al} {n:Nat} (h: ∀ (i:Nat) x,i<n→c.aK[i]? =some x→eE c i x): ∀ (i:Nat) x,i<n→c.aK[i]? =some x→0≤x.At∧ ∀ (k:Nat) o,k<i→c.aK[k]? =some o→o.At<x.At:=by
 intro i
 induction i with
 |zero=>
  intro x hn hx
  have:=(h 0 x hn hx).1.1
  rw [fr rfl] at this
  exact ⟨I,fun k o hk=>by omega⟩
 |succ i ih=>
  intro x hn hx
  have hi:=(List.getElem?_eq_some_iff.1 hx).1
  have hy:c.aK[i]? =some (c.aK[i]'I):=e_ I
  have B:=ih _ I hy
  have A:=(h (i+1) x hn hx).1.1
  rw [mx hy] at A
  refine ⟨I,fun k o hk ho=>?_⟩
  by_cases e:k=i
  ·subst e; rw [hy] at ho; cases ho; exact A
  ·have:=B.2 k o I ho; omega
theorem E2 {c:al} {i:Nat} (hi:i≤c.aK.length) (h: ∀ (j:Nat) y,j<i→c.aK[j]? =some y→eE c j y): -1≤jd c i∧jd c i≤86400000:=by
 cases i with
 |zero=>rw [fr rfl]; omega
 |succ i=>
  have hy:c.aK[i]? =some (c.aK[i]'I):=e_ I
  have A:=(r8 (n:=i+1) h i _ I hy).1
  have B:=(h i _ I hy).1.2
  rw [mx hy]; omega
theorem Kw {c:al} {i:Nat} (hi:i≤c.aK.length) (h:p8 c i): -1≤jd c i∧jd c i≤86400000:=E2 hi fun j y hj hy=>(h j y hj hy).1
theorem rF {c:al} {i k:Nat} {x o:bY} (hs: ∀ (j:Nat) y,j<i→c.aK[j]? =some y→eE c j y) (hx:c.aK[i]? =some x) (hok:eE c i x) (hk:k<i) (ho:c.aK[k]? =some o):
 (0≤o.At∧o.At<x.At∧x.At≤86400000)∧(-10000≤x.dg.Lo∧x.dg.Lo≤x.dg.Hi∧x.dg.Hi≤10000)∧ -10000≤o.dg.Lo∧o.dg.Lo≤o.dg.Hi∧o.dg.Hi≤10000:=by
 have h: ∀ (j:Nat) y,j<i+1→c.aK[j]? =some y→eE c j y:=fun j y hj hy=>by
  by_cases e:j=i
  ·subst e; rw [hx] at hy; cases hy; exact hok
  ·exact hs j y I hy
 have A:=(r8 h i x I hx).2 k o hk ho
 have B:=(r8 h k o I ho).1
 exact ⟨⟨B,A,hok.1.2⟩,hok.2,(h k o I ho).2⟩
theorem HN {d a b:Int} (hd:0≤d∧d≤1000) (h:0≤b∧b<a∧a≤86400000):Nl (xO (d*xO (a-b))) 1000000=nv (d*(a-b)) 1000000:=by
 have C:0≤d*(a-b)∧d*(a-b)≤90000000000:=by
  have:=KG (a:=d) (b:=a-b) (A:=1000) (B:=90000000) hd.1 hd.2 I I
  omega
 rw [w4 (show ot (a-b) from ⟨I,I⟩),w4 (show ot (d*(a-b)) from ⟨I,I⟩),K6 C.1 I I]
 rfl
/-- what is asked of a line, however wrong it is -/
structure dF (l:aQ) (asl:List RA):Prop where
 pO:l.aH.length≤1000000
 side: ∀ x∈l.aH,0≤x.gI∧x.gI≤255
 pJ:l.ah.length≤1000000
 mE:asl.length=l.ah.length
 pQ:l.ab.length≤1000000
 NB: ∀ (k:Nat) m (a:RA),l.ah[k]? =some m→asl[k]? =some a→m.aK.length≤a.2∧m.aK.length≤1000000
noncomputable instance (l:aQ):Decidable (fu l):=by unfold fu; infer_instance
noncomputable instance (l:aQ) (b:bL):Decidable (iK l b):=Classical.propDecidable _
theorem v9 {l:aQ} (h:fu l) (h2: ∀ c∈l.ah,ed c) (h3: ∀ b∈l.ab,iK l b) (h4: ∀ i,i<l.ab.length→1≤kZ l i):ke l:=⟨h,h2,h3,h4⟩
theorem AD {l:aQ}:((!(l.ah.any fun m=> !decide (ed m)))=true)↔ ∀ c∈l.ah,ed c:=by simp
theorem D5 {l:aQ}:((!(l.ab.any fun b=> !decide (iK l b)))=true)↔ ∀ b∈l.ab,iK l b:=by simp
theorem jG {c:al} (h:ed c) {r x:Int} (h0:0≤x) (h1:x<86400001):
 (x<eV (fV c r) 86400001→fV c r x=false)∧(eV (fV c r) 86400001≤x→fV c r x=true)∧(x<eV (fW c r) 86400001→fW c r x=false)∧(eV (fW c r) 86400001≤x→fW c r x=true):=by
 have up: ∀ (q:Int→Bool),(∀ a b,0≤a→a≤b→b<86400001→q a=true→q b=true)→eV q 86400001≤x→q x=true:=fun q hq hx=>by
  have hb:=gF (p:=q) (n:=86400001)
  exact hq _ _ hb.1 hx h1 (Dq I)
 refine ⟨wI h0,up _ fun a b ha A hb hq=>?_,wI h0,up _ fun a b ha A hb hq=>?_⟩
 ·have:=sf h ha A I
  simp only [fV,decide_eq_true_eq] at hq ⊢; omega
 ·have:=sf h ha A I
  simp only [fW,decide_eq_true_eq] at hq ⊢; omega
theorem uC {l:aQ} {s:aD} {b:bL} {c:al} (hb:l.ab[s.e7.toNat]? =some b) (hc:l.ah[b.ig.toNat]? =some c):n9 l s=c:=by
 unfold n9; rw [hb]; simp only [Option.bind_some]; rw [hc]; rfl
end
section
def nq (sg:List aD) (i:Nat):aD:=if i=0 then ⟨-1,0⟩ else (sg[i-1]?).getD ⟨-1,0⟩
theorem nx {sg:List aD} {i:Nat} {s:aD} (h:sg[i]? =some s):nq sg (i+1)=s:=by unfold nq; rw [if_neg I,Nat.add_sub_cancel,h]; rfl
def kN (l:aQ) (s:aD):Prop:=(0≤s.e7∧s.e7≤(l.ab.length:Int)-1)∧0≤s.Read∧s.Read≤86400000
def jS (l:aQ) (sg:List aD) (i:Nat) (s:aD):Prop:=kN l s∧ ¬ s.e7<(nq sg i).e7∧ ¬ (s.e7=(nq sg i).e7∧s.Read≤(nq sg i).Read)
def oP (l:aQ) (sg:List aD) (i:Nat):Prop:= ∀ (j:Nat) s,j<i→sg[j]? =some s→jS l sg j s
structure er (l:aQ) (r:cf):Prop where
 time:0≤r.Start∧r.Start≤r.eX∧r.eX≤86400000
 len:r.ag.length≤10
 sig: ∀ (i:Nat) s,r.ag[i]? =some s→jS l r.ag i s
noncomputable instance (l:aQ) (r:cf):Decidable (er l r):=Classical.propDecidable _
theorem wv {l:aQ} {sg:List aD}:oP l sg 0:=fun j s hj=>absurd hj (Nat.not_lt_zero _)
theorem j6 {l:aQ} {sg:List aD} {i:Nat} {s:aD} (h:oP l sg i) (hs:sg[i]? =some s) (ho:jS l sg i s):oP l sg (i+1):=fun j z hj hz=>by
 rcases Nat.lt_or_ge j i with q|q
 ·exact h j z q hz
 ·obtain rfl:j=i:=by omega
  rw [hs] at hz; cases hz; exact ho
theorem yj {l:aQ} {r:cf} {i:Nat} (h1:0≤r.Start∧r.Start≤r.eX∧r.eX≤86400000) (h2:r.ag.length≤10) (h:oP l r.ag i) (hi:r.ag.length≤i):er l r:=
 ⟨h1,h2,fun j s hs=>h j s (by have:=(List.getElem?_eq_some_iff.1 hs).1; omega) hs⟩
noncomputable def qJ (l:aQ) (sg:List aD) (b k:Nat):Option (Int×aa):=(sg[k]?).bind fun s=>if s.e7=(b:Int)∧(cD l s).Lo≤(cD l s).Hi then some ((k:Int),cD l s) else none
noncomputable def mM (l:aQ) (sg:List aD) (i b:Nat):TM:=(List.range i).filterMap (qJ l sg b)
noncomputable def dB (l:aQ) (sg:List aD) (i:Nat):List TM:=(List.range l.ab.length).map (mM l sg i)
noncomputable def cq (l:aQ) (n:Nat):List Int:=(List.range n).map (dp l)
theorem se {l:aQ} {n:Nat}:cq l (n+1)=cq l n++[dp l n]:=by simp [cq,List.range_succ]
theorem dx {l:aQ} {n:Nat}:(cq l n).length=n:=by simp [cq]
theorem hE {l:aQ} {sg:List aD} {i:Nat}:(dB l sg i).length=l.ab.length:=by simp [dB]
theorem mO {l:aQ} {sg:List aD} {i b:Nat} (h:b<l.ab.length):(dB l sg i)[b]? =some (mM l sg i b):=by simp [dB,h]
theorem nX {l:aQ} {sg:List aD} {b k:Nat} {q:Int×aa}:qJ l sg b k=some q↔ ∃ s,sg[k]? =some s∧(s.e7=(b:Int)∧(cD l s).Lo≤(cD l s).Hi)∧q=((k:Int),cD l s):=by
 unfold qJ
 cases h:sg[k]? with
 |none=>simp
 |some s=>
  simp only [Option.bind_some,Option.some.injEq]
  by_cases e:s.e7=(b:Int)∧(cD l s).Lo≤(cD l s).Hi
  ·rw [if_pos e]
   constructor
   ·intro h; cases h; exact ⟨s,rfl,e,rfl⟩
   ·rintro ⟨s',rfl,_,rfl⟩; rfl
  ·rw [if_neg e]
   constructor
   ·intro h; cases h
   ·rintro ⟨s',rfl,e',_⟩; exact absurd e' e
theorem pR {l:aQ} {sg:List aD} {i b:Nat} {q:Int×aa}:q∈mM l sg i b↔ ∃ k,k<i∧ ∃ s,sg[k]? =some s∧(s.e7=(b:Int)∧(cD l s).Lo≤(cD l s).Hi)∧q=((k:Int),cD l s):=by
 unfold mM
 simp only [List.mem_filterMap,List.mem_range,nX]
theorem oK {l:aQ} {sg:List aD} {i b:Nat}:mM l sg (i+1) b=mM l sg i b++(qJ l sg b i).toList:=by
 unfold mM
 rw [List.range_succ,List.filterMap_append]
 congr 1
theorem Be {l:aQ} {sg:List aD}:dB l sg 0=List.replicate l.ab.length []:=by
 unfold dB
 rw [List.eq_replicate_iff]
 refine ⟨sm,fun t ht=>?_⟩
 obtain ⟨b,_,rfl⟩:=List.mem_map.1 ht
 rfl
theorem tU {l:aQ} {sg:List aD} {i:Nat} {s:aD} (hs:sg[i]? =some s) (h: ¬ (cD l s).Lo≤(cD l s).Hi):dB l sg (i+1)=dB l sg i:=by
 unfold dB
 apply List.map_congr_left
 intro b _
 rw [oK]
 have:qJ l sg b i=none:=by
  cases e:qJ l sg b i with
  |none=>rfl
  |some q=>obtain ⟨s',A,⟨_,B⟩,_⟩:=nX.1 e; rw [hs] at A; cases A; exact absurd B h
 rw [this]; simp
theorem vM {l:aQ} {sg:List aD} {i:Nat} {s:aD} (hs:sg[i]? =some s) (hb:0≤s.e7∧s.e7≤(l.ab.length:Int)-1) (h:(cD l s).Lo≤(cD l s).Hi) {x:TM} (hx:(dB l sg i)[s.e7.toNat]? =some x):
 (dB l sg i).set s.e7.toNat (ei x (i:Int) (cD l s))=dB l sg (i+1):=by
 have A:s.e7.toNat<l.ab.length:=by omega
 rw [mO A] at hx
 cases hx
 have B:ei (mM l sg i s.e7.toNat) (i:Int) (cD l s)=mM l sg (i+1) s.e7.toNat:=by
  have hn:(mM l sg i s.e7.toNat).lookup (i:Int)=none:=hH.2 fun p hp e=>by
   obtain ⟨k,hk,_,_,_,rfl⟩:=pR.1 hp
   simp only at e; omega
  have ho:qJ l sg s.e7.toNat i=some ((i:Int),cD l s):=nX.2 ⟨s,hs,⟨I,h⟩,rfl⟩
  rw [oK,ho]
  unfold ei; rw [hn]; rfl
 rw [B]
 apply List.ext_getElem?
 intro b
 rw [List.getElem?_set]
 by_cases e:s.e7.toNat=b
 ·rw [if_pos e,hE,← e,if_pos A,mO A]
 ·rw [if_neg e]
  by_cases hb':b<l.ab.length
  ·rw [mO hb',mO hb',oK]
   have:qJ l sg b i=none:=by
    cases e2:qJ l sg b i with
    |none=>rfl
    |some q=>obtain ⟨s',C,⟨D,_⟩,_⟩:=nX.1 e2; rw [hs] at C; cases C; exact absurd I e
   rw [this]; simp
  ·rw [List.getElem?_eq_none (by rw [hE]; omega),List.getElem?_eq_none (by rw [hE]; omega)]
noncomputable def bZ (l:aQ) (r:cf):bJ:=⟨r.Start,r.eX,cq l l.ab.length,dB l r.ag r.ag.length,l.cW,l.eO,(r.ag.length:Int)⟩
theorem FX {l:aQ} (ht:cK l.aH=true) (h:ke l) {i:Nat} (hi:i<l.ab.length):1≤dp l i∧dp l i≤500000000:=by
 have A:=Bt ht h.sQ i
 have B:=h.Ln i hi
 have C:=h.head.1
 unfold dp nv
 refine ⟨(Int.le_ediv_iff_mul_le I).2 I,?_⟩
 have:(1000*kZ l i+l.gY-1)/l.gY≤1000*kZ l i+l.gY-1:=Int.ediv_le_self _ I
 omega
theorem Ho (l:aQ) (s:aD):0≤(cD l s).Lo∧(cD l s).Hi≤86400000:=by
 have A:=gF (p:=fV (n9 l s) s.Read) (n:=86400001)
 have B:=gF (p:=fW (n9 l s) s.Read) (n:=86400001)
 unfold cD yF
 simp only
 omega
theorem m7 {l:aQ} {r:cf} (ht:cK l.aH=true) (h:ke l) (hr:er l r):D_ (bZ l r):=by
 have hh:=h.head
 unfold fu at hh
 refine ⟨?_,by simp [bZ,hE,bJ.n,dx],hr.time,fun x hx=>?_,fun t A p hp=>?_⟩
 ·show (cq l l.ab.length).length≤6
  rw [dx]; omega
 ·obtain ⟨i,hi,rfl⟩:=List.mem_map.1 hx
  exact FX ht h (List.mem_range.1 hi)
 ·obtain ⟨b,hb,rfl⟩:=List.mem_map.1 A
  obtain ⟨k,hk,s,hs,⟨_,B⟩,rfl⟩:=pR.1 hp
  have C:=Ho l s
  have D:=hr.len
  simp only
  omega
noncomputable def dM (l:aQ) (r:cf) (me:Int):Int:=if cY l=0 then (if er l r then (if me=0 then (if iI (bZ l r)=[] then 8 else 0) else me) else 51) else cY l
theorem mg {l:aQ} {r:cf} {me:Int} (h: ¬ cY l=0):dM l r me=cY l:=if_neg h
theorem g3 {l:aQ} {r:cf} {me:Int} (h:cY l=0) (h2: ¬ er l r):dM l r me=51:=by unfold dM; rw [if_pos h,if_neg h2]
theorem oM {l:aQ} {r:cf} {me:Int} (h:cY l=0) (h2:er l r) (h3: ¬ me=0):dM l r me=me:=by unfold dM; rw [if_pos h,if_pos h2,if_neg h3]
theorem nN {l:aQ} {r:cf} {me:Int} (h:cY l=0) (h2:er l r) (h3:me=0) (h4:iI (bZ l r)=[]):dM l r me=8:=by unfold dM; rw [if_pos h,if_pos h2,if_pos h3,if_pos h4]
theorem lj {l:aQ} {r:cf} {me:Int} (h:cY l=0) (h2:er l r) (h3:me=0) (h4: ¬ iI (bZ l r)=[]):dM l r me=0:=by unfold dM; rw [if_pos h,if_pos h2,if_pos h3,if_neg h4]
theorem iL {l:aQ} {r:cf} {me:Int} (h:dM l r me=0):cY l=0∧er l r∧me=0∧ ¬ iI (bZ l r)=[]:=by
 unfold dM at h
 split at h
 ·split at h
  ·split at h
   ·split at h
    ·omega
    ·exact ⟨asm,asm,asm,asm⟩
   ·omega
  ·omega
 ·omega
end
section
def vx (l:List Int):Int:=(l.drop 1).foldl min (l.headD 0)
theorem yJ: ∀ (l:List Int) (a:Int),(l.foldl min a=a∨l.foldl min a∈l)∧l.foldl min a≤a∧ ∀ x∈l,l.foldl min a≤x
 |[],a=>⟨.inl rfl,sm,sm⟩
 |y::l,a=>by
  obtain ⟨A,C,B⟩:=yJ l (min a y)
  simp only [List.foldl_cons]
  refine ⟨?_,I,?_⟩
  ·rcases A with A|A
   ·rw [A]
    rcases Int.le_total a y with q|q
    ·left; omega
    ·right; rw [show min a y=y by omega]; simp
   ·right; exact dq _ A
  ·intro x hx
   rcases List.mem_cons.1 hx with rfl|hx
   ·omega
   ·exact B x hx
theorem IQ {l:List Int} (h:l≠[]):vx l∈l∧ ∀ x∈l,vx l≤x:=by
 cases l with
 |nil=>exact absurd rfl h
 |cons y ys=>
  obtain ⟨A,B,C⟩:=yJ ys y
  refine ⟨?_,fun x hx=>?_⟩
  ·rcases A with A|A
   ·simp [vx,A]
   ·exact dq _ (by simpa [vx] using A)
  ·rcases List.mem_cons.1 hx with rfl|hx
   ·simpa [vx] using B
   ·simpa [vx] using C x hx
noncomputable def kD (l:aQ) (r:cf):List Int:=if dM l r 0=0 then iI (bZ l r) else []
theorem kd {l:aQ} {r:cf} (h:dM l r 0=0):kD l r=iI (bZ l r):=if_pos h
theorem rK {l:aQ} {r:cf} (h: ¬ dM l r 0=0):kD l r=[]:=if_neg h
theorem D6 {l:aQ} {r:cf} (h:dM l r 0=0):kD l r≠[]:=by rw [kd h]; exact (iL h).2.2.2
noncomputable def iT (l:aQ) (b:Int):Int:=if 0≤b∧b≤(l.ab.length:Int)-1 then 0 else 2
theorem yK {l:aQ} {b:Int} (h:0≤b∧b≤(l.ab.length:Int)-1):iT l b=0:=if_pos h
theorem Bk {l:aQ} {b:Int} (h:iT l b=0):0≤b∧b≤(l.ab.length:Int)-1:=by
 unfold iT at h
 split at h
 ·assumption
 ·omega
noncomputable def lB (l:aQ) (r:cf) (b:Nat):aa:=uh (kP (bZ l r) b)
noncomputable def ek (l:aQ) (r:cf) (b:Int):Int:=if dM l r (iT l b)=0 then (if lB l r b.toNat=kM then 6 else 0) else dM l r (iT l b)
noncomputable def eD (l:aQ) (r:cf) (b:Int):aa:=if ek l r b=0 then lB l r b.toNat else cg
theorem lF {l:aQ} {r:cf} {b:Int} (h: ¬ dM l r (iT l b)=0):ek l r b=dM l r (iT l b)∧eD l r b=cg:=by
 have e:ek l r b=dM l r (iT l b):=if_neg h
 exact ⟨e,by unfold eD; rw [if_neg (by rw [e]; exact h)]⟩
theorem o1 {l:aQ} {r:cf} {b:Nat} (h:dM l r (iT l b)=0) (h2:lB l r b=kM):ek l r b=6∧eD l r b=cg:=by
 have e:ek l r b=6:=by unfold ek; rw [if_pos h,Int.toNat_natCast,if_pos h2]
 exact ⟨e,by unfold eD; rw [if_neg (by rw [e]; omega)]⟩
theorem oE {l:aQ} {r:cf} {b:Nat} (h:dM l r (iT l b)=0) (h2: ¬ lB l r b=kM):ek l r b=0∧eD l r b=lB l r b:=by
 have e:ek l r b=0:=by unfold ek; rw [if_pos h,Int.toNat_natCast,if_neg h2]
 exact ⟨e,by unfold eD; rw [if_pos e,Int.toNat_natCast]⟩
theorem EB {w:bJ} (h:D_ w) {b:Nat} {q:Int×aa} (hq:q∈kP w b):0≤q.2.Lo∧q.2.Lo≤q.2.Hi∧q.2.Hi≤86400000:=by
 have A:=kW hq
 obtain ⟨o,ho,p,hp,u,hu,e⟩:=gj.1 hq
 obtain ⟨_,_,rfl⟩:=hG.1 e
 have B:=h.opt ho
 simp only [ic] at A ⊢
 omega
theorem uv {l:aQ} {r:cf} {b:Int} (h:ek l r b=0):0≤(eD l r b).Lo∧(eD l r b).Lo≤(eD l r b).Hi∧(eD l r b).Hi≤86400000:=by
 have ho:dM l r (iT l b)=0:=by
  by_cases e:dM l r (iT l b)=0
  ·exact e
  ·rw [(lF e).1] at h; exact absurd h e
 obtain ⟨B,C,_⟩:=iL ho
 obtain ⟨ht,A⟩:=fF B
 have hw:=m7 ht A C
 have hv:eD l r b=lB l r b.toNat:=by unfold eD; rw [if_pos h]
 have hn:lB l r b.toNat≠kM:=fun e=>by unfold ek at h; rw [if_pos ho,if_pos e] at h; omega
 have hh:=rq (l:=kP (bZ l r) b.toNat) fun q hq=>kW hq
 rw [hv]
 unfold lB at hn ⊢
 rcases hh with ⟨_,e⟩|hh
 ·exact absurd e hn
 ·obtain ⟨x,hx,ex⟩:=hh.lo
  obtain ⟨y,hy,ey⟩:=hh.hi
  have:=EB hw hx
  have:=EB hw hy
  have:=hh.le
  omega
noncomputable def ze (l:aQ) (r:cf):aa:=if ek l r l.cQ=0 then ⟨(eD l r l.cQ).Lo-r.Start,(eD l r l.cQ).Hi-r.Start⟩ else cg
theorem Af {l:aQ} {r:cf} (h:ek l r l.cQ=0):ze l r=⟨(eD l r l.cQ).Lo-r.Start,(eD l r l.cQ).Hi-r.Start⟩:=if_pos h
theorem AK {l:aQ} {r:cf} (h: ¬ ek l r l.cQ=0):ze l r=cg:=if_neg h
theorem sE {l:aQ} {r:cf} {b:Int} (h:ek l r b=0):er l r:=by
 by_cases e:dM l r (iT l b)=0
 ·exact (iL e).2.1
 ·rw [(lF e).1] at h; exact absurd h e
theorem wh {k:List (Int×aa)} {h:aa} {q:Int×aa} {z:aa} (hh:je k h) (hq:q.2.Lo≤q.2.Hi) (hz:ks h q.2=z):je (k++[q]) z:=by subst hz; exact rG hh hq
end
section
def jv (l:aQ):Prop:=(20<(l.aH.length:Int)∨8<(l.ah.length:Int)∨10<(l.ab.length:Int))∨ ∃ c∈l.ah,10<(c.aK.length:Int)
noncomputable instance (l:aQ):Decidable (jv l):=Classical.propDecidable _
/-- what is asked of a line that comes in -/
structure qY (l:aQ) (az:List RA):Prop where
 pO:l.aH.length≤9223372036854775807
 side: ∀ x∈l.aH,0≤x.gI∧x.gI≤255
 pJ:l.ah.length≤9223372036854775807
 mE:az.length=l.ah.length
 pQ:l.ab.length≤9223372036854775807
 NB: ∀ (k:Nat) m (a:RA),l.ah[k]? =some m→az[k]? =some a→m.aK.length≤a.2∧m.aK.length≤9223372036854775807
def xG (l:aQ) (i:Nat):Prop:= ∀ (j:Nat) c,j<i→l.ah[j]? =some c→(c.aK.length:Int)≤10
theorem Gl {l:aQ} {i:Nat} (h: ¬ (20<(l.aH.length:Int))∧ ¬ (8<(l.ah.length:Int))∧ ¬ (10<(l.ab.length:Int))) (hi:l.ah.length≤i) (hs:xG l i): ¬ jv l:=by
 rintro (A|⟨c,hc,B⟩)
 ·omega
 ·obtain ⟨k,hk⟩:=List.getElem?_of_mem hc
  have:=hs k c (by have:=(List.getElem?_eq_some_iff.1 hk).1; omega) hk
  omega
theorem Gp {l:aQ} {i:Nat} {c:al} (hc:l.ah[i]? =some c) (h:10<(c.aK.length:Int)):jv l:= .inr ⟨c,aI hc,h⟩
theorem kh {α:Type} {l:List α} {P:Nat→α→Prop} {i:Nat} {x:α} (h: ∀ (j:Nat) y,j<i→l[j]? =some y→P j y) (hx:l[i]? =some x) (hp:P i x): ∀ (j:Nat) y,j<i+1→l[j]? =some y→P j y:=fun j y hj hy=>by
 by_cases e:j=i
 ·subst e; rw [hx] at hy; cases hy; exact hp
 ·exact h j y I hy
theorem uQ {α:Type} {l:List α} {P:Nat→α→Prop} {i:Nat} (hi:l.length≤i) (h: ∀ (j:Nat) y,j<i→l[j]? =some y→P j y): ∀ (j:Nat) y,l[j]? =some y→P j y:=fun j y hy=>h j y (by have:=(List.getElem?_eq_some_iff.1 hy).1; omega) hy
theorem tP {α:Type} {l:List α} {P:α→Prop} {i:Nat} (hi:l.length≤i) (h: ∀ (j:Nat) y,j<i→l[j]? =some y→P y): ∀ y∈l,P y:=fun y hy=>by
 obtain ⟨k,hk⟩:=List.getElem?_of_mem hy
 exact uQ (P:=fun _ y=>P y) hi h k y hk
theorem qI {l:aQ} (h: ¬ jv l):(l.aH.length:Int)≤20∧(l.ah.length:Int)≤8∧(l.ab.length:Int)≤10∧ ∀ c∈l.ah,(c.aK.length:Int)≤10:=by
 unfold jv at h
 rw [not_or] at h
 refine ⟨I,I,I,fun c hc=>?_⟩
 have:=h.2
 rcases Int.lt_or_le 10 (c.aK.length:Int) with q|q
 ·exact absurd ⟨c,hc,q⟩ this
 ·exact q
theorem qY.small {l:aQ} {az:List RA} (h:qY l az) (hg: ¬ jv l):dF l az:=by
 have A:=qI hg
 exact ⟨I,h.side,I,h.mE,I,fun k m a hm ha=>⟨(h.NB k m a hm ha).1,by have:=A.2.2.2 m (aI hm); omega⟩⟩
def BL (c:al) (x:bY) (k:Nat):Prop:= ∀ (j:Nat) o,j<k→c.aK[j]? =some o→mK c x o
def qv (c:al) (m:Nat):Prop:= ∀ (i:Nat) x,i<m→c.aK[i]? =some x→BL c x i
theorem Fk {c:al} {m:Nat} (h1:0≤c.cJ∧c.cJ≤1000) (h2:1≤c.aK.length∧c.aK.length≤5) (hs: ∀ (i:Nat) x,c.aK[i]? =some x→eE c i x) (hm:c.aK.length≤m) (hp:qv c m):ed c:=
 ⟨h1,h2,hs,fun i k x o hx hk ho=>hp i x (by have:=(List.getElem?_eq_some_iff.1 hx).1; omega) hx k o hk ho⟩
theorem Ba {c:al} {m k:Nat} (h:qv c m) (hk: ∀ y,c.aK[m]? =some y→BL c y k) (e:k=m):qv c (m+1):=by
 subst e
 intro i x hi hx
 by_cases e:i=k
 ·subst e; exact hk x hx
 ·exact h i x I hx
noncomputable def jz (c:al) (at_:Int) (i:Nat):aa:=if i=0 then cg else fj c at_ i
theorem AM {c:al} {at_:Int} {i:Nat} (h:ed c) (hi:c.aK.length≤i):jz c at_ i=gp c at_:=by
 have:=h.len
 unfold jz; rw [if_neg I,lE hi]
theorem wV {c:al} {at_:Int} {i:Nat} {x:bY} (h:ed c) (ha:0≤at_∧at_≤90000000) (hx:c.aK[i]? =some x) (hi:i=0):
 jz c at_ (i+1)=⟨max (x.dg.Lo-pW c at_ x) (x.dg.Lo-pW c at_ x),min (x.dg.Hi+pW c at_ x) (x.dg.Hi+pW c at_ x)⟩:=by
 subst hi
 have hb:=h.rH hx
 have ho:=rR h.pI ha hb.1
 unfold jz
 rw [if_neg I,iO hx]
 unfold kb fj
 simp only [List.take_zero,List.foldl_nil,aa.mk.injEq]
 omega
theorem yw {c:al} {at_:Int} {i:Nat} {x:bY} (hx:c.aK[i]? =some x) (hi: ¬ i=0):jz c at_ (i+1)=⟨max (jz c at_ i).Lo (x.dg.Lo-pW c at_ x),min (jz c at_ i).Hi (x.dg.Hi+pW c at_ x)⟩:=by
 unfold jz
 rw [if_neg I,if_neg hi,iO hx]; rfl
def gf (ts:List aj) (n:Nat):List aa:=(List.range n).map fun k=>dI ts 0 k
theorem y_ {ts:List aj} {n:Nat}:gf ts (n+1)=gf ts n++[dI ts 0 n]:=by simp [gf,List.range_succ]
theorem mA {ts:List aj} {n:Nat}:(gf ts n).length=n:=by simp [gf]
theorem nY {ts:List aj} {n k:Nat} {x:aa} (h:(gf ts n)[k]? =some x):x=dI ts 0 k:=by
 unfold gf at h
 rw [eG] at h
 cases hk:(List.range n)[k]? with
 |none=>simp [hk] at h
 |some v=>
  have:=List.getElem?_eq_some_iff.1 hk
  simp at this
  simp [hk] at h
  rw [← h,← this.2]
theorem z5 {ts:List aj} {a b:ct} (h:b.aM<a.aM):iM ts a b=mo (iM ts b a):=by
 unfold iM
 rw [if_pos h,if_neg I]
 unfold um
 rw [Int.min_comm b.aM a.aM,Int.max_comm b.aM a.aM]
 unfold mo kp
 simp only [aa.mk.injEq]
 omega
theorem oI {ts:List aj} {a b:ct} (h: ¬ b.aM<a.aM):iM ts a b=kp (kp (dI ts a.aM.toNat (b.aM-a.aM).toNat) b.jW) (mo a.jW):=by
 unfold iM um
 rw [if_neg h,Int.min_eq_left I,Int.max_eq_right I]
end
section
def gP (m:List aw) (a:dv):List ao:=rd a.1.1 m.length 7 (List.zipWith aw.cells m a.2)::aZ aw.fB m a.2
structure KF (h:List aw) (a:dv):Prop where
 len:h.length≤1000000
 mE:a.2.length=h.length
 sig: ∀ d∈h,d.bO.ag.length≤1000000
structure fZ (r:cV) (az:List RA) (ha:List dv):Prop where
 line:dF r.aF az
 iE:r.aT.length≤1000000
 draw:r.bo.length≤12
 iG:r.ay.length≤1000000
 has:ha.length=r.ay.length
 mH: ∀ (k:Nat) h (a:dv),r.ay[k]? =some h→ha[k]? =some a→KF h a
structure qA (r:cV) (az:List RA) (ha:List dv):Prop where
 line:qY r.aF az
 iE:r.aT.length≤9223372036854775807
 draw:r.bo.length≤9223372036854775807
 iG:r.ay.length≤9223372036854775807
 has:ha.length=r.ay.length
 mH: ∀ (k:Nat) h (a:dv),r.ay[k]? =some h→ha[k]? =some a→h.length≤9223372036854775807∧a.2.length=h.length∧ ∀ d∈h,d.bO.ag.length≤9223372036854775807
def np (h:List aw):Prop:=8<(h.length:Int)∨ ∃ d∈h,15<(d.bO.ag.length:Int)
def kH (r:cV):Prop:=(jv r.aF∨8<(r.aT.length:Int)∨8<(r.bo.length:Int)∨5<(r.ay.length:Int))∨ ∃ h∈r.ay,np h
noncomputable instance (r:cV):Decidable (kH r):=Classical.propDecidable _
theorem tx {r:cV} (h: ¬ kH r): ¬ jv r.aF∧(r.aT.length:Int)≤8∧(r.bo.length:Int)≤8∧(r.ay.length:Int)≤5∧ ∀ h∈r.ay,(h.length:Int)≤8∧ ∀ d∈h,(d.bO.ag.length:Int)≤15:=by
 unfold kH at h
 obtain ⟨A,B⟩:=not_or.1 h
 obtain ⟨C,E⟩:=not_or.1 A
 refine ⟨C,I,I,I,fun x hx=>?_⟩
 have hn: ¬ np x:=fun q=>B ⟨x,hx,q⟩
 obtain ⟨F,D⟩:=not_or.1 hn
 refine ⟨I,fun d hd=>?_⟩
 rcases Int.lt_or_le 15 (d.bO.ag.length:Int) with q|q
 ·exact absurd ⟨d,hd,q⟩ D
 ·exact q
theorem qA.small {r:cV} {az:List RA} {ha:List dv} (h:qA r az ha) (hg: ¬ kH r):fZ r az ha:=by
 have B:=tx hg
 refine ⟨h.line.small B.1,I,I,I,h.has,fun k x a hx A=>?_⟩
 have C:=B.2.2.2.2 x (aI hx)
 have D:=h.mH k x a hx A
 exact ⟨I,D.2.1,fun d hd=>by have:=C.2 d hd; omega⟩
def kI (r:cf):Prop:=r.Start=0∧r.eX=0∧(r.ag.length:Int)=0
instance (r:cf):Decidable (kI r):=by unfold kI; infer_instance
def kG (s:aa):Prop:=1≤s.Lo∧s.Lo≤s.Hi∧s.Hi≤600000
instance (s:aa):Decidable (kG s):=by unfold kG; infer_instance
def gN (l:aQ) (d:aw):Prop:=if d.Out=true then d.de=false∧d.Time=cg∧kI d.bO else if d.de=true then kG d.Time∧kI d.bO else ek l d.bO l.cQ=0∧d.Time=cg
noncomputable instance (l:aQ) (d:aw):Decidable (gN l d):=Classical.propDecidable _
noncomputable def eL (l:aQ) (d:aw):aa:=if d.Out=true∨d.de=true then d.Time else ze l d.bO
/-- which kind a descent is of -/
def mC (d:aw):Int:=if d.Out=true then 0 else if d.de=true then 1 else 2
theorem HB {w:bJ} (h:D_ w): ∀ (b:Nat) (p:ar×Int),p∈fwd w b→w.Start≤p.2:=by
 have hl: ∀ b,0≤bK w b:=fun b=>by
  unfold bK
  cases e:w.oc[b]? with
  |none=>simp
  |some x=>have:=h.least x (aI e); simp; omega
 intro b
 induction b with
 |zero=>intro p hp; simp only [fwd,cu] at hp; subst hp; exact Int.le_refl _
 |succ b ih=>
  intro q hq
  obtain ⟨p,hp,o,ho,e⟩:=eT.1 hq
  unfold jB at e
  split at e
  ·simp only [Option.some.injEq] at e
   subst e
   have:=ih p hp
   have:=hl b
   simp only; omega
  ·cases e
theorem H2 {l:aQ} {r:cf} {b:Int} (h:ek l r b=0):r.Start≤(eD l r b).Lo:=by
 have ho:dM l r (iT l b)=0:=by
  by_cases e:dM l r (iT l b)=0
  ·exact e
  ·rw [(lF e).1] at h; exact absurd h e
 obtain ⟨B,C,_⟩:=iL ho
 obtain ⟨ht,A⟩:=fF B
 have hw:=m7 ht A C
 have hv:eD l r b=lB l r b.toNat:=by unfold eD; rw [if_pos h]
 have hn:lB l r b.toNat≠kM:=fun e=>by unfold ek at h; rw [if_pos ho,if_pos e] at h; omega
 have hh:=rq (l:=kP (bZ l r) b.toNat) fun q hq=>kW hq
 rw [hv]
 unfold lB at hn ⊢
 rcases hh with ⟨_,e⟩|hh
 ·exact absurd e hn
 ·obtain ⟨x,hx,ex⟩:=hh.lo
  obtain ⟨o,ho,p,hp,u,hu,e⟩:=gj.1 hx
  obtain ⟨_,_,rfl⟩:=hG.1 e
  have D:r.Start≤p.2:=HB hw _ p hp
  have E:0≤bK (bZ l r) b.toNat:=by
   unfold bK
   cases e:(bZ l r).oc[b.toNat]? with
   |none=>simp
   |some x=>have:=hw.least x (aI e); simp; omega
  simp only [ic] at ex
  omega
theorem w9 {l:aQ} {d:aw} (h:gN l d):0≤(eL l d).Lo∧(eL l d).Lo≤(eL l d).Hi∧(eL l d).Hi≤86400000:=by
 unfold gN at h
 unfold eL
 split at h
 ·rename_i q; rw [if_pos (Or.inl q),h.2.1]; simp [cg]
 ·rename_i q
  split at h
  ·rename_i A
   rw [if_pos (Or.inr A)]
   obtain ⟨⟨B,C,D⟩,_⟩:=h
   omega
  ·rename_i A
   rw [if_neg (fun z=>z.elim q A),Af h.1]
   have B:=uv h.1
   have C:=(sE h.1).time
   have D:=H2 h.1
   simp only
   omega
theorem B8 {l:aQ} {d:aw} (h:d.Out=true):eL l d=d.Time:=if_pos (Or.inl h)
theorem Cd {l:aQ} {d:aw} (h:d.Out=false∧d.de=true):eL l d=d.Time:=if_pos (Or.inr h.2)
theorem Cs {l:aQ} {d:aw} (h:d.Out=false∧d.de=false):eL l d=ze l d.bO:=if_neg (by simp [h])
theorem oW {l:aQ} {d:aw} (h:d.Out=true):gN l d=(d.de=false∧d.Time=cg∧kI d.bO):=if_pos h
theorem tG {l:aQ} {d:aw} (h:d.Out=false∧d.de=true):gN l d=(kG d.Time∧kI d.bO):=by unfold gN; rw [if_neg (by simp [h]),if_pos h.2]
theorem ug {l:aQ} {d:aw} (h:d.Out=false∧d.de=false):gN l d=(ek l d.bO l.cQ=0∧d.Time=cg):=by unfold gN; rw [if_neg (by simp [h]),if_neg (by simp [h])]
structure eI (r:cV):Prop where
 num:1≤(r.aT.length:Int)∧(r.aT.length:Int)≤5
 uP:0≤r.i_∧r.i_≤5
 nh:1≤(r.ay.length:Int)∧(r.ay.length:Int)≤3
 ids: ∀ (i:Nat) x,r.aT[i]? =some x→(0≤x∧x≤9999)∧ ∀ y,0<i→r.aT[i-1]? =some y→y<x
 draw:r.bo.Perm ((List.range r.aT.length).map fun (k:Nat)=>(k:Int))
 mH: ∀ h∈r.ay,h.length=r.aT.length∧ ∀ d∈h,gN r.aF d
noncomputable instance (r:cV):Decidable (eI r):=Classical.propDecidable _
noncomputable def eN (r:cV):Int:=if cY r.aF=0 then (if eI r then 0 else 60) else cY r.aF
end
section
theorem lK {α β:Type} {f g:α→Option β}: ∀ {l:List α},(∀ x∈l,f x=g x)→l.filterMap f=l.filterMap g
 |[],_=>rfl
 |x::l,h=>by simp only [List.filterMap_cons,h x ck,lK (l:=l) (fun y hy=>h y (dq _ hy))]
abbrev lZ:=List (Int×aa)
/-- the sum of a sled in some heats, the first ones -/
noncomputable def eu (l:aQ) (hs:List (List aw)) (i:Nat):Nat→Option aa
 |0=>some ⟨0,0⟩
 |k+1=>match eu l hs i k,(hs[k]?).bind (·[i]?) with
  |some s,some d=>if d.Out=true then none else some ⟨s.Lo+(eL l d).Lo/10,s.Hi+(eL l d).Hi/10⟩
  |_,_=>none
noncomputable def dC (l:aQ) (hs:List (List aw)) (n h i:Nat):lZ:=(List.range n).filterMap fun q=>(eu l hs q (if q<i then h+1 else h)).map fun s=>((q:Int),s)
noncomputable def aN (r:cV) (k:Nat):lZ:=(List.range r.aT.length).filterMap fun q=>(eu r.aF r.ay q k).map fun s=>((q:Int),s)
noncomputable def gh (r:cV):lZ:=aN r r.ay.length
section
variable {l:aQ} {hs:List (List aw)} {n h i q:Nat} {s:aa} {d:aw}
theorem zA:dC l hs n h 0=(List.range n).filterMap fun q=>(eu l hs q h).map fun s=>((q:Int),s):=by
 unfold dC
 apply lK
 intro q _
 rw [if_neg (Nat.not_lt_zero _)]
theorem II:dC l hs n h n=dC l hs n (h+1) 0:=by
 rw [zA]
 unfold dC
 apply lK
 intro q hq
 rw [if_pos (List.mem_range.1 hq)]
theorem wB {x:List aw} (hx:hs[h]? =some x) (hd:x[i]? =some d) (ho:d.Out=true):eu l hs i (h+1)=none:=by
 unfold eu
 rw [hx]
 simp only [Option.bind_some,hd]
 cases eu l hs i h with
 |none=>rfl
 |some s=>simp [ho]
theorem uZ (h0:eu l hs i h=none):eu l hs i (h+1)=none:=by unfold eu; rw [h0]
theorem tL {x:List aw} (hx:hs[h]? =some x) (hd:x[i]? =some d) (ho: ¬ d.Out=true) (hs0:eu l hs i h=some s):eu l hs i (h+1)=some ⟨s.Lo+(eL l d).Lo/10,s.Hi+(eL l d).Hi/10⟩:=by
 unfold eu
 rw [hx,hs0]
 simp only [Option.bind_some,hd,if_neg ho]
end
section
variable {l:aQ} {hs:List (List aw)} {n h i q:Nat} {s t:aa}
theorem Lh {K β:Type} [DecidableEq K] {L Y:List (K×β)} {t:K}:(L++Y).lookup t=match L.lookup t with |some v=>some v|none=>Y.lookup t:=by
 induction L with
 |nil=>rfl
 |cons p L ih=>
  obtain ⟨k,u⟩:=p
  by_cases e:t==k
  ·simp [List.lookup,e]
  ·have:(t==k)=false:=by simpa using e
   simp only [List.cons_append,List.lookup,this,ih]
theorem m8 {f:Nat→Option aa}: ∀ (n i:Nat),((List.range n).filterMap fun q=>(f q).map fun s=>((q:Int),s)).lookup (i:Int)=if i<n then f i else none
 |0,i=>by simp
 |n+1,i=>by
  rw [List.range_succ,List.filterMap_append,Lh,m8 n i]
  by_cases c:i<n
  ·rw [if_pos c,if_pos I]
   cases e:f i with
   |some s=>rfl
   |none=>
    simp only
    cases e2:f n with
    |none=>simp [e2]
    |some u=>
     have:((i:Int)==(n:Int))=false:=by simp only [beq_eq_false_iff_ne,ne_eq]; omega
     simp [e2,List.lookup,this]
  ·rw [if_neg c]
   simp only
   by_cases A:i=n
   ·subst A
    rw [if_pos I]
    cases e2:f i with
    |none=>simp [e2]
    |some u=>simp [e2]
   ·rw [if_neg I]
    have:((i:Int)==(n:Int))=false:=by simp only [beq_eq_false_iff_ne,ne_eq]; omega
    cases e2:f n with
    |none=>simp [e2]
    |some u=>simp [e2,List.lookup,this]
theorem uK:(dC l hs n h i).lookup (q:Int)=if q<n then eu l hs q (if q<i then h+1 else h) else none:=m8 n q
theorem JQ {f g:Nat→Option aa} {n i:Nat} (hi:i<n) {s:aa} (hf:(f i).isSome=true) (hg:g i=some s) (hfg: ∀ q,q≠i→f q=g q):ei ((List.range n).filterMap fun q=>(f q).map fun s=>((q:Int),s)) (i:Int) s=(List.range n).filterMap fun q=>(g q).map fun s=>((q:Int),s):=by
 unfold ei
 rw [if_pos (by rw [m8,if_pos hi]; exact hf),List.map_filterMap]
 apply lK
 intro q _
 by_cases e:q=i
 ·subst e
  obtain ⟨u,hu⟩:=Option.isSome_iff_exists.1 hf
  rw [hu,hg]; simp
 ·rw [hfg q e]
  cases g q with
  |none=>rfl
  |some u=>
   have: ¬ ((q:Int)=(i:Int)):=by omega
   simp [this]
theorem KT {f g:Nat→Option aa} {n i:Nat} (hg:g i=none) (hfg: ∀ q,q≠i→f q=g q):ep ((List.range n).filterMap fun q=>(f q).map fun s=>((q:Int),s)) (i:Int)=(List.range n).filterMap fun q=>(g q).map fun s=>((q:Int),s):=by
 unfold ep
 rw [List.filter_filterMap]
 apply lK
 intro q _
 by_cases e:q=i
 ·subst e
  rw [hg]
  cases f q with
  |none=>rfl
  |some u=>simp
 ·rw [hfg q e]
  cases g q with
  |none=>rfl
  |some u=>
   have: ¬ ((q:Int)=(i:Int)):=by omega
   simp [this]
theorem Ii (hi:i<n) (h0:(eu l hs i h).isSome=true) (h1:eu l hs i (h+1)=some s):ei (dC l hs n h i) (i:Int) s=dC l hs n h (i+1):=by
 unfold dC
 refine JQ hi (by rw [if_neg (Nat.lt_irrefl i)]; exact h0) (by rw [if_pos (Nat.lt_succ_self i)]; exact h1) fun q hq=>?_
 by_cases c:q<i
 ·rw [if_pos c,if_pos I]
 ·rw [if_neg c,if_neg I]
theorem B5 (h1:eu l hs i (h+1)=none):ep (dC l hs n h i) (i:Int)=dC l hs n h (i+1):=by
 unfold dC
 refine KT (by rw [if_pos (Nat.lt_succ_self i)]; exact h1) fun q hq=>?_
 by_cases c:q<i
 ·rw [if_pos c,if_pos I]
 ·rw [if_neg c,if_neg I]
end
def wS (m:lZ) (i:Int):lZ:=m.filter fun p=> !decide (p.1=i)
def Me (m:lZ) (i n:Int):Nat:=(wS m i).countP fun p=>decide (p.2.Hi<n)
def N9 (m:lZ) (i n:Int):Nat:=(wS m i).countP fun p=>decide (p.2.Lo<n)
def Ht (m:lZ) (i:Int) (own:aa):List Int:=own.Lo::((wS m i).flatMap fun p=>[p.2.Lo+1,p.2.Hi+1]).filter fun n=>decide (own.Lo≤n∧n≤own.Hi)
def KZ (m:lZ) (i:Int) (own:aa) (k:Int):Prop:= ∃ n∈Ht m i own,(Me m i n:Int)+1≤k∧k≤(N9 m i n:Int)+1
noncomputable instance (m:lZ) (i:Int) (own:aa) (k:Int):Decidable (KZ m i own k):=Classical.propDecidable _
section
variable {m:lZ} {i:Int} {own:aa}
end
end
section
def oL (l:List Int):List (List Value):=l.map fun x=>[vI x]
theorem ql {l:List Int}:(oL l).length=l.length:=by simp [oL]
theorem De {l:List Int} {k:Nat} {x:Int} (h:l[k]? =some x):(oL l)[k]? =some [vI x]:=by simp [oL,h]
theorem DK {l:List Int} {k:Nat} {x:List Value} (h:(oL l)[k]? =some x): ∃ y,l[k]? =some y∧x=[vI y]:=by
 simp only [oL,eG,Option.map_eq_some_iff] at h
 obtain ⟨y,hy,rfl⟩:=h
 exact ⟨y,hy,U⟩
theorem Ar {l:List Int}: ∀ x∈oL l,x.length=1:=fun x hx=>by
 simp only [oL,s_] at hx
 obtain ⟨y,_,rfl⟩:=hx
 rfl
theorem vC {l:List Int}:l.take (oL l).length=l:=by rw [ql,List.take_of_length_le (Nat.le_refl _)]
theorem nW {l:List Int} {k:Nat} {x:Int} (h:l[k]? =some x):l.take (k+1)=l.take k++[x]:=by
 rw [List.take_add_one,h]; rfl
def kO (l:List Int):List Int:=l.mergeSort fun a b=>decide (a≤b)
theorem j3 {l:List Int}:(kO l).Perm l:=List.mergeSort_perm _ _
theorem qt {l:List Int}:(kO l).Pairwise (· ≤ ·):=by
 have:=List.pairwise_mergeSort (le:=fun (a b:Int)=>decide (a≤b)) (fun a b c A B=>by simp at A B ⊢; omega) (fun a b=>by simp; omega) l
 exact this.imp fun h=>by simpa using h
@[simp] theorem qn {l:List Int}:(kO l).length=l.length:=j3.length_eq
theorem zq {l m:List Int} (h1:m.Perm l) (h2:m.Pairwise (· ≤ ·)):m=kO l:=pK (h1.trans j3.symm) h2 qt
end
section
open Go.RowKit
def sC (s:bE):List Value:=[vS s.a s.n s.c]
theorem vV: ∀ s,(sC s).length=1:=fun s=>rfl
theorem Eh (l:List bE): ∀ v∈(l.map sC).flatten,v.oneCell'=true:=kz (fun s=>rfl) l
def zy (l:List aa) (a:RA):bE:=⟨a.1,l.length,a.2⟩
def wF (l:List aa) (a:RA):List Value:=[vS a.1 l.length a.2]
def xM (l:List aa) (a:RA):List ao:=[rd a.1 l.length 2 (l.map aa.cells)]
def yh (l:List aa) (a:RA):List ao:=[own a.1 a.2 G1 2 (l.map aa.cells)]
theorem vN {ls:List (List aa)} {az:List RA}:(List.zipWith zy ls az).map sC=List.zipWith wF ls az:=by
 rw [List.map_zipWith]; rfl
theorem oG: ∀ (m:List aa) (a:RA) (w:World),(∀ X∈yh m a,X.holds w)→ ∀ X∈xM m a,X.holds w:=fun m a w h X hX=>by
 simp only [xM,cu] at hX
 subst hX
 have:=mI (h _ (List.mem_singleton.2 rfl))
 simpa using this
theorem xz {l:List (List aa)} {bz:List RA}:(bM (aZ yh l bz)).wr=true:=by
 show (aZ yh l bz).all (·.wr)=true
 rw [eo]
 intro X hX
 obtain ⟨k,m,a,_,_,h⟩:=jn hX
 simp only [yh,cu] at h
 subst h; rfl
theorem jK {ls:List (List aa)} {az:List RA} (h:az.length=ls.length):(List.zipWith wF ls az).length=ls.length:=by simp [h]
noncomputable def fx (r:cV) (i:Nat):List (List aa):=(r.ay.take i).map fun h=>h.map (eL r.aF)
noncomputable def cj (r:cV):List (List aa):=fx r r.ay.length
section
variable {r:cV} {i:Nat} {h:List aw} {tz:List RA} {a:RA}
theorem sM (hh:r.ay[i]? =some h):fx r (i+1)=fx r i++[h.map (eL r.aF)]:=by unfold fx; rw [List.take_add_one,hh,List.map_append]; rfl
theorem jA (hi:i≤r.ay.length):(fx r i).length=i:=by unfold fx; rw [List.length_map,List.length_take]; omega
theorem dK:(cj r).length=r.ay.length:=jA (Nat.le_refl _)
theorem zX (hh:r.ay[i]? =some h):(cj r)[i]? =some (h.map (eL r.aF)):=by
 unfold cj fx
 rw [List.take_length,eG,hh]; rfl
theorem px {m:List aa} (hh:r.ay[i]? =some h) (hm:(cj r)[i]? =some m):m=h.map (eL r.aF):=by
 rw [zX hh] at hm
 exact (Option.some.inj hm).symm
theorem qi (hh:r.ay[i]? =some h) (hl:tz.length=i):List.zipWith zy (fx r (i+1)) (tz++[a])=List.zipWith zy (fx r i) tz++[zy (h.map (eL r.aF)) a]:=by
 have hi:=(List.getElem?_eq_some_iff.1 hh).1
 rw [sM hh,List.zipWith_append (by rw [jA I,hl])]
 rfl
theorem yv (hh:r.ay[i]? =some h) (hl:tz.length=i):aZ yh (fx r i) tz++[own a.1 a.2 G1 2 ((h.map (eL r.aF)).map aa.cells)]=aZ yh (fx r (i+1)) (tz++[a]):=by
 have hi:=(List.getElem?_eq_some_iff.1 hh).1
 rw [sM hh,iJ (by rw [jA I,hl])]
 simp [aZ,yh]
end
theorem wG {lo hi:Int} {l:List Int}:oa lo hi l=true↔ ∀ x∈l,lo≤x∧x≤hi:=by
 unfold oa
 rw [Bool.not_eq_true',List.any_eq_false]
 constructor
 ·intro h x hx; have:=h x hx; simp only [decide_eq_true_eq] at this; omega
 ·intro h x hx; have:=h x hx; simp only [decide_eq_true_eq]; omega
abbrev CN (n:Nat):List Int:=(List.range n).map fun (k:Nat)=>(k:Int)
theorem t_ (n:Nat):(CN n).Pairwise (· ≤ ·):=by
 unfold CN
 rw [List.pairwise_map]
 exact List.pairwise_lt_range.imp fun h=>by omega
theorem zp {l:List Int} {n:Nat} (h:l.Perm (CN n)):kO l=CN n:=(zq h.symm (t_ n)).symm
theorem Dg {l:List Int} {n:Nat} (hl:l.length=n) (h: ∀ j,j<n→ ∀ x,(kO l)[j]? =some x→x=(j:Int)):l.Perm (CN n):=by
 have e:kO l=CN n:=by
  apply List.ext_getElem
  ·simp [hl]
  ·intro j A B
   have C:j<n:=by simpa using B
   have:=h j C _ (e_ A)
   simpa using this
 rw [← e]; exact j3.symm
def pf (r:cV) (i:Nat):Prop:= ∀ j,j<i→(∀ x,(kO r.bo)[j]? =some x→x=(j:Int))∧ ∀ x y,r.aT[j]? =some x→0<j→r.aT[j-1]? =some y→y<x
def Bb (r:cV) (h:List aw):Prop:=h.length=r.aT.length∧ ∀ d∈h,gN r.aF d
def iw (r:cV) (i:Nat):Prop:= ∀ (j:Nat) h,j<i→r.ay[j]? =some h→Bb r h
def mj (l:aQ) (h:List aw) (k:Nat):Prop:= ∀ (j:Nat) d,j<k→h[j]? =some d→gN l d
section
variable {r:cV} {i:Nat}
theorem Am:pf r 0:=fun j hj=>absurd hj (Nat.not_lt_zero _)
theorem vm {x:Int} (h:pf r i) (hd:(kO r.bo)[i]? =some x) (e:x=(i:Int)) (hs: ∀ x y,r.aT[i]? =some x→0<i→r.aT[i-1]? =some y→y<x):pf r (i+1):=fun j hj=>by
 rcases Nat.lt_or_ge j i with q|q
 ·exact h j q
 ·obtain rfl:j=i:=by omega
  exact ⟨fun y hy=>by rw [hd] at hy; cases hy; exact e,hs⟩
theorem ur:iw r 0:=fun j h hj=>absurd hj (Nat.not_lt_zero _)
theorem uf {h:List aw} (hh:iw r i) (hx:r.ay[i]? =some h) (ho:Bb r h):iw r (i+1):=fun j y hj hy=>by
 rcases Nat.lt_or_ge j i with q|q
 ·exact hh j y q hy
 ·obtain rfl:j=i:=by omega
  rw [hx] at hy; cases hy; exact ho
theorem sP {l:aQ} {h:List aw}:mj l h 0:=fun j d hj=>absurd hj (Nat.not_lt_zero _)
theorem sG {l:aQ} {h:List aw} {d:aw} (ht:mj l h i) (hx:h[i]? =some d) (ho:gN l d):mj l h (i+1):=fun j y hj hy=>by
 rcases Nat.lt_or_ge j i with q|q
 ·exact ht j y q hy
 ·obtain rfl:j=i:=by omega
  rw [hx] at hy; cases hy; exact ho
theorem Cc {h:List aw} (hl:h.length=r.aT.length) (ht:mj r.aF h i) (hi:h.length≤i):Bb r h:=⟨hl,fun d hd=>by
 obtain ⟨j,hj⟩:=List.getElem?_of_mem hd
 exact ht j d (by have:=(List.getElem?_eq_some_iff.1 hj).1; omega) hj⟩
theorem Fi {n:Nat} (hn:n=r.aT.length) (h1:1≤(r.aT.length:Int)∧(r.aT.length:Int)≤5) (h2:r.bo.length=r.aT.length) (h3:0≤r.i_∧r.i_≤5) (h4:1≤(r.ay.length:Int)∧(r.ay.length:Int)≤3) (h5:oa 0 9999 r.aT=true)
 (h6:pf r n) (h7:iw r i) (hi:r.ay.length≤i):eI r:=by
 subst hn
 refine ⟨h1,h3,h4,fun k x hx=>⟨wG.1 h5 x (aI hx),fun y hk hy=>?_⟩,Dg h2 fun j hj=>(h6 j hj).1,fun h hh=>?_⟩
 ·exact (h6 k (List.getElem?_eq_some_iff.1 hx).1).2 x y hx hk hy
 ·obtain ⟨j,hj⟩:=List.getElem?_of_mem hh
  exact h7 j h (by have:=(List.getElem?_eq_some_iff.1 hj).1; omega) hj
theorem eI.uA (h:eI r):r.bo.length=r.aT.length:=by have:=h.draw.length_eq; simpa using this
theorem eI.ins (h:eI r):oa 0 9999 r.aT=true:=wG.2 fun x hx=>by
 obtain ⟨j,hj⟩:=List.getElem?_of_mem hx
 exact (h.ids j x hj).1
theorem eI.drawn (h:eI r) {x:Int} (hx:(kO r.bo)[i]? =some x):x=(i:Int):=by
 rw [zp h.draw] at hx
 have hi:=(List.getElem?_eq_some_iff.1 hx).1
 simp at hi
 rw [eG,List.getElem?_range hi] at hx
 exact (Option.some.inj hx).symm
theorem eI.po (h:eI r):iw r i:=fun j x _ hx=>h.mH x (aI hx)
theorem wb (h: ¬ cY r.aF=0):eN r=cY r.aF:=if_neg h
theorem jq (h:cY r.aF=0) (hn: ¬ eI r):eN r=60:=by unfold eN; rw [if_pos h,if_neg hn]
theorem xS (h:cY r.aF=0) (hn:eI r):eN r=0:=by unfold eN; rw [if_pos h,if_pos hn]
theorem iR (h:eN r=0):cY r.aF=0∧eI r:=by
 unfold eN at h
 split at h
 ·split at h
  ·exact ⟨asm,asm⟩
  ·cases h
 ·exact absurd h asm
end
section
variable {r:cV} {k i n h:Nat} {s:aa} {l:aQ} {hs:List (List aw)}
theorem tm: ∀ {k:Nat} {s:aa},iw r k→k≤r.ay.length→eu r.aF r.ay i k=some s→0≤s.Lo∧s.Lo≤s.Hi∧s.Hi≤8640000*(k:Int)
 |0,s,_,_,h=>by
  simp only [eu,Option.some.injEq] at h
  subst h; simp
 |k+1,s,hh,hk,h=>by
  unfold eu at h
  split at h
  ·rename_i u d hu hd
   split at h
   ·cases h
   ·cases h
    have A:=tm (fun j x hj hx=>hh j x I hx) I hu
    obtain ⟨x,hx,hd⟩:=Option.bind_eq_some_iff.1 hd
    have B:=w9 ((hh k x I hx).2 d (aI hd))
    simp only
    push_cast
    omega
  ·cases h
theorem HQ:ei (dC l hs i 0 0) (i:Int) ⟨0,0⟩=dC l hs (i+1) 0 0:=by
 have A:(dC l hs i 0 0).lookup (i:Int)=none:=by rw [uK,if_neg (Nat.lt_irrefl i)]
 unfold ei
 rw [A]
 simp only [Option.isSome_none,Bool.false_eq_true,if_false]
 unfold dC
 rw [List.range_succ,List.filterMap_append]
 simp [eu]
theorem Gd (hi:i<n):(dC l hs n h i).lookup (i:Int)=eu l hs i h:=by rw [uK,if_pos hi,if_neg (Nat.lt_irrefl i)]
theorem xE {α β:Type} {f:α→β} {tr:List β} {ht:List α} {x:β} {d:α} (e:tr=ht.map f) (hx:tr[i]? =some x) (hd:ht[i]? =some d):x=f d:=by
 rw [e,eG,hd] at hx
 exact (Option.some.inj hx).symm
theorem HT:dC r.aF r.ay r.aT.length h 0=aN r h:=zA
end
end
section
def ry (key:Int→Int) (l:List Int) (x:Int):List Int:=l.takeWhile (fun y=>decide (key y≤key x))++x::l.dropWhile (fun y=>decide (key y≤key x))
def bG (key:Int→Int) (l:List Int):List Int:=l.foldl (ry key) []
def DS (key:Int→Int) (l:List Int):Prop:=l.Pairwise fun a b=>key a≤key b
section
variable {key:Int→Int} {l A B D:List Int} {x u v:Int} {i j:Nat}
theorem CE:(ry key l x).Perm (x::l):=by
 unfold ry
 refine List.perm_middle.trans ?_
 rw [List.takeWhile_append_dropWhile]
theorem I4 (hA: ∀ y∈A,key y≤key x) (hB: ∀ y∈B,key x<key y):(A++B).takeWhile (fun y=>decide (key y≤key x))=A∧(A++B).dropWhile (fun y=>decide (key y≤key x))=B:=by
 induction A with
 |nil=>
  cases B with
  |nil=>simp
  |cons b B=>
   have h:=hB b ck
   have:decide (key b≤key x)=false:=bw I
   rw [List.nil_append,List.takeWhile_cons,List.dropWhile_cons,this]
   exact ⟨U,U⟩
 |cons a A ih=>
  have h:=ih fun y hy=>hA y (dq _ hy)
  have:decide (key a≤key x)=true:=dw (hA a ck)
  simp only [List.cons_append,List.takeWhile,List.dropWhile,this]
  exact ⟨by rw [h.1],h.2⟩
theorem pY (hA: ∀ y∈A,key y≤key x) (hB: ∀ y∈B,key x<key y):ry key (A++B) x=A++x::B:=by
 unfold ry
 rw [(I4 hA hB).1,(I4 hA hB).2]
theorem yO (x:Int): ∀ {l:List Int},DS key l→ ∃ A B,l=A++B∧(∀ y∈A,key y≤key x)∧ ∀ y∈B,key x<key y
 |[],_=>⟨[],[],rfl,(fun y h=>by cases h),fun y h=>by cases h⟩
 |a::l,h=>by
  unfold DS at h
  rw [List.pairwise_cons] at h
  by_cases c:key a≤key x
  ·obtain ⟨A,B,e,hA,hB⟩:=yO x (l:=l) h.2
   refine ⟨a::A,B,by rw [e]; rfl,fun y hy=>?_,hB⟩
   rcases List.mem_cons.1 hy with rfl|hy
   ·exact c
   ·exact hA y hy
  ·refine ⟨[],a::l,rfl,fun y hy=>(by cases hy),fun y hy=>?_⟩
   rcases List.mem_cons.1 hy with rfl|hy
   ·omega
   ·have:=h.1 y hy; omega
theorem Hv (h:DS key l):DS key (ry key l x):=by
 obtain ⟨A,B,rfl,hA,hB⟩:=yO x h
 rw [pY hA hB]
 unfold DS at h ⊢
 rw [List.pairwise_append] at h ⊢
 refine ⟨h.1,List.pairwise_cons.2 ⟨fun y hy=>by have:=hB y hy; omega,h.2.1⟩,fun y hy z hz=>?_⟩
 rcases List.mem_cons.1 hz with rfl|hz
 ·exact hA y hy
 ·exact h.2.2 y hy z hz
theorem ku:bG key (l++[x])=ry key (bG key l) x:=by unfold bG; rw [List.foldl_append]; rfl
theorem x4 (h:l[i]? =some x):bG key (l.take (i+1))=ry key (bG key (l.take i)) x:=by rw [nW h,ku]
theorem uo: ∀ {l m:List Int},(l.foldl (ry key) m).Perm (m++l)
 |[],m=>by simp
 |x::l,m=>(uo (l:=l) (m:=ry key m x)).trans (((CE).append_right l).trans (by
  rw [List.cons_append]
  exact List.perm_middle.symm))
theorem su:(bG key l).Perm l:=by simpa [bG] using uo (key:=key) (l:=l) (m:=[])
theorem zw: ∀ {l m:List Int},DS key m→DS key (l.foldl (ry key) m)
 |[],m,h=>h
 |x::l,m,h=>zw (l:=l) (Hv h)
theorem nj:DS key (bG key l):=zw List.Pairwise.nil
theorem il:(bG key l).length=l.length:=su.length_eq
def xX (key:Int→Int) (l:List Int) (i j:Nat) (D:List Int):Prop:= ∃ A B x,l[i]? =some x∧A.length=j∧bG key (l.take i)=A++B∧(∀ y∈B,key x<key y)∧D=A++x::(B++l.drop (i+1))
def qS (key:Int→Int) (l:List Int) (i:Nat) (D:List Int):Prop:=D=bG key (l.take i)++l.drop i
theorem EE (h:0<l.length):qS key l 1 l:=by
 cases l with
 |nil=>simp at h
 |cons a l=>simp [qS,bG,ry]
theorem Ew (hi:l.length≤i) (h:qS key l i D):D=bG key l:=by
 subst h; rw [List.take_of_length_le hi,List.drop_of_length_le hi,List.append_nil]
theorem z9 (hi:i<l.length) (h:qS key l i D):xX key l i i D:=by
 have hx:l[i]? =some l[i]:=e_ hi
 refine ⟨bG key (l.take i),[],l[i],hx,by rw [il,List.length_take]; omega,sm,fun y hy=>(by cases hy),?_⟩
 rw [h,List.nil_append,List.drop_eq_getElem_cons hi]
theorem tT: ∀ {A:List Int},0<A.length→ ∃ A' y,A=A'++[y]:=fun {A} h=>⟨A.dropLast,A.getLast (by intro e; subst e; simp at h),(List.dropLast_concat_getLast _).symm⟩
theorem DE (hj:0<j) (h:xX key l i j D) (hu:D[j]? =some u) (hv:D[j-1]? =some v) (hlt:key u<key v):xX key l i (j-1) ((D.set j v).set (j-1) u):=by
 obtain ⟨A,B,x,hx,hl,he,hB,rfl⟩:=h
 obtain ⟨A',y,rfl⟩:=tT (A:=A) I
 simp only [List.length_append,List.length_cons,List.length_nil] at hl
 subst hl
 have C:(A'++[y]++x::(B++l.drop (i+1)))=A'++y::x::(B++l.drop (i+1)):=by simp
 rw [C] at hu hv ⊢
 rw [List.getElem?_append_right I,show A'.length+(0+1)-A'.length=1 by omega] at hu
 rw [show A'.length+(0+1)-1=A'.length by omega,List.getElem?_append_right (Nat.le_refl _),Nat.sub_self] at hv
 simp at hu hv
 subst hu hv
 refine ⟨A',y::B,x,hx,I,by rw [he]; simp,fun z hz=>?_,?_⟩
 ·rcases List.mem_cons.1 hz with rfl|hz
  ·exact hlt
  ·exact hB z hz
 ·rw [show A'.length+(0+1)-1=A'.length by omega,List.set_append_right _ _ I,List.set_append_right _ _ (Nat.le_refl _),show A'.length+(0+1)-A'.length=1 by omega,Nat.sub_self]
  simp
theorem wj (h:xX key l i j D) (hc: ∀ A,A.length=j→(∃ C,D=A++C)→DS key A→ ∀ x,l[i]? =some x→D[j]? =some x→ ∀ y∈A,key y≤key x):qS key l (i+1) D:=by
 obtain ⟨A,B,x,hx,hl,he,hB,rfl⟩:=h
 unfold qS
 have E:DS key (A++B):=he▸nj
 rw [x4 hx,he,pY (hc A hl ⟨_,rfl⟩ (by unfold DS at E ⊢; rw [List.pairwise_append] at E; exact E.1) x hx (by rw [List.getElem?_append_right I,← hl]; simp)) hB]
 simp
theorem wy (hj: ¬ 0<j) (h:xX key l i j D):qS key l (i+1) D:=wj h fun A hl _ _ x _ _ y hy=>by
 have:A=[]:=iz I
 subst this; cases hy
theorem wa (hj:0<j) (h:xX key l i j D) (hu:D[j]? =some u) (hv:D[j-1]? =some v) (hlt: ¬ key u<key v):qS key l (i+1) D:=wj h fun A hl hC hA x hx hd y hy=>by
 obtain ⟨C,hC⟩:=hC
 obtain ⟨A',z,rfl⟩:=tT (A:=A) I
 simp only [List.length_append,List.length_cons,List.length_nil] at hl
 rw [hd] at hu; cases hu
 have e:D[j-1]? =some z:=by
  rw [hC,List.append_assoc,List.getElem?_append_right I,show j-1-A'.length=0 by omega]; simp
 rw [e] at hv; cases hv
 unfold DS at hA
 rw [List.pairwise_append] at hA
 rcases List.mem_append.1 hy with hy|hy
 ·have:=hA.2.2 y hy v sm; omega
 ·rw [cu] at hy; subst hy; omega
end
end
section
def oh (k:Nat) (l:List Int):List Int:=(l.take k).reverse++l.drop k
def Dy (l:List Int) (k i:Nat) (D:List Int):Prop:=D.length=l.length∧ ∀ p,p<l.length→D[p]? =l[if p<k∧(p<i∨k≤p+i) then k-1-p else p]?
section
variable {l D:List Int} {k i j:Nat} {u v:Int}
theorem g5:(oh k l).length=l.length:=by unfold oh; rw [List.length_append,List.length_reverse,List.length_take,List.length_drop]; omega
theorem G7:Dy l k 0 l:=⟨rfl,fun p hp=>by rw [if_neg I]⟩
theorem EG (hk:k≤l.length) (hij:i<j) (hj:j+i+1=k) (h:Dy l k i D) (hu:D[i]? =some u) (hv:D[j]? =some v):Dy l k (i+1) ((D.set i v).set j u):=by
 refine ⟨by rw [List.length_set,List.length_set]; exact h.1,fun p hp=>?_⟩
 have hl:=h.1
 have hi:=h.2 i I
 have A:=h.2 j I
 rw [hu,if_neg I] at hi
 rw [hv,if_neg I] at A
 by_cases B:p=j
 ·subst B
  rw [List.getElem?_set_self (by rw [List.length_set]; omega),if_pos I,show k-1-p=i by omega,hi]
 ·rw [List.getElem?_set_ne (fun e=>B e.symm)]
  by_cases C:p=i
  ·subst C
   rw [List.getElem?_set_self I,if_pos I,show k-1-p=j by omega,A]
  ·rw [List.getElem?_set_ne (fun e=>C e.symm),h.2 p hp]
   by_cases c:p<k∧(p<i∨k≤p+i)
   ·rw [if_pos c,if_pos I]
   ·rw [if_neg c,if_neg I]
theorem Im (hk:k≤l.length) (hi:k≤2*i+1) (h:Dy l k i D):D=oh k l:=by
 apply List.ext_getElem?
 intro p
 by_cases hp:p<l.length
 ·rw [h.2 p hp]
  unfold oh
  by_cases c:p<k
  ·rw [List.getElem?_append_left (by rw [List.length_reverse,List.length_take]; omega),List.getElem?_reverse (by rw [List.length_take]; omega),List.length_take,Nat.min_eq_left hk,List.getElem?_take]
   rw [if_pos (show k-1-p<k by omega)]
   by_cases A:p<k∧(p<i∨k≤p+i)
   ·rw [if_pos A]
   ·rw [if_neg A,show k-1-p=p by omega]
  ·rw [if_neg I,List.getElem?_append_right (by rw [List.length_reverse,List.length_take]; omega),List.length_reverse,List.length_take,Nat.min_eq_left hk,List.getElem?_drop,show k+(p-k)=p by omega]
 ·rw [List.getElem?_eq_none (by rw [h.1]; omega),List.getElem?_eq_none (by rw [g5]; omega)]
end
end
section
def aY (m:lZ) (i:Int):aa:=(m.lookup i).getD cg
def Hc (r:cV) (i:Int):Prop:=0≤i∧i≤(r.aT.length:Int)-1
instance (r:cV) (i:Int):Decidable (Hc r i):=by unfold Hc; infer_instance
noncomputable def pS (r:cV) (i:Int):Int:=if eN r=0 then (if Hc r i then (if (gh r).lookup i=none then 6 else 0) else 2) else eN r
noncomputable def kQ (r:cV) (i:Int):aa:=if pS r i=0 then aY (gh r) i else cg
noncomputable def oV (r:cV) (h i:Int):Int:=if eN r=0 then (if (0≤h∧h≤(r.ay.length:Int)-1)∧Hc r i then (if ((r.ay[h.toNat]?).bind (·[i.toNat]?)).any (·.Out)=true then 6 else 0) else 2) else eN r
noncomputable def fK (r:cV) (h i:Int):aa:=if oV r h i=0 then ((((r.ay[h.toNat]?).bind (·[i.toNat]?)).map (eL r.aF)).getD cg) else cg
noncomputable def xH (r:cV) (h:Nat):List Int:=let l:=bG (fun i=>(aY (aN r h) i).Hi) (r.bo.filter fun i=>((aN r h).lookup i).isSome); oh (min r.i_.toNat l.length) l
noncomputable def g6 (r:cV) (h:Int):Int:=if eN r=0 then (if 0≤h∧h≤(r.ay.length:Int) then 0 else 2) else eN r
noncomputable def eP (r:cV) (h:Int):List Int:=if g6 r h=0 then (if h=0 then r.bo else xH r h.toNat) else []
section
variable {r:cV} {i a b:Int}
theorem Dt {m:lZ} {i:Int} (h:(m.lookup i).isSome=true): ¬ m.lookup i=none:=fun e=>by rw [e] at h; cases h
theorem CK {m:lZ} {i:Int} (h:(m.lookup i).isSome=false):m.lookup i=none:=by cases e:m.lookup i with |none=>rfl|some v=>rw [e] at h; cases h
theorem C5 (h:pS r i=0):eN r=0∧Hc r i∧(gh r).lookup i≠none:=by
 unfold pS at h
 split at h
 ·split at h
  ·split at h
   ·cases h
   ·exact ⟨asm,asm,asm⟩
  ·cases h
 ·exact absurd h asm
theorem DH {k:Nat} {p:Int×aa} (h:p∈aN r k): ∃ q:Nat,q<r.aT.length∧p.1=(q:Int)∧eu r.aF r.ay q k=some p.2:=by
 unfold aN at h
 obtain ⟨q,hq,e⟩:=List.mem_filterMap.1 h
 obtain ⟨s,hs,rfl⟩:=Option.map_eq_some_iff.1 e
 exact ⟨q,List.mem_range.1 hq,U,hs⟩
theorem Bs {k:Nat} (h:eN r=0) (hk:k≤r.ay.length): ∀ p∈aN r k,0≤p.2.Lo∧p.2.Lo≤p.2.Hi∧p.2.Hi≤30000000:=fun p hp=>by
 obtain ⟨q,_,_,hs⟩:=DH hp
 have A:=tm (iR h).2.po hk hs
 have B:=(iR h).2.nh
 omega
theorem E_ (h:eN r=0): ∀ p∈gh r,0≤p.2.Lo∧p.2.Lo≤p.2.Hi∧p.2.Hi≤30000000:=Bs h (Nat.le_refl _)
theorem DQ {k:Nat}:(aN r k).length≤r.aT.length:=by
 unfold aN
 refine Nat.le_trans (List.length_filterMap_le _ _) ?_
 rw [List.length_range]; exact Nat.le_refl _
theorem yd (h:eN r=0):(gh r).length≤5:=by
 have A:=DQ (r:=r) (k:=r.ay.length)
 have B:=(iR h).2.num
 unfold gh; omega
theorem oH (h: ¬ eN r=0):pS r i=eN r:=if_neg h
theorem oZ (h:eN r=0) (hi: ¬ (0≤i∧i≤(r.aT.length:Int)-1)):pS r i=2:=by unfold pS; rw [if_pos h,if_neg (show ¬ Hc r i from hi)]
theorem m0 (h:eN r=0) (hi:0≤i∧i≤(r.aT.length:Int)-1) (hl:((gh r).lookup i).isSome=false):pS r i=6:=by unfold pS; rw [if_pos h,if_pos (show Hc r i from hi),if_pos (CK hl)]
theorem qu (h:eN r=0) (hi:0≤i∧i≤(r.aT.length:Int)-1) (hl:((gh r).lookup i).isSome=true):pS r i=0:=by unfold pS; rw [if_pos h,if_pos (show Hc r i from hi),if_neg (Dt hl)]
end
end
section
abbrev JW:=List (Int×Bool)
section
variable {m:JW} {P Q:Int→Prop} {k:Int}
end
/-- two rows that go up and have the same numbers, each once -/
theorem DN {a b:List Int} (ha:a.Pairwise (· ≤ ·)) (hb:b.Pairwise (· ≤ ·)) (na:a.Nodup) (nb:b.Nodup) (h: ∀ x,x∈a↔x∈b):a=b:=
 pK ((List.perm_ext_iff_of_nodup na nb).2 h) ha hb
section
variable {m left:lZ} {i n x:Int} {y:aa}
end
theorem tH {m:lZ} {i:Int} (h: ∀ p∈m,0≤p.2.Lo∧p.2.Lo≤p.2.Hi∧p.2.Hi≤30000000):0≤(aY m i).Lo∧(aY m i).Lo≤(aY m i).Hi∧(aY m i).Hi≤30000000:=by
 unfold aY
 cases e:m.lookup i with
 |none=>simp [cg]
 |some v=>
  have hm:(i,v)∈m:=by
   clear h
   induction m with
   |nil=>cases e
   |cons p m ih=>
    obtain ⟨a,b⟩:=p
    by_cases c:i=a
    ·subst c; simp [List.lookup] at e; subst e; exact ck
    ·have:(i==a)=false:=by simpa using c
     simp only [List.lookup,this] at e
     exact dq _ (ih e)
  simpa using h _ hm
section
variable {m:lZ} {i:Int} {own:aa} {ys:List Int} {nev ranks:JW} {n a b:Int}
end
section
variable {nw left rk:JW} {N R:Int→Prop} {u:Int} {v:Bool}
end
section
variable {m left:lZ} {i x n:Int} {own y:aa} {ys:List Int}
end
section
variable {r:cV} {h i:Int} {ht:List aw} {d:aw}
theorem im (he: ¬ eN r=0):oV r h i=eN r:=if_neg he
theorem iq (he:eN r=0) (hi: ¬ ((0≤h∧h≤(r.ay.length:Int)-1)∧0≤i∧i≤(r.aT.length:Int)-1)):oV r h i=2:=by
 unfold oV; rw [if_pos he,if_neg (show ¬ ((0≤h∧h≤(r.ay.length:Int)-1)∧Hc r i) from hi)]
theorem yU (he:eN r=0) (hi:(0≤h∧h≤(r.ay.length:Int)-1)∧0≤i∧i≤(r.aT.length:Int)-1) (h1:r.ay[h.toNat]? =some ht) (h2:ht[i.toNat]? =some d):oV r h i=if d.Out=true then 6 else 0:=by
 unfold oV; rw [if_pos he,if_pos (show (0≤h∧h≤(r.ay.length:Int)-1)∧Hc r i from hi),h1]
 simp [h2]
theorem gK (he:eN r=0) (hi:(0≤h∧h≤(r.ay.length:Int)-1)∧0≤i∧i≤(r.aT.length:Int)-1) (h1:r.ay[h.toNat]? =some ht) (h2:ht[i.toNat]? =some d) (ho:d.Out=true):oV r h i=6:=by rw [yU he hi h1 h2,if_pos ho]
theorem jk (he:eN r=0) (hi:(0≤h∧h≤(r.ay.length:Int)-1)∧0≤i∧i≤(r.aT.length:Int)-1) (h1:r.ay[h.toNat]? =some ht) (h2:ht[i.toNat]? =some d) (ho:d.Out=false):oV r h i=0∧fK r h i=eL r.aF d:=by
 have e:oV r h i=0:=by rw [yU he hi h1 h2,if_neg (by rw [ho]; decide)]
 refine ⟨e,?_⟩
 unfold fK
 rw [if_pos e,h1]
 simp [h2]
end
end
section
open Go.RowKit
def og (b:Bool):List Value:=[.bool b]
@[simp] theorem xB (b:Bool):(og b).length=1:=rfl
theorem D2 (l:List Bool): ∀ v∈(l.map og).flatten,v.oneCell'=true:=kz (fun s=>rfl) l
end
section
def kg (r:cV) (i:Nat):Prop:= ∀ (j:Nat) x,j<i→r.ay[j]? =some x→ ¬ np x
def k7 (x:List aw) (i:Nat):Prop:= ∀ (j:Nat) d,j<i→x[j]? =some d→ ¬ 15<(d.bO.ag.length:Int)
section
variable {r:cV} {i:Nat} {x:List aw} {d:aw}
theorem zb:kg r 0:=fun j x hj=>absurd hj (Nat.not_lt_zero _)
theorem yI (h:kg r i) (hx:r.ay[i]? =some x) (ho: ¬ np x):kg r (i+1):=fun j y hj hy=>by
 rcases Nat.lt_or_ge j i with q|q
 ·exact h j y q hy
 ·obtain rfl:j=i:=by omega
  rw [hx] at hy; cases hy; exact ho
theorem zl:k7 x 0:=fun j x hj=>absurd hj (Nat.not_lt_zero _)
theorem zn (h:k7 x i) (hx:x[i]? =some d) (ho: ¬ 15<(d.bO.ag.length:Int)):k7 x (i+1):=fun j y hj hy=>by
 rcases Nat.lt_or_ge j i with q|q
 ·exact h j y q hy
 ·obtain rfl:j=i:=by omega
  rw [hx] at hy; cases hy; exact ho
theorem Ah (hl: ¬ 8<(x.length:Int)) (h:k7 x i) (hi:x.length≤i): ¬ np x:=by
 rintro (q|⟨d,hd,q⟩)
 ·exact hl q
 ·obtain ⟨j,hj⟩:=List.getElem?_of_mem hd
  exact h j d (by have:=(List.getElem?_eq_some_iff.1 hj).1; omega) hj q
theorem CB (h1: ¬ jv r.aF) (h2: ¬ 8<(r.aT.length:Int)∧ ¬ 8<(r.bo.length:Int)∧ ¬ 5<(r.ay.length:Int)) (h:kg r i) (hi:r.ay.length≤i): ¬ kH r:=by
 rintro ((q|q)|⟨x,hx,q⟩)
 ·exact h1 q
 ·omega
 ·obtain ⟨j,hj⟩:=List.getElem?_of_mem hx
  exact h j x (by have:=(List.getElem?_eq_some_iff.1 hj).1; omega) hj q
theorem nP (h:jv r.aF∨8<(r.aT.length:Int)∨8<(r.bo.length:Int)∨5<(r.ay.length:Int)):kH r:= .inl h
theorem yM (hx:r.ay[i]? =some x) (h:8<(x.length:Int)):kH r:= .inr ⟨x,aI hx,.inl h⟩
theorem AY {j:Nat} (hx:r.ay[i]? =some x) (hd:x[j]? =some d) (h:15<(d.bO.ag.length:Int)):kH r:= .inr ⟨x,aI hx,.inr ⟨d,aI hd,h⟩⟩
end
noncomputable def nm (l:aQ) (d:aw):aa:=if d.Out=true then cg else eL l d
theorem F6 {l:aQ} {d:aw} (h:gN l d):nm l d=eL l d:=by
 unfold nm
 split
 ·rename_i q
  rw [B8 q]
  rw [oW q] at h
  exact h.2.1.symm
 ·rfl
theorem xg {l:aQ} {d:aw} (h:d.Out=true):nm l d=cg:=if_pos h
theorem BT {l:aQ} {d:aw} (h:d.Out=false∧d.de=true):nm l d=d.Time:=by unfold nm; rw [if_neg (by rw [h.1]; decide),Cd h]
theorem Co {l:aQ} {d:aw} (h:d.Out=false∧d.de=false):nm l d=ze l d.bO:=by unfold nm; rw [if_neg (by rw [h.1]; decide),Cs h]
def LO (r:cV) (j:Nat):Prop:= ∀ x,r.aT[j]? =some x→(0≤x∧x≤9999)∧ ∀ y,0<j→r.aT[j-1]? =some y→y<x
def EA (r:cV) (j:Nat):Prop:= ∀ x,r.bo[j]? =some x→(0≤x∧x≤(r.aT.length:Int)-1)∧ ∀ (k:Nat) y,k<j→r.bo[k]? =some y→y≠x
def uO (r:cV) (i:Nat):Prop:= ∀ j,j<i→LO r j∧EA r j
section
variable {r:cV} {i k:Nat} {x:Int}
theorem F3:uO r 0:=fun j hj=>absurd hj (Nat.not_lt_zero _)
theorem za (h:uO r i) (h1:LO r i) (h2:EA r i):uO r (i+1):=fun j hj=>by
 rcases Nat.lt_or_ge j i with q|q
 ·exact h j q
 ·obtain rfl:j=i:=by omega
  exact ⟨h1,h2⟩
theorem ud {l:List Int} {u v:Int} (h: ∀ (q:Nat) y,q<k→l[q]? =some y→y≠v) (hx:l[k]? =some u) (hne: ¬ u=v): ∀ (q:Nat) y,q<k+1→l[q]? =some y→y≠v:=fun q y hq hy=>by
 rcases Nat.lt_or_ge q k with c|c
 ·exact h q y c hy
 ·obtain rfl:q=k:=by omega
  rw [hx] at hy; cases hy; exact hne
theorem FP (hl:r.bo.length=r.aT.length) (h:uO r r.aT.length):r.bo.Perm (CN r.aT.length):=by
 have nd:r.bo.Nodup:=by
  rw [List.nodup_iff_pairwise_ne,l9]
  intro a b ha hb A
  exact ((h b I).2 _ (e_ hb)).2 a _ A (e_ ha)
 have hm: ∀ x∈r.bo,x∈CN r.aT.length:=fun x hx=>by
  obtain ⟨j,hj⟩:=List.getElem?_of_mem hx
  have:=((h j (by have:=(List.getElem?_eq_some_iff.1 hj).1; omega)).2 x hj).1
  exact List.mem_map.2 ⟨x.toNat,List.mem_range.2 I,I⟩
 have ndu:(CN r.aT.length).Nodup:=by
  unfold CN
  rw [List.nodup_iff_pairwise_ne,List.pairwise_map]
  exact List.pairwise_lt_range.imp fun h=>by omega
 have e:kO r.bo=(CN r.aT.length).filter fun x=>decide (x∈r.bo):=by
  refine DN qt ((t_ _).filter _) (j3.nodup_iff.2 nd) (ndu.filter _) fun x=>?_
  rw [j3.mem_iff,List.mem_filter,decide_eq_true_eq]
  exact ⟨fun q=>⟨hm x q,q⟩,fun q=>q.2⟩
 have B:=congrArg List.length e
 rw [qn,hl] at B
 have C:(CN r.aT.length).filter (fun x=>decide (x∈r.bo))=CN r.aT.length:=List.filter_sublist.eq_of_length (by rw [← B]; simp)
 rw [C] at e
 rw [← e]; exact j3.symm
theorem CC {n:Nat} (h1:1≤(r.aT.length:Int)∧(r.aT.length:Int)≤5) (h2:r.bo.length=r.aT.length) (h3:0≤r.i_∧r.i_≤5) (h4:1≤(r.ay.length:Int)∧(r.ay.length:Int)≤3)
 (hn:n=r.aT.length) (h6:uO r n) (h7:iw r i) (hi:r.ay.length≤i):eI r:=by
 subst hn
 refine ⟨h1,h3,h4,fun k x hx=>(h6 k (List.getElem?_eq_some_iff.1 hx).1).1 x hx,FP h2 h6,fun h hh=>?_⟩
 obtain ⟨j,hj⟩:=List.getElem?_of_mem hh
 exact h7 j h (by have:=(List.getElem?_eq_some_iff.1 hj).1; omega) hj
theorem eI.wN (h:eI r) (hx:r.bo[i]? =some x):0≤x∧x≤(r.aT.length:Int)-1:=by
 obtain ⟨k,hk,rfl⟩:=List.mem_map.1 (h.draw.mem_iff.1 (aI hx))
 have:=List.mem_range.1 hk
 omega
theorem eI.Ki (h:eI r):r.bo.Nodup:=by
 refine h.draw.nodup_iff.2 ?_
 rw [List.nodup_iff_pairwise_ne,List.pairwise_map]
 exact List.pairwise_lt_range.imp fun h=>by omega
theorem eI.KS (h:eI r) {u v:Int} (hki:k<i) (hu:r.bo[k]? =some u) (hv:r.bo[i]? =some v): ¬ u=v:=by
 have A:=h.Ki
 rw [List.nodup_iff_pairwise_ne,l9] at A
 obtain ⟨a,ea⟩:=List.getElem?_eq_some_iff.1 hu
 obtain ⟨b,eb⟩:=List.getElem?_eq_some_iff.1 hv
 subst ea eb
 exact A k i a b hki
end
noncomputable def Jj (r:cV) (k:Nat):lZ:=(List.range k).filterMap fun q=>(eu r.aF r.ay q r.ay.length).map fun s=>((q:Int),s)
section
variable {r:cV} {i k n:Nat} {s:aa} {l:aQ} {hs:List (List aw)}
theorem uS (h:eu l hs i k=none): ∀ {n:Nat},k≤n→eu l hs i n=none
 |0,hn=>by
  obtain rfl:k=0:=by omega
  exact h
 |n+1,hn=>by
  by_cases e:k=n+1
  ·subst e; exact h
  ·exact uZ (uS h (n:=n) I)
theorem Db:Jj r r.aT.length=gh r:=rfl
theorem AQ {q:Nat}:(Jj r k).lookup (q:Int)=if q<k then eu r.aF r.ay q r.ay.length else none:=m8 _ _
theorem Gn (hk:k<r.aT.length):(gh r).lookup (k:Int)=eu r.aF r.ay k r.ay.length:=by
 rw [← Db,AQ,if_pos hk]
theorem iX {a:Int} (ha:0≤a∧a≤(r.aT.length:Int)-1):(gh r).lookup a=eu r.aF r.ay a.toNat r.ay.length:=by
 have:=Gn (r:=r) (k:=a.toNat) I
 rwa [show (a.toNat:Int)=a by omega] at this
theorem qp {a:Int} (ha:0≤a∧a≤(r.aT.length:Int)-1):(eu r.aF r.ay a.toNat r.ay.length).getD cg=aY (gh r) a:=by unfold aY; rw [iX ha]
end
section
variable {r:cV} {i x:Int} {own s:aa} {k:Nat} {ys zs:List Int}
end
section
variable {B:List Bool} {P Q:Int→Prop} {k x:Nat} {m:lZ} {i y a b:Int} {ys:List Int}
end
end
section
open Go.RowKit
section
variable {K:Type} [DecidableEq K] {kV:K→Value}
variable {E:eB} {ops:Array Oper} {Q:cM} {rest:List Oper} {D:List Deferred} {L:List (Nat×Value)} {C:List ao}
variable {ty:TypeId} {ps:String} {af:Array Edge} {g:Option (Nat×Bool)}
theorem uT {t kt et:TypeId} {xm xk:Operand} {ts:Array TypeId} {b:Nat} {x:K} {m m':List (K×Value)} {C':List ao} (i:Nat) (hg:jc ops L g=true) (hm:ev L xm=some (.map (some b))) (hk:ev L xk=some (kV x)) (hts:ts[0]? =some t)
 (ht:E.P.underlying t=some (.map kt et)) (hkt:rY E.P kt kV) (hC:C[i]? =some (jV kV b m)) (hm':ep m x=m') (hC':C.set i (jV kV b m')=C') (k:RJ E ops Q rest D L C'):
 RJ E ops Q (⟨none,.call {callee:= .builtin .delete,args:= #[xm,xk],argTypes:=ts},ty,ps,af,g⟩::rest) D L C:=by
 subst hm' hC'
 intro a w A hs
 unfold qe
 rw [if_pos (dJ A hg)]
 obtain ⟨es,c,he,hi⟩:=hs.holds _ (aI hC)
 have B:(getObj b).run E.P w= .ok (.map es c) w:=MapKept.run_getObj_map he
 rcases mY (P:=E.P) (w:=w) (x:=x) hkt hi with ⟨F,G⟩|⟨j,AA,F,G,H⟩
 ·refine gD (v:= .tuple #[]) (w':={w with heap:=w.heap.setIfInBounds b (.map es c)}) sm ?_ ?_
  ·simp [execOp,resolve,invoke,builtin,A.ev hm,A.ev hk,Builtin.delete_,hts,run_underlying ht,B,gM hkt,F,MapKept.run_setObj_map _ he]
  ·refine k _ _ ⟨A.defers,A.size,A.at_⟩ (hs.zL (b:=b) i hC U U (lh _) (fun _ h=>h) ⟨_,_,nu he,?_⟩)
   rw [AZ G]; exact hi
 ·refine gD (v:= .tuple #[]) (w':={w with heap:=w.heap.setIfInBounds b (.map (es.eraseIdxIfInBounds j) c)}) sm ?_ ?_
  ·simp [execOp,resolve,invoke,builtin,A.ev hm,A.ev hk,Builtin.delete_,hts,run_underlying ht,B,gM hkt,F,MapKept.run_setObj_map _ he]
  ·exact k _ _ ⟨A.defers,A.size,A.at_⟩ (hs.zL (b:=b) i hC U U (lh _) (fun _ h=>h) ⟨_,_,nu he,hi.del G⟩)
end
end
end Go.Proofs.YtcoejkiaokbmpaaGreatDoor
