/-
 The statement raceRepaired_said, part 4 of 9: Short, Grow, Global, RunA, Tab, Run, Comp, Ret, LoopK, MapK, Watch, Passes, Keys, MapR, RangeG, Nest, WMaps, WBounds, PassG, Drop, Spot, First, Line, Wrap, Goes, OpenW, Wheres, ExL6, LineR, Race, RaceS, Vals, RaceO, Ord, Rev.
 Conditions: none.
-/
import Derived.Test.YtadjgjnicdcjbaaGreatDoorTz1
import Derived.Test.YtadjgjnicdcjbaaGreatDoorTz2
import Derived.Test.YtadjgjnicdcjbaaGreatDoorTz3
import Derived.Test.YtadjgjnicdcjbaaGreatDoorProg
import Derived.KernelRfl
import Derived.WideKeyRuns
namespace Go.Proofs.YtadjgjnicdcjbaaGreatDoor
set_option maxRecDepth 100000
set_option maxHeartbeats 4000000
set_option linter.unusedVariables false
section
open Go.RowKit
/-- an operation that hands v to its slot d -/
structure SE (E:fq) (ops:Array Oper) (o:Oper) (D:g3) (L:dw) (C:List aw) (v:Value) (d:Nat):Prop where
 h:SD E ops o D L C v
 o:o.dst=some d
 n:Nat.blt d E.n=true
theorem rS {E:fq} {ops:Array Oper} {Q:dk} {o:Oper} {rest:List Oper} {D:g3} {L:dw} {C:List aw} {v:Value} {d:Nat}
 (h:SE E ops o D L C v d) (k:RJ E ops Q rest D ((d,v)::L) C):RJ E ops Q (o::rest) D L C:=TL h.h h.o h.n k
theorem dS {E:fq} {ops:Array Oper} {F:dw→Prop} {o:Oper} {rest:List Oper} {D:g3} {L:dw} {C:List aw} {v:Value} {d:Nat}
 (h:SE E ops o D L C v d) (k:DJ E ops D C F rest ((d,v)::L)):DJ E ops D C F (o::rest) L:=So h.h h.o h.n k
theorem eS {E:fq} {ops:Array Oper} {D:g3} {C' C1:List aw} {F:dw→Prop} {bs:List Bool} {o:Oper} {l rest:List Oper} {L:dw} {v:Value} {d:Nat}
 (hl:l=o::rest) (h:SE E ops o D L C' v d) (k:qA E ops D C' C1 F bs rest ((d,v)::L)):qA E ops D C' C1 F (false::bs) l L:=TQ h.h hl h.o h.n k
theorem fS {E:fq} {ops:Array Oper} {D:g3} {C' C1:List aw} {F:dw→Prop} {bs:List Bool} {o:Oper} {l rest:List Oper} {L:dw} {v:Value} {d:Nat}
 (hl:l=o::rest) (h:SE E ops o D L C1 v d) (k:qA E ops D C' C1 F bs rest ((d,v)::L)):qA E ops D C' C1 F (true::bs) l L:=TD h.h hl h.o h.n k
def gB (n:Nat) (ops:Array Oper) (L:dw) (d:Nat) (g:Option (Nat×Bool)):Bool:=jM ops L g&&Nat.blt d n
theorem PO {n:Nat} {ops:Array Oper} {L:dw} {d:Nat} {g:Option (Nat×Bool)} (h:gB n ops L d g=true):jM ops L g=true:=by
 unfold gB at h; rw [cW] at h; exact h.1
theorem Pk {n:Nat} {ops:Array Oper} {L:dw} {d:Nat} {g:Option (Nat×Bool)} (h:gB n ops L d g=true):Nat.blt d n=true:=by
 unfold gB at h; rw [cW] at h; exact h.2
def vF (n:Nat) (ops:Array Oper) (L:dw) (d:Nat) (g:Option (Nat×Bool)) (x:Operand):Option Value:=match gB n ops L d g with
 |true=>ev L x
 |false=>none
def bF (n:Nat) (ops:Array Oper) (L:dw) (d:Nat) (g:Option (Nat×Bool)) (x y:Operand):Option (Value×Value):=match gB n ops L d g with
 |true=>match ev L x,ev L y with
  |some u,some v=>some (u,v)
  |_,_=>none
 |false=>none
def pF (n:Nat) (ops:Array Oper) (L:dw) (d:Nat) (g:Option (Nat×Bool)) (c x y:Operand):Option Value:=match gB n ops L d g with
 |true=>match ev L c with
  |some (.bool true)=>ev L x
  |some (.bool false)=>ev L y
  |_=>none
 |false=>none
def xF (n:Nat) (ops:Array Oper) (L:dw) (d:Nat) (g:Option (Nat×Bool)) (x:Operand) (i:Nat):Option Value:=match vF n ops L d g x with
 |some (.tuple vs)=>vs.toList[i]?
 |_=>none
def uF (n:Nat) (ops:Array Oper) (L:dw) (d:Nat) (g:Option (Nat×Bool)) (xs ys:List Operand):Option (List Value×List Value):=match gB n ops L d g with
 |true=>match evs L xs,evs L ys with
  |some u,some v=>some (u,v)
  |_,_=>none
 |false=>none
def cF (n:Nat) (ops:Array Oper) (L:dw) (d:Nat) (g:Option (Nat×Bool)) (fop:Operand) (xs:List Operand):Option (FuncId×List Value):=match gB n ops L d g with
 |true=>match ev L fop,evs L xs with
  |some (.func (.func f) fi ca),some vs=>some (f,fi.toList++vs++ca.toList)
  |_,_=>none
 |false=>none
theorem jo {n:Nat} {ops:Array Oper} {L:dw} {d:Nat} {g:Option (Nat×Bool)} {x:Operand} {v:Value} (h:vF n ops L d g x=some v):jM ops L g=true∧Nat.blt d n=true∧ev L x=some v:=by
 unfold vF at h
 split at h
 ·rename_i hb; exact ⟨PO hb,Pk hb,h⟩
 ·cases h
theorem qN {n:Nat} {ops:Array Oper} {L:dw} {d:Nat} {g:Option (Nat×Bool)} {x y:Operand} {u v:Value} (h:bF n ops L d g x y=some (u,v)):jM ops L g=true∧Nat.blt d n=true∧ev L x=some u∧ev L y=some v:=by
 unfold bF at h
 split at h
 ·rename_i hb
  split at h
  ·rename_i hx hy; cases h; exact ⟨PO hb,Pk hb,hx,hy⟩
  ·cases h
 ·cases h
theorem QW {n:Nat} {ops:Array Oper} {L:dw} {d:Nat} {g:Option (Nat×Bool)} {x y:List Operand} {u v:List Value} (h:uF n ops L d g x y=some (u,v)):jM ops L g=true∧Nat.blt d n=true∧evs L x=some u∧evs L y=some v:=by
 unfold uF at h
 split at h
 ·rename_i hb
  split at h
  ·rename_i hx hy; cases h; exact ⟨PO hb,Pk hb,hx,hy⟩
  ·cases h
 ·cases h
section
variable {E:fq} {ops:Array Oper} {Q:dk} {rest:List Oper} {D:List Deferred} {L:List (Nat×Value)} {C:List aw}
variable {d:Nat} {ty:TypeId} {ps:String} {af:Array Edge} {g:Option (Nat×Bool)}
theorem SX {o:Oper} {v:Value} (h:SD E ops o D L C v) (ho:o.dst=some d) (hd:Nat.blt d E.n=true):SE E ops o D L C v d:=⟨h,ho,hd⟩
theorem MV {x:Operand} {v:Value} (h:vF E.n ops L d g x=some v):SE E ops ⟨some d,.move x,ty,ps,af,g⟩ D L C v d:=by
 obtain ⟨A,B,F⟩:=jo h; exact ⟨GQ A F,rfl,B⟩
theorem AG {x:Operand} {v:Value} (h:vF E.n ops L d g x=some v):SE E ops ⟨some d,.assign x,ty,ps,af,g⟩ D L C v d:=by
 obtain ⟨A,B,F⟩:=jo h; exact ⟨zG A F,rfl,B⟩
theorem OX {op:Op} (h:(DP ops L g&&Nat.blt d E.n)=true):SE E ops ⟨some d,op,ty,ps,af,g⟩ D L C undef d:=by
 rw [cW] at h; exact ⟨Jy h.1,rfl,h.2⟩
theorem NT {xt:TypeId} {x:Operand} {b:Bool} (h:vF E.n ops L d g x=some (.bool b)):SE E ops ⟨some d,.unOp .not xt x,ty,ps,af,g⟩ D L C (.bool !b) d:=by
 obtain ⟨A,B,F⟩:=jo h; exact ⟨MA A F,rfl,B⟩
theorem NG {xt:TypeId} {x:Operand} {n:Int} (h:vF E.n ops L d g x=some (.int .i64 n)) (hb:rp (-n)):SE E ops ⟨some d,.unOp .neg xt x,ty,ps,af,g⟩ D L C (.int .i64 (-n)) d:=by
 obtain ⟨A,B,F⟩:=jo h; exact ⟨Qe A F hb,rfl,B⟩
theorem PK {c x y:Operand} {v:Value} (h:pF E.n ops L d g c x y=some v):SE E ops ⟨some d,.pick c x y,ty,ps,af,g⟩ D L C v d:=by
 unfold pF at h
 split at h
 ·rename_i hb
  split at h
  ·rename_i hc; exact ⟨zt (PO hb) hc h,rfl,Pk hb⟩
  ·rename_i hc; exact ⟨z8 (PO hb) hc h,rfl,Pk hb⟩
  ·cases h
 ·cases h
theorem EX {x:Operand} {i:Nat} {v:Value} (h:xF E.n ops L d g x i=some v):SE E ops ⟨some d,.extract x i,ty,ps,af,g⟩ D L C v d:=by
 unfold xF at h
 split at h
 ·rename_i vs hv
  obtain ⟨A,B,F⟩:=jo hv
  exact ⟨yO (vs:=vs.toList) A (by simpa using F) h,U,B⟩
 ·cases h
theorem LN {x:Operand} {t e:TypeId} {A:OA} {n c:Nat} (h:vF E.n ops L d g x=some (.slice A n c)) (ht:E.P.underlying t=some (.slice e)):
 SE E ops ⟨some d,.call {callee:= .builtin .len,args:= #[x],argTypes:= #[t]},ty,ps,af,g⟩ D L C (.int .i64 n) d:=by
 obtain ⟨B,F,G⟩:=jo h; exact ⟨Mj B G ht,rfl,F⟩
theorem BI {op:BinOp} {xt yt:TypeId} {x y:Operand} {u v r:Value} (h:bF E.n ops L d g x y=some (u,v)) (hb:gL E.P op xt x y u v r):SE E ops ⟨some d,.binOp op xt x y yt,ty,ps,af,g⟩ D L C r d:=by
 obtain ⟨A,B,F,G⟩:=qN h; exact ⟨cf A F G hb,rfl,B⟩
theorem MN {x y:Operand} {ts:Array TypeId} {a b:Int} {k:IntKind} (h:bF E.n ops L d g x y=some (.int k a,.int k b)):
 SE E ops ⟨some d,.call {callee:= .builtin .min,args:= #[x,y],argTypes:=ts},ty,ps,af,g⟩ D L C (.int k (min a b)) d:=by
 obtain ⟨A,B,F,G⟩:=qN h; exact ⟨Qv A F G,rfl,B⟩
theorem MX {x y:Operand} {ts:Array TypeId} {a b:Int} {k:IntKind} (h:bF E.n ops L d g x y=some (.int k a,.int k b)):
 SE E ops ⟨some d,.call {callee:= .builtin .max,args:= #[x,y],argTypes:=ts},ty,ps,af,g⟩ D L C (.int k (max a b)) d:=by
 obtain ⟨A,B,F,G⟩:=qN h; exact ⟨Rd A F G,rfl,B⟩
theorem FA (o':Nat) {x:Operand} {b o s f k:Nat} (h:vF E.n ops L d g x=some (.pointer (some ⟨b,o,none⟩))) (hf:rD E.P s f=some k) (ho:o+k=o'):
 SE E ops ⟨some d,.fieldAddr s x f,ty,ps,af,g⟩ D L C (.pointer (some ⟨b,o',none⟩)) d:=by
 obtain ⟨A,B,F⟩:=jo h; exact ⟨Px A F hf ho,rfl,B⟩
theorem mV (k':Nat) {x:Operand} {A:OA} {n sz:Nat} {es:List (List Value)} {k0 s f k:Nat} (h:vF E.n ops L d g x=some (.pointer (ml A k0))) (hR:g9 C (rd A n sz es).holds) (hn:0<n*sz)
 (hf:rD E.P s f=some k) (ho:k0+k=k'):SE E ops ⟨some d,.fieldAddr s x f,ty,ps,af,g⟩ D L C (.pointer (ml A k')) d:=by
 obtain ⟨B,F,G⟩:=jo h; exact ⟨I5 B G hR hn hf ho,rfl,F⟩
theorem Vb (k':Nat) {x:Operand} {A:OA} {ad:Addr} {k0 s f k:Nat} (h:vF E.n ops L d g x=some (.pointer (ml A k0))) (hA:A=some ad)
 (hf:rD E.P s f=some k) (ho:k0+k=k'):SE E ops ⟨some d,.fieldAddr s x f,ty,ps,af,g⟩ D L C (.pointer (ml A k')) d:=by
 obtain ⟨B,F,G⟩:=jo h; exact ⟨JA B G hA hf ho,rfl,F⟩
theorem IA (k:Nat) {x ix:Operand} {A:OA} {n c sz e t:Nat} {es:List (List Value)} {j:Int} (h:bF E.n ops L d g x ix=some (.slice A n c,.int .i64 j)) (hR:g9 C (rd A n sz es).holds)
 (ht:tE E.P t=some (e,sz)) (hz:0<sz) (hj:j=(k:Int)) (hk:k<n):SE E ops ⟨some d,.indexAddr t x ix,ty,ps,af,g⟩ D L C (.pointer (ml A (k*sz))) d:=by
 obtain ⟨B,F,G,H⟩:=qN h; exact ⟨UD B G H hR ht hz hj hk,rfl,F⟩
theorem UL (k o':Nat) {x ix:Operand} {b o n c sz e t:Nat} {j:Int} (h:bF E.n ops L d g x ix=some (.slice (some ⟨b,o,none⟩) n c,.int .i64 j))
 (ht:tE E.P t=some (e,sz)) (hj:j=(k:Int)) (hk:k<n) (ho:o+k*sz=o'):SE E ops ⟨some d,.indexAddr t x ix,ty,ps,af,g⟩ D L C (.pointer (some ⟨b,o',none⟩)) d:=by
 obtain ⟨A,B,F,G⟩:=qN h; exact ⟨OO A F G ht hj hk ho,rfl,B⟩
/-- the whole of a block, a part of it, one cell -/
theorem LW (i:Nat) {x:Operand} {b t tt n:Nat} {cs:List Value} (h:vF E.n ops L d g x=some (.pointer (some ⟨b,0,none⟩))) (ht:tK E.P t=some (true,n)) (hC:C[i]? =some (cm b tt cs)) (hn:cs.length=n):
 SE E ops ⟨some d,.load t x,ty,ps,af,g⟩ D L C (.agg cs.toArray) d:=by
 obtain ⟨A,B,F⟩:=jo h; exact ⟨yH A F ht (qh i hC sm) hn,rfl,B⟩
theorem LP (vs:List Value) (i:Nat) {x:Operand} {b o t tt n:Nat} {cs:List Value} (h:vF E.n ops L d g x=some (.pointer (some ⟨b,o,none⟩))) (ht:tK E.P t=some (true,n)) (hC:C[i]? =some (cm b tt cs)) (hv:(cs.drop o).take vs.length=vs) (hn:vs.length=n):
 SE E ops ⟨some d,.load t x,ty,ps,af,g⟩ D L C (.agg vs.toArray) d:=by
 obtain ⟨A,B,F⟩:=jo h; exact ⟨yH A F ht (qh i hC hv) hn,rfl,B⟩
theorem V_ (vs:List Value) (i:Nat) {x:Operand} {b o t tt n:Nat} {cs:List Value} (h:vF E.n ops L d g x=some (.pointer (some ⟨b,o,none⟩))) (ht:tK E.P t=some (true,n)) (hC:C[i]? =some (cm b tt cs).ro) (hv:(cs.drop o).take vs.length=vs) (hn:vs.length=n):
 SE E ops ⟨some d,.load t x,ty,ps,af,g⟩ D L C (.agg vs.toArray) d:=by
 obtain ⟨A,B,F⟩:=jo h; exact ⟨yH A F ht (wT i hC hv) hn,rfl,B⟩
theorem L1 (v:Value) (i:Nat) {x:Operand} {b o t tt n:Nat} {cs:List Value} (h:vF E.n ops L d g x=some (.pointer (some ⟨b,o,none⟩))) (ht:tK E.P t=some (false,n)) (hC:C[i]? =some (cm b tt cs)) (hv:(cs.drop o).take 1=[v]):
 SE E ops ⟨some d,.load t x,ty,ps,af,g⟩ D L C v d:=by
 obtain ⟨A,B,F⟩:=jo h; exact ⟨vu A F ht (qh i hC hv),rfl,B⟩
theorem IL (v:Value) (i:Nat) {x:Operand} {b o t tt n:Nat} {cs:List Value} (h:vF E.n ops L d g x=some (.pointer (some ⟨b,o,none⟩))) (ht:tK E.P t=some (false,n)) (hC:C[i]? =some (cm b tt cs).ro) (hv:(cs.drop o).take 1=[v]):
 SE E ops ⟨some d,.load t x,ty,ps,af,g⟩ D L C v d:=by
 obtain ⟨A,B,F⟩:=jo h; exact ⟨vu A F ht (wT i hC hv),rfl,B⟩
theorem Eg (i:Nat) {x:Operand} {b t tt n:Nat} {v:Value} (h:vF E.n ops L d g x=some (.pointer (some ⟨b,0,none⟩))) (ht:tK E.P t=some (false,n)) (hC:C[i]? =some (cm b tt [v])):
 SE E ops ⟨some d,.load t x,ty,ps,af,g⟩ D L C v d:=by
 obtain ⟨A,B,F⟩:=jo h; exact ⟨vu A F ht (qh i hC rfl),rfl,B⟩
theorem UQ (i:Nat) {x:Operand} {b t tt n:Nat} {v:Value} (h:vF E.n ops L d g x=some (.pointer (some ⟨b,0,none⟩))) (ht:tK E.P t=some (false,n)) (hC:C[i]? =some (cm b tt [v]).ro):
 SE E ops ⟨some d,.load t x,ty,ps,af,g⟩ D L C v d:=by
 obtain ⟨A,B,F⟩:=jo h; exact ⟨vu A F ht (wT i hC rfl),rfl,B⟩
/-- what is read of a row -/
theorem fX (k o:Nat) (v:Value) {x:Operand} {A:OA} {t m n sz:Nat} {es:List (List Value)} {e:List Value} (h:vF E.n ops L d g x=some (.pointer (ml A m))) {nn:Nat} (ht:tK E.P t=some (false,nn)) (hR:g9 C (rd A n sz es).holds) (he:es[k]? =some e) (hm:m=k*sz+o) (hz:0<sz) (hv:(e.drop o).take 1=[v]):
 SE E ops ⟨some d,.load t x,ty,ps,af,g⟩ D L C v d:=by
 obtain ⟨B,F,G⟩:=jo h; exact ⟨vu B G ht (PL hR he hm hz hv),rfl,F⟩
theorem lS (k o:Nat) (vs:List Value) {x:Operand} {A:OA} {t m n sz:Nat} {es:List (List Value)} {e:List Value} (h:vF E.n ops L d g x=some (.pointer (ml A m))) {nn:Nat} (ht:tK E.P t=some (true,nn)) (hR:g9 C (rd A n sz es).holds) (he:es[k]? =some e) (hm:m=k*sz+o) (hz:0<sz) (hv:(e.drop o).take vs.length=vs) (hn:vs.length=nn):
 SE E ops ⟨some d,.load t x,ty,ps,af,g⟩ D L C (.agg vs.toArray) d:=by
 obtain ⟨B,F,G⟩:=jo h; exact ⟨yH B G ht (PL hR he hm hz hv) hn,rfl,F⟩
theorem CL {fop:Operand} {xs:Array Operand} {ts:Array TypeId} {f:FuncId} {args:List Value} {Cp:List aw} {v:Value} (c:er E.P f args Cp v) (hC:kz C Cp) (h:cF E.n ops L d g fop xs.toList=some (f,args)):
 SE E ops ⟨some d,.call {callee:= .value fop,args:=xs,argTypes:=ts},ty,ps,af,g⟩ D L C v d:=by
 unfold cF at h
 split at h
 ·rename_i hb
  split at h
  ·rename_i hf hx; cases h; exact ⟨FL (PO hb) hf hx rfl c hC,rfl,Pk hb⟩
  ·cases h
 ·cases h
theorem FU {fn:Fn} {xs ys:Array Operand} {us vs:List Value} (h:uF E.n ops L d g xs.toList ys.toList=some (us,vs)):SE E ops ⟨some d,.makeFunc fn xs ys,ty,ps,af,g⟩ D L C (.func fn us.toArray vs.toArray) d:=by
 obtain ⟨A,B,F,G⟩:=QW h; exact ⟨Ot A F G,rfl,B⟩
theorem cX {fop:Operand} {xs:Array Operand} {ts:Array TypeId} {f:FuncId} {args:List Value} {Cp:List aw} {α:Type} {V:α→Value} {p:α→Prop} {N:α→List aw} (c:lx E.P f args Cp V p N) (hC:kz C Cp)
 (h:cF E.n ops L d g fop xs.toList=some (f,args)) (k: ∀ x,p x→RJ E ops Q rest D ((d,V x)::L) (N x++C)):
 RJ E ops Q (⟨some d,.call {callee:= .value fop,args:=xs,argTypes:=ts},ty,ps,af,g⟩::rest) D L C:=by
 unfold cF at h
 split at h
 ·rename_i hb
  split at h
  ·rename_i hf hx; cases h; exact Rp (PO hb) hf hx rfl c hC (Pk hb) k
  ·cases h
 ·cases h
/-- a box of a struct, of one cell -/
theorem fK {t:TypeId} {x:Operand} {cs:List Value} (h:vF E.n ops L d g x=some (.agg cs.toArray)) (k: ∀ b,RJ E ops Q rest D ((d,.pointer (some ⟨b,0,none⟩))::L) (cm b t cs::C)):
 RJ E ops Q (⟨some d,.box t x,ty,ps,af,g⟩::rest) D L C:=by
 obtain ⟨A,B,F⟩:=jo h; exact Pf A F rfl B k
theorem uP {t:TypeId} {x:Operand} {v:Value} (h:vF E.n ops L d g x=some v) (hv:v.cells.toList=[v]) (k: ∀ b,RJ E ops Q rest D ((d,.pointer (some ⟨b,0,none⟩))::L) (cm b t [v]::C)):
 RJ E ops Q (⟨some d,.box t x,ty,ps,af,g⟩::rest) D L C:=by
 obtain ⟨A,B,F⟩:=jo h; exact Pf A F hv B k
theorem AL {t:TypeId} {cs:List Value} (h:gB E.n ops L d g=true) (hz:tZ E.P t=some cs) (k: ∀ b,RJ E ops Q rest D ((d,.pointer (some ⟨b,0,none⟩))::L) (cm b t cs::C)):
 RJ E ops Q (⟨some d,.alloc t,ty,ps,af,g⟩::rest) D L C:=Nx (PO h) hz (Pk h) k
/-- a store into the block at the place i of the state -/
def sF (ops:Array Oper) (L:dw) (g:Option (Nat×Bool)) (x y:Operand):Option (Value×Value):=match jM ops L g with
 |true=>match ev L x,ev L y with
  |some u,some v=>some (u,v)
  |_,_=>none
 |false=>none
theorem Ei {ops:Array Oper} {L:dw} {g:Option (Nat×Bool)} {x y:Operand} {u v:Value} (h:sF ops L g x y=some (u,v)):jM ops L g=true∧ev L x=some u∧ev L y=some v:=by
 unfold sF at h
 split at h
 ·rename_i hb
  split at h
  ·rename_i hx hy; cases h; exact ⟨hb,hx,hy⟩
  ·cases h
 ·cases h
theorem Pg {t n b o tt:Nat} {x y:Operand} {v:Value} {cs cs':List Value} {C':List aw} (i:Nat) (h:sF ops L g x y=some (.pointer (some ⟨b,o,none⟩),v)) (ht:(tK E.P t).map (·.2)=some n) (hC:C[i]? =some (cm b tt cs))
 (hk:(v.cells.toList.length==n&&v.cells.toList.all Value.oneCell'&&Nat.ble (o+n) cs.length)=true) (hcs:cs.take o++v.cells.toList++cs.drop (o+n)=cs') (hC':C.set i (cm b tt cs')=C') (k:RJ E ops Q rest D L C'):
 RJ E ops Q (⟨none,.store t x y,ty,ps,af,g⟩::rest) D L C:=by
 obtain ⟨A,B,F⟩:=Ei h
 simp only [cW,beq_iff_eq] at hk
 exact jx i A B F ht U hk.1.1 hk.1.2 hC hk.2 hcs hC' k
/-- a store of a whole block, by a struct, by one cell -/
theorem OJ {t n b tt:Nat} {x y:Operand} {cs cs':List Value} {C':List aw} (i:Nat) (h:sF ops L g x y=some (.pointer (some ⟨b,0,none⟩),.agg cs'.toArray)) (ht:(tK E.P t).map (·.2)=some n) (hC:C[i]? =some (cm b tt cs))
 (hk:(Nat.beq cs'.length n&&cs'.all Value.oneCell'&&Nat.beq n cs.length)=true) (hC':C.set i (cm b tt cs')=C') (k:RJ E ops Q rest D L C'):
 RJ E ops Q (⟨none,.store t x y,ty,ps,af,g⟩::rest) D L C:=by
 obtain ⟨AA,J,K⟩:=Ei h
 simp only [cW] at hk
 obtain ⟨⟨A,B⟩,F⟩:=hk
 have H:=Nat.eq_of_beq_eq_true A
 have G:=Nat.eq_of_beq_eq_true F
 exact jx i AA J K ht U H B hC (by rw [Nat.zero_add,G]; exact Nat.ble_self_eq_true _) (by rw [Nat.zero_add,G,List.take_zero,List.drop_length]; show []++cs'++[]=cs'; simp) hC' k
theorem U1 {t n b tt:Nat} {x y:Operand} {v u:Value} {C':List aw} (i:Nat) (h:sF ops L g x y=some (.pointer (some ⟨b,0,none⟩),v)) (ht:(tK E.P t).map (·.2)=some n) (hC:C[i]? =some (cm b tt [u]))
 (hv:v.cells.toList=[v]) (hk:(Nat.beq n 1&&v.oneCell')=true) (hC':C.set i (cm b tt [v])=C') (k:RJ E ops Q rest D L C'):
 RJ E ops Q (⟨none,.store t x y,ty,ps,af,g⟩::rest) D L C:=by
 obtain ⟨G,H,AA⟩:=Ei h
 rw [cW] at hk
 obtain ⟨A,B⟩:=hk
 have F:=Nat.eq_of_beq_eq_true A
 subst F
 exact jx i G H AA ht hv U (by simp [B]) hC U U hC' k
theorem fW {t n b tt:Nat} {x y:Operand} {cs cs':List Value} (h:sF ops L g x y=some (.pointer (some ⟨b,0,none⟩),.agg cs'.toArray)) (ht:(tK E.P t).map (·.2)=some n) (hk:(Nat.beq cs'.length n&&cs'.all Value.oneCell'&&Nat.beq n cs.length)=true) (k:RJ E ops Q rest D L (cm b tt cs'::C)):RJ E ops Q (⟨none,.store t x y,ty,ps,af,g⟩::rest) D L (cm b tt cs::C):=OJ 0 h ht rfl hk rfl k
theorem HA {t n b tt:Nat} {x y:Operand} {v u:Value} (h:sF ops L g x y=some (.pointer (some ⟨b,0,none⟩),v)) (ht:(tK E.P t).map (·.2)=some n) (hv:v.cells.toList=[v]) (hk:(Nat.beq n 1&&v.oneCell')=true) (k:RJ E ops Q rest D L (cm b tt [v]::C)):RJ E ops Q (⟨none,.store t x y,ty,ps,af,g⟩::rest) D L (cm b tt [u]::C):=U1 0 h ht rfl hv hk rfl k
theorem sj {t n b tt:Nat} {x y:Operand} {cs cs':List Value} {A0:aw} (h:sF ops L g x y=some (.pointer (some ⟨b,0,none⟩),.agg cs'.toArray)) (ht:(tK E.P t).map (·.2)=some n) (hk:(Nat.beq cs'.length n&&cs'.all Value.oneCell'&&Nat.beq n cs.length)=true) (k:RJ E ops Q rest D L (A0::cm b tt cs'::C)):RJ E ops Q (⟨none,.store t x y,ty,ps,af,g⟩::rest) D L (A0::cm b tt cs::C):=OJ 1 h ht rfl hk rfl k
theorem Gx {t n b tt:Nat} {x y:Operand} {cs cs':List Value} {A0 A1:aw} (h:sF ops L g x y=some (.pointer (some ⟨b,0,none⟩),.agg cs'.toArray)) (ht:(tK E.P t).map (·.2)=some n) (hk:(Nat.beq cs'.length n&&cs'.all Value.oneCell'&&Nat.beq n cs.length)=true) (k:RJ E ops Q rest D L (A0::A1::cm b tt cs'::C)):RJ E ops Q (⟨none,.store t x y,ty,ps,af,g⟩::rest) D L (A0::A1::cm b tt cs::C):=OJ 2 h ht rfl hk rfl k
theorem Vi (cs':List Value) {t n b o tt:Nat} {x y:Operand} {v:Value} {cs:List Value} {A0 A1:aw} (h:sF ops L g x y=some (.pointer (some ⟨b,o,none⟩),v)) (ht:(tK E.P t).map (·.2)=some n) (hk:(v.cells.toList.length==n&&v.cells.toList.all Value.oneCell'&&Nat.ble (o+n) cs.length)=true) (hcs:cs.take o++v.cells.toList++cs.drop (o+n)=cs') (k:RJ E ops Q rest D L (A0::A1::cm b tt cs'::C)):RJ E ops Q (⟨none,.store t x y,ty,ps,af,g⟩::rest) D L (A0::A1::cm b tt cs::C):=Pg 2 h ht rfl hk hcs rfl k
theorem UP {t n b tt:Nat} {x y:Operand} {cs cs':List Value} {A0 A1 A2:aw} (h:sF ops L g x y=some (.pointer (some ⟨b,0,none⟩),.agg cs'.toArray)) (ht:(tK E.P t).map (·.2)=some n) (hk:(Nat.beq cs'.length n&&cs'.all Value.oneCell'&&Nat.beq n cs.length)=true) (k:RJ E ops Q rest D L (A0::A1::A2::cm b tt cs'::C)):RJ E ops Q (⟨none,.store t x y,ty,ps,af,g⟩::rest) D L (A0::A1::A2::cm b tt cs::C):=OJ 3 h ht rfl hk rfl k
theorem UY {t n b tt:Nat} {x y:Operand} {v u:Value} {A0 A1 A2:aw} (h:sF ops L g x y=some (.pointer (some ⟨b,0,none⟩),v)) (ht:(tK E.P t).map (·.2)=some n) (hv:v.cells.toList=[v]) (hk:(Nat.beq n 1&&v.oneCell')=true) (k:RJ E ops Q rest D L (A0::A1::A2::cm b tt [v]::C)):RJ E ops Q (⟨none,.store t x y,ty,ps,af,g⟩::rest) D L (A0::A1::A2::cm b tt [u]::C):=U1 3 h ht rfl hv hk rfl k
theorem RC (cs':List Value) {t n b o tt:Nat} {x y:Operand} {v:Value} {cs:List Value} {A0 A1 A2:aw} (h:sF ops L g x y=some (.pointer (some ⟨b,o,none⟩),v)) (ht:(tK E.P t).map (·.2)=some n) (hk:(v.cells.toList.length==n&&v.cells.toList.all Value.oneCell'&&Nat.ble (o+n) cs.length)=true) (hcs:cs.take o++v.cells.toList++cs.drop (o+n)=cs') (k:RJ E ops Q rest D L (A0::A1::A2::cm b tt cs'::C)):RJ E ops Q (⟨none,.store t x y,ty,ps,af,g⟩::rest) D L (A0::A1::A2::cm b tt cs::C):=Pg 3 h ht rfl hk hcs rfl k
theorem Pw {t n b tt:Nat} {x y:Operand} {cs cs':List Value} {A0 A1 A2 A3:aw} (h:sF ops L g x y=some (.pointer (some ⟨b,0,none⟩),.agg cs'.toArray)) (ht:(tK E.P t).map (·.2)=some n) (hk:(Nat.beq cs'.length n&&cs'.all Value.oneCell'&&Nat.beq n cs.length)=true) (k:RJ E ops Q rest D L (A0::A1::A2::A3::cm b tt cs'::C)):RJ E ops Q (⟨none,.store t x y,ty,ps,af,g⟩::rest) D L (A0::A1::A2::A3::cm b tt cs::C):=OJ 4 h ht rfl hk rfl k
theorem U4 (cs':List Value) {t n b o tt:Nat} {x y:Operand} {v:Value} {cs:List Value} {A0 A1 A2 A3:aw} (h:sF ops L g x y=some (.pointer (some ⟨b,o,none⟩),v)) (ht:(tK E.P t).map (·.2)=some n) (hk:(v.cells.toList.length==n&&v.cells.toList.all Value.oneCell'&&Nat.ble (o+n) cs.length)=true) (hcs:cs.take o++v.cells.toList++cs.drop (o+n)=cs') (k:RJ E ops Q rest D L (A0::A1::A2::A3::cm b tt cs'::C)):RJ E ops Q (⟨none,.store t x y,ty,ps,af,g⟩::rest) D L (A0::A1::A2::A3::cm b tt cs::C):=Pg 4 h ht rfl hk hcs rfl k
theorem IM {t n b tt:Nat} {x y:Operand} {cs cs':List Value} {A0 A1 A2 A3 A4:aw} (h:sF ops L g x y=some (.pointer (some ⟨b,0,none⟩),.agg cs'.toArray)) (ht:(tK E.P t).map (·.2)=some n) (hk:(Nat.beq cs'.length n&&cs'.all Value.oneCell'&&Nat.beq n cs.length)=true) (k:RJ E ops Q rest D L (A0::A1::A2::A3::A4::cm b tt cs'::C)):RJ E ops Q (⟨none,.store t x y,ty,ps,af,g⟩::rest) D L (A0::A1::A2::A3::A4::cm b tt cs::C):=OJ 5 h ht rfl hk rfl k
theorem Wm (cs':List Value) {t n b o tt:Nat} {x y:Operand} {v:Value} {cs:List Value} {A0 A1 A2 A3 A4:aw} (h:sF ops L g x y=some (.pointer (some ⟨b,o,none⟩),v)) (ht:(tK E.P t).map (·.2)=some n) (hk:(v.cells.toList.length==n&&v.cells.toList.all Value.oneCell'&&Nat.ble (o+n) cs.length)=true) (hcs:cs.take o++v.cells.toList++cs.drop (o+n)=cs') (k:RJ E ops Q rest D L (A0::A1::A2::A3::A4::cm b tt cs'::C)):RJ E ops Q (⟨none,.store t x y,ty,ps,af,g⟩::rest) D L (A0::A1::A2::A3::A4::cm b tt cs::C):=Pg 5 h ht rfl hk hcs rfl k
theorem Nd {t n b tt:Nat} {x y:Operand} {cs cs':List Value} {A0 A1 A2 A3 A4 A5:aw} (h:sF ops L g x y=some (.pointer (some ⟨b,0,none⟩),.agg cs'.toArray)) (ht:(tK E.P t).map (·.2)=some n) (hk:(Nat.beq cs'.length n&&cs'.all Value.oneCell'&&Nat.beq n cs.length)=true) (k:RJ E ops Q rest D L (A0::A1::A2::A3::A4::A5::cm b tt cs'::C)):RJ E ops Q (⟨none,.store t x y,ty,ps,af,g⟩::rest) D L (A0::A1::A2::A3::A4::A5::cm b tt cs::C):=OJ 6 h ht rfl hk rfl k
theorem Wl {t n b tt:Nat} {x y:Operand} {v u:Value} {A0 A1 A2 A3 A4 A5:aw} (h:sF ops L g x y=some (.pointer (some ⟨b,0,none⟩),v)) (ht:(tK E.P t).map (·.2)=some n) (hv:v.cells.toList=[v]) (hk:(Nat.beq n 1&&v.oneCell')=true) (k:RJ E ops Q rest D L (A0::A1::A2::A3::A4::A5::cm b tt [v]::C)):RJ E ops Q (⟨none,.store t x y,ty,ps,af,g⟩::rest) D L (A0::A1::A2::A3::A4::A5::cm b tt [u]::C):=U1 6 h ht rfl hv hk rfl k
theorem UN (cs':List Value) {t n b o tt:Nat} {x y:Operand} {v:Value} {cs:List Value} {A0 A1 A2 A3 A4 A5:aw} (h:sF ops L g x y=some (.pointer (some ⟨b,o,none⟩),v)) (ht:(tK E.P t).map (·.2)=some n) (hk:(v.cells.toList.length==n&&v.cells.toList.all Value.oneCell'&&Nat.ble (o+n) cs.length)=true) (hcs:cs.take o++v.cells.toList++cs.drop (o+n)=cs') (k:RJ E ops Q rest D L (A0::A1::A2::A3::A4::A5::cm b tt cs'::C)):RJ E ops Q (⟨none,.store t x y,ty,ps,af,g⟩::rest) D L (A0::A1::A2::A3::A4::A5::cm b tt cs::C):=Pg 6 h ht rfl hk hcs rfl k
theorem Wi (cs':List Value) {t n b o tt:Nat} {x y:Operand} {v:Value} {cs:List Value} {A0 A1 A2 A3 A4 A5 A6:aw} (h:sF ops L g x y=some (.pointer (some ⟨b,o,none⟩),v)) (ht:(tK E.P t).map (·.2)=some n) (hk:(v.cells.toList.length==n&&v.cells.toList.all Value.oneCell'&&Nat.ble (o+n) cs.length)=true) (hcs:cs.take o++v.cells.toList++cs.drop (o+n)=cs') (k:RJ E ops Q rest D L (A0::A1::A2::A3::A4::A5::A6::cm b tt cs'::C)):RJ E ops Q (⟨none,.store t x y,ty,ps,af,g⟩::rest) D L (A0::A1::A2::A3::A4::A5::A6::cm b tt cs::C):=Pg 7 h ht rfl hk hcs rfl k
theorem Wh {t n b tt:Nat} {x y:Operand} {cs cs':List Value} {A0 A1 A2 A3 A4 A5 A6 A7:aw} (h:sF ops L g x y=some (.pointer (some ⟨b,0,none⟩),.agg cs'.toArray)) (ht:(tK E.P t).map (·.2)=some n) (hk:(Nat.beq cs'.length n&&cs'.all Value.oneCell'&&Nat.beq n cs.length)=true) (k:RJ E ops Q rest D L (A0::A1::A2::A3::A4::A5::A6::A7::cm b tt cs'::C)):RJ E ops Q (⟨none,.store t x y,ty,ps,af,g⟩::rest) D L (A0::A1::A2::A3::A4::A5::A6::A7::cm b tt cs::C):=OJ 8 h ht rfl hk rfl k
theorem Wj (cs':List Value) {t n b o tt:Nat} {x y:Operand} {v:Value} {cs:List Value} {A0 A1 A2 A3 A4 A5 A6 A7:aw} (h:sF ops L g x y=some (.pointer (some ⟨b,o,none⟩),v)) (ht:(tK E.P t).map (·.2)=some n) (hk:(v.cells.toList.length==n&&v.cells.toList.all Value.oneCell'&&Nat.ble (o+n) cs.length)=true) (hcs:cs.take o++v.cells.toList++cs.drop (o+n)=cs') (k:RJ E ops Q rest D L (A0::A1::A2::A3::A4::A5::A6::A7::cm b tt cs'::C)):RJ E ops Q (⟨none,.store t x y,ty,ps,af,g⟩::rest) D L (A0::A1::A2::A3::A4::A5::A6::A7::cm b tt cs::C):=Pg 8 h ht rfl hk hcs rfl k
theorem VA (cs':List Value) {t n b o tt:Nat} {x y:Operand} {v:Value} {cs:List Value} {A0 A1 A2 A3 A4 A5 A6 A7 A8 A9:aw} (h:sF ops L g x y=some (.pointer (some ⟨b,o,none⟩),v)) (ht:(tK E.P t).map (·.2)=some n) (hk:(v.cells.toList.length==n&&v.cells.toList.all Value.oneCell'&&Nat.ble (o+n) cs.length)=true) (hcs:cs.take o++v.cells.toList++cs.drop (o+n)=cs') (k:RJ E ops Q rest D L (A0::A1::A2::A3::A4::A5::A6::A7::A8::A9::cm b tt cs'::C)):RJ E ops Q (⟨none,.store t x y,ty,ps,af,g⟩::rest) D L (A0::A1::A2::A3::A4::A5::A6::A7::A8::A9::cm b tt cs::C):=Pg 10 h ht rfl hk hcs rfl k
theorem Vm {t n b tt:Nat} {x y:Operand} {cs cs':List Value} {A0 A1 A2 A3 A4 A5 A6 A7 A8 A9 A10:aw} (h:sF ops L g x y=some (.pointer (some ⟨b,0,none⟩),.agg cs'.toArray)) (ht:(tK E.P t).map (·.2)=some n) (hk:(Nat.beq cs'.length n&&cs'.all Value.oneCell'&&Nat.beq n cs.length)=true) (k:RJ E ops Q rest D L (A0::A1::A2::A3::A4::A5::A6::A7::A8::A9::A10::cm b tt cs'::C)):RJ E ops Q (⟨none,.store t x y,ty,ps,af,g⟩::rest) D L (A0::A1::A2::A3::A4::A5::A6::A7::A8::A9::A10::cm b tt cs::C):=OJ 11 h ht rfl hk rfl k
end
section
variable {E:fq} {y:Code} {Q:dk} {D:List Deferred} {L:List (Nat×Value)} {C:List aw}
theorem WS {id:Nat} {ops:Array Oper} (h: ∀ K:Act→World→Prop,(∀ D L C,WJ E y Q D L C→KJ E K D L C)→RJ E ops (Exit.then K Q) ops.toList D L C):WJ E (.seq (.region id ops false) y) Q D L C:=aj fun K hK=>al (h K hK)
theorem RK {ops:Array Oper} {K:Act→World→Prop} {Q':dk} (hK: ∀ D L C,WJ E y Q D L C→KJ E K D L C) (k:WJ E y Q D L C):RJ E ops (Exit.then K Q') [] D L C:=aD (aR (hK _ _ _ k))
theorem KK {K:Act→World→Prop} {Q':dk} (hK: ∀ D L C,WJ E y Q D L C→KJ E K D L C) (k:WJ E y Q D L C):KJ E (Exit.then K Q' .normal) D L C:=aR (hK _ _ _ k)
theorem WK {K:Act→World→Prop} {Q':dk} (hK: ∀ D L C,WJ E y Q D L C→KJ E K D L C) (k:WJ E y Q D L C):WJ E .skip (Exit.then K Q') D L C:=ck (aR (hK _ _ _ k))
end
theorem DT {p:Prop} [Decidable p] (h:decide p=true):p:=of_decide_eq_true h
theorem DF {p:Prop} [Decidable p] (h:decide p=false): ¬ p:=of_decide_eq_false h
theorem XT {p:Prop} [Decidable p] (h:(!decide p)=true): ¬ p:=by simpa using h
theorem XF {p:Prop} [Decidable p] (h:(!decide p)=false):p:=by simpa using h
/-- what a function hands back: one result, two, three, that lie in slots -/
theorem Q1 {E:fq} {fn:Func} {K:Act→World→Prop} {L:dw} {C:List aw} {t:Nat} {u v:Value} (hQ: ∀ D L C,LJ E fn (Ca E.w0 v) D L C→KJ E K D L C) (hS:E.S=uG) (hr:fn.results.toList=[.tmp t]) (hl:L.lookup t=some u) (e:u=v):KJ E K [] L C:=
 hQ _ _ _ (ic (vs:=[u]) (by rw [hr]; exact ⟨hl,trivial⟩) fun w hs=>Fe e (by rw [hS] at hs; exact hs))
theorem Q2 {E:fq} {fn:Func} {K:Act→World→Prop} {L:dw} {C:List aw} {t s:Nat} {u x v:Value} (hQ: ∀ D L C,LJ E fn (Ca E.w0 v) D L C→KJ E K D L C) (hS:E.S=uG) (hr:fn.results.toList=[.tmp t,.tmp s]) (hl:L.lookup t=some u) (hm:L.lookup s=some x) (e:vT [u,x]=v):KJ E K [] L C:=
 hQ _ _ _ (ic (vs:=[u,x]) (by rw [hr]; exact ⟨hl,hm,trivial⟩) fun w hs=>Fe e (by rw [hS] at hs; exact hs))
theorem N1 {E:fq} {ops:Array Oper} {D:g3} {C' C1:List aw} {F:dw→List aw→Prop} {tb rem:List Nat} {n:Nat} {L:dw} {C:List aw} (i:Nat)
 (h:DE E ops D C' C1 F tb n (rem.filter (· != i)) i L C) (hm:rem.filter (fun i=>rem.all fun j=> !iL (qu ops) j i)=[i]:=by kernel_rfl):TN E ops D C' C1 F tb (n+1) rem L C:=iJ [i] hm (ek h j_)
theorem NO {E:fq} {ops:Array Oper} {D:g3} {C' C1:List aw} {F:dw→List aw→Prop} {tb rem:List Nat} {n i:Nat} {L:dw} {C:List aw} {o:Oper} (ho:ops[i]? =some o) (ht:tb.contains i=false) (rem':List Nat)
 (h: ∀ K:Act→World→Prop,(∀ L' C'',(∀ w,St E.S E.w0 C'' w→St E.S E.w0 C' w)→TN E ops D C' C1 F tb n rem' L' C''→KJ E K D L' C'')→RJ E ops (NQ K) [o] D L C) (hr:rem=rem':=by kernel_rfl):DE E ops D C' C1 F tb n rem i L C:=hZ ho hr ht h
theorem RD {E:fq} {ops:Array Oper} {K:Act→World→Prop} {D:g3} {L:dw} {C C':List aw} {X:dw→List aw→Prop} (hT: ∀ L' C'',(∀ w,St E.S E.w0 C'' w→St E.S E.w0 C' w)→X L' C''→KJ E K D L' C'')
 (k:Nat) (h2:C.drop k=C') (h:X L C):RJ E ops (NQ K) [] D L C:=aD (hT _ _ (fun w hs=>h2▸hs.take (List.drop_sublist k C)) h)
theorem aT {L L':dw} (h:L'.map (fun p=>L.lookup p.1)=L'.map (fun p=>some p.2)):dj L L':=by
 induction L' with
 |nil=>exact dj.nil _
 |cons p t ih=>
  simp only [List.map_cons,List.cons.injEq] at h
  exact dj.cons h.1 (ih h.2)
theorem NC {C:List aw} {A A' B B' D D':aw} (i j k:Nat) (h1:C[i]? =some A') (e1:A'.holds=A.holds) (h2:C[j]? =some B') (e2:B'.holds=B.holds) (h3:C[k]? =some D') (e3:D'.holds=D.holds):kz C [A,B,D]:=fM i h1 e1 (fM j h2 e2 (fM k h3 e3 aM))
theorem bO {E:fq} {c:Operand} {x y:Code} {b:Bool} {Q:dk} {D:List Deferred} {L:List (Nat×Value)} {C:List aw} (hc:ev L c=some (.bool b)) (h2:b=false→WJ E y Q D L C) (h1:b=true→WJ E x Q D L C):WJ E (.cond c x y) Q D L C:=cE hc h1 h2
theorem cj {E:fq} {ops:Array Oper} {Q:dk} {rest:List Oper} {D:List Deferred} {L:List (Nat×Value)} {C:List aw} {t:Nat} {b:Bool} (h:L.lookup t=some (.bool b)) (h2:b=false→RJ E ops Q rest D ((t,.bool false)::L) C) (h1:b=true→RJ E ops Q rest D ((t,.bool true)::L) C):RJ E ops Q rest D L C:=cH h h1 h2
theorem jA {E:fq} {ops:Array Oper} {Q:dk} {rest:List Oper} {D:List Deferred} {L:List (Nat×Value)} {C:List aw} {t:Nat} {b:Bool} {os:List Oper} (h:L.lookup t=some (.bool b)) (h2:b=false→DJ E ops D C (fun L2=>RJ E ops Q rest D L2 C) os ((t,.bool false)::L)) (h1:b=true→DJ E ops D C (fun L2=>RJ E ops Q rest D L2 C) os ((t,.bool true)::L)):DJ E ops D C (fun L2=>RJ E ops Q rest D L2 C) os L:=jh h h1 h2
theorem cR {L:List (Nat×Value)}: ∀ (k:Nat) {L2:List (Nat×Value)} (q:dj L (L2.drop k)) (h:(L2.take k).map (fun p=>L.lookup p.1)=(L2.take k).map (fun p=>some p.2):=by rfl),dj L L2
 |0,_,q,_=>q
 |_+1,[],_,_=>dj.nil _
 |k+1,p::L2,q,h=>by
  obtain ⟨A,B⟩:=List.cons.inj (show L.lookup p.1::(L2.take k).map (fun p=>L.lookup p.1)=some p.2::(L2.take k).map (fun p=>some p.2) from h)
  exact dj.cons (t:=p.1) (v:=p.2) A (cR k q B)
theorem oX {E:fq} {ops:Array Oper} {Q:dk} {rest:List Oper} {D:List Deferred} {L:List (Nat×Value)} {C:List aw} {d:Nat} {ty:TypeId} {ps:String} {af:Array Edge} {g:Option (Nat×Bool)} {op:Op} (k:RJ E ops Q rest D ((d,undef)::L) C) (h:(DP ops L g&&Nat.blt d E.n)=true:=by rfl):RJ E ops Q (⟨some d,op,ty,ps,af,g⟩::rest) D L C:=rS (OX h) k
theorem dX {E:fq} {ops:Array Oper} {F:List (Nat×Value)→Prop} {rest:List Oper} {D:List Deferred} {L:List (Nat×Value)} {C:List aw} {d:Nat} {ty:TypeId} {ps:String} {af:Array Edge} {g:Option (Nat×Bool)} {op:Op} (k:DJ E ops D C F rest ((d,undef)::L)) (h:(DP ops L g&&Nat.blt d E.n)=true:=by rfl):DJ E ops D C F (⟨some d,op,ty,ps,af,g⟩::rest) L:=dS (OX h) k
end
section
open Go.RowKit
/-- what of a slice is left from k on -/
def Ar (A:OA) (c k sz:Nat):OA:=if c=k then A else A.map (·.add (k*sz))
section
variable {E:fq} {ops:Array Oper} {Q:dk} {rest:List Oper} {D:List Deferred} {L:List (Nat×Value)} {C:List aw}
variable {d:Nat} {ty:TypeId} {ps:String} {af:Array Edge} {g:Option (Nat×Bool)}
theorem GU {P:Program} {t e sz:Nat} (h:tE P t=some (e,sz)) (w:World):P.underlying t=some (.slice e)∧(sizeOf e).run P w= .ok sz w:=by
 unfold tE at h
 split at h
 ·rename_i e' hu
  split at h
  ·rename_i i hi
   cases h
   exact ⟨hu,by simp [sizeOf,typeInfo,hi]⟩
  ·cases h
 ·cases h
theorem wR {P:Program} {t e:Nat} (h:P.underlying t=some (.slice e)):P.underlying t=some (.slice (P.elem t)):=by
 rw [h]; simp [Program.elem,h]
theorem GO {P:Program} {t e:Nat} (h:P.underlying t=some (.slice e)):P.elem t=e:=by simp [Program.elem,h]
/-- s[k:] -/
theorem V9 (k:Nat) {x lo:Operand} {t e sz n c:Nat} {A:OA} {j:Int} (h:bF E.n ops L d g x lo=some (.slice A n c,.int .i64 j)) (ht:tE E.P t=some (e,sz)) (hj:j=(k:Int)) (hk:k≤n):
 SE E ops ⟨some d,.slice t x (some lo) none none,ty,ps,af,g⟩ D L C (.slice (Ar A c k sz) (n-k) (c-k)) d:=by
 obtain ⟨G,H,AA,J⟩:=qN h
 subst hj
 refine ⟨dW G sm fun a w B hs=>?_,U,H⟩
 obtain ⟨hu,hz⟩:=GU ht w
 have hr:=run_slice_l (P:=E.P) w t A n c (wR hu) .i64 (k:Int) I I
 rw [GO hu,hz] at hr
 simp only [Result.andThen,Int.toNat_natCast,sliced] at hr
 have F:=run_sliceAt_slice (P:=E.P) w t (.slice A n c) (some (.int .i64 (k:Int))) none none (wR hu)
 simp [execOp,B.ev AA,B.ev J,F,hr,Ar]
/-- s[:k] -/
theorem Vl (k:Nat) {x hi:Operand} {t e sz n c:Nat} {A:OA} {j:Int} (h:bF E.n ops L d g x hi=some (.slice A n c,.int .i64 j)) (ht:tE E.P t=some (e,sz)) (hj:j=(k:Int)) (hk:k≤c):
 SE E ops ⟨some d,.slice t x none (some hi) none,ty,ps,af,g⟩ D L C (.slice A k c) d:=by
 obtain ⟨H,AA,J,K⟩:=qN h
 subst hj
 refine ⟨dW H sm fun a w B hs=>?_,U,AA⟩
 obtain ⟨hu,hz⟩:=GU ht w
 have hr:=run_slice_h (P:=E.P) w t A n c (wR hu) .i64 (k:Int) I I
 rw [GO hu,hz] at hr
 have G:(if c=0 then A else A.map (·.add (0*sz)))=A:=by
  split
  ·rfl
  ·cases A with
   |none=>rfl
   |some ad=>simp [Addr.add]
 simp only [Result.andThen,Int.toNat_natCast,sliced,G,Nat.sub_zero] at hr
 have F:=run_sliceAt_slice (P:=E.P) w t (.slice A n c) none (some (.int .i64 (k:Int))) none (wR hu)
 simp [execOp,B.ev J,B.ev K,F,hr]
/-- an element of a row whose place is known -/
theorem Wd (k:Nat) {x ix:Operand} {A:OA} {ad:Addr} {n c sz e t:Nat} {j:Int} (h:bF E.n ops L d g x ix=some (.slice A n c,.int .i64 j)) (hA:A=some ad) (ht:tE E.P t=some (e,sz)) (hj:j=(k:Int)) (hk:k<n):
 SE E ops ⟨some d,.indexAddr t x ix,ty,ps,af,g⟩ D L C (.pointer (ml A (k*sz))) d:=by
 obtain ⟨F,G,H,AA⟩:=qN h
 refine ⟨dW F sm fun a w B hs=>?_,U,G⟩
 subst hA hj
 simp [execOp,B.ev H,B.ev AA,ml,qU ht hk]
end
theorem Be {w:World} {a:OA} {c e sz:Nat} {es:List (List Value)} (h:(own a c e sz es).holds w):es.length≤c:=by
 rcases h.2.2 with ⟨A,B⟩|⟨g,cap,cur,hv,_,_,C,_⟩
 ·omega
 ·injection hv with _ _ hc; omega
end
section
open Go.RowKit
/-- an array's length, its elements' type and their size -/
def aE (P:Program) (t:TypeId):Option (Nat×TypeId×Nat):=
 match P.underlying t with
 |some (.array n e)=>match P.info? e with
  |some i=>some (n,e,i.size)
  |none=>none
 |_=>none
theorem FF {P:Program} {t n e sz:Nat} (h:aE P t=some (n,e,sz)) (w:World):P.underlying t=some (.array n e)∧(sizeOf e).run P w= .ok sz w:=by
 unfold aE at h
 split at h
 ·rename_i n' e' hu
  split at h
  ·rename_i i hi
   cases h
   exact ⟨hu,by simp [sizeOf,typeInfo,hi]⟩
  ·cases h
 ·cases h
theorem wo {P:Program} {t n e sz:Nat} (h:aE P t=some (n,e,sz)) (a:Addr) (w:World):
 (Instr.sliceAt t (.pointer (some a)) none none none).run P w= .ok (.slice (some a) n n) w:=by
 obtain ⟨hu,hz⟩:=FF h w
 have A:a.add 0=a:=by simp [Addr.add]
 simp [Instr.sliceAt,underlying,hu,Instr.sureAddr,Instr.sliceBounds,hz,A]
theorem wq {P:Program} {t n e sz:Nat} (h:aE P t=some (n,e,sz)) (a:Addr) {k:Nat} (hk:k<n) (w:World):
 (Instr.indexAt t (.pointer (some a)) (.int .i64 (k:Int))).run P w= .ok (.pointer (some (a.add (k*sz)))) w:=by
 obtain ⟨hu,hz⟩:=FF h w
 have A: ¬ n≤k:=by omega
 simp [Instr.indexAt,underlying,hu,Instr.sureAddr,asIntOf,hz,A]
 try exact fun h=>absurd h A
 try omega
section
variable {E:fq} {ops:Array Oper} {Q:dk} {rest:List Oper} {D:List Deferred} {L:List (Nat×Value)} {C:List aw}
variable {dst:Option Nat} {ty:TypeId} {ps:String} {af:Array Edge} {g:Option (Nat×Bool)}
theorem D8 {x:Operand} {a:Addr} {t n e sz:Nat} (hg:jM ops L g=true) (hx:ev L x=some (.pointer (some a))) (ht:aE E.P t=some (n,e,sz)):
 SD E ops ⟨dst,.slice t x none none none,ty,ps,af,g⟩ D L C (.slice (some a) n n):=
 dW hg sm fun b w A hs=>by
  simp [execOp,A.ev hx,wo ht]
theorem EP {x ix:Operand} {a:Addr} {t n e sz k:Nat} {j:Int} (hg:jM ops L g=true) (hx:ev L x=some (.pointer (some a))) (hi:ev L ix=some (.int .i64 j)) (ht:aE E.P t=some (n,e,sz)) (hj:j=(k:Int)) (hk:k<n):
 SD E ops ⟨dst,.indexAddr t x ix,ty,ps,af,g⟩ D L C (.pointer (ml (some a) (k*sz))):=
 dW hg sm fun b w A hs=>by
  subst hj
  simp [execOp,A.ev hx,A.ev hi,ml,wq ht a hk]
end
end
section
open Go.RowKit
/-- a table of facts on the program's types -/
structure DX where
 tk:List (Nat×Bool×Nat)
 fo:List (Nat×List (Option Nat))
 sl:List Nat
def RT {α:Type}:List (Nat×α)→Nat→Option α
 |[],_=>none
 |(k,v)::l,t=>match Nat.beq k t with
  |true=>some v
  |false=>RT l t
theorem AJ {α:Type}: ∀ {l:List (Nat×α)} {t:Nat} {v:α},RT l t=some v→(t,v)∈l
 |[],t,v,h=>by simp [RT] at h
 |(k,u)::l,t,v,h=>by
  unfold RT at h
  split at h
  ·rename_i hb
   cases h
   rw [Nat.eq_of_beq_eq_true hb]; exact bZ
  ·exact c_ _ (AJ h)
def MT:List Nat→Nat→Bool
 |[],_=>false
 |k::l,t=>match Nat.beq k t with
  |true=>true
  |false=>MT l t
theorem Cl: ∀ {l:List Nat} {t:Nat},MT l t=true→t∈l
 |[],t,h=>by simp [MT] at h
 |k::l,t,h=>by
  unfold MT at h
  split at h
  ·rename_i hb
   rw [Nat.eq_of_beq_eq_true hb]; exact bZ
  ·exact c_ _ (Cl h)
def DX.Jm (T:DX) (t:Nat):Option (Bool×Nat):=RT T.tk t
def DX.foF (T:DX) (s f:Nat):Option Nat:=match RT T.fo s with
 |some l=>match l[f]? with
  |some (some k)=>some k
  |_=>none
 |none=>none
structure lG (P:Program) (T:DX):Prop where
 tk: ∀ p∈T.tk,tK P p.1=some p.2
 fo: ∀ p∈T.fo,∀ f k,p.2[f]? =some (some k)→rD P p.1 f=some k
 sl: ∀ t∈T.sl,∃ e,P.underlying t=some (.slice e)
theorem lG.Jm {P:Program} {T:DX} (h:lG P T) {t:Nat} {r:Bool×Nat} (e:T.Jm t=some r):tK P t=some r:=h.tk _ (AJ e)
theorem lG.foF {P:Program} {T:DX} (h:lG P T) {s f k:Nat} (e:T.foF s f=some k):rD P s f=some k:=by
 unfold DX.foF at e
 split at e
 ·rename_i l hl
  split at e
  ·rename_i k' hk
   cases e
   exact h.fo _ (AJ hl) f k hk
  ·cases e
 ·cases e
def UG (P:Program) (T:DX):Bool:=(T.tk.all fun p=>decide (tK P p.1=some p.2))&&(T.fo.all fun p=>(List.range p.2.length).all fun f=>match p.2[f]? with
 |some (some k)=>decide (rD P p.1 f=some k)
 |_=>true)&&T.sl.all fun t=>match P.underlying t with
 |some (.slice _)=>true
 |_=>false
theorem QG {P:Program} {T:DX} (h:UG P T=true):lG P T:=by
 unfold UG at h
 rw [cW,cW] at h
 obtain ⟨⟨B,C⟩,D⟩:=h
 refine ⟨fun p hp=>by simpa using cZ.1 B p hp,fun p hp f k hk=>?_,fun t ht=>?_⟩
 ·have A:=cZ.1 (cZ.1 C p hp) f (List.mem_range.2 (aX.1 hk).1)
  rw [hk] at A
  simpa using A
 ·have A:=cZ.1 D t ht
  split at A
  ·rename_i e he; exact ⟨e,he⟩
  ·cases A
end
section
theorem xe:tK Tryz.prog 3=some (false,1):=by kernel_rfl
theorem Wc:tK Tryz.prog 4=some (false,1):=by kernel_rfl
theorem V8:tK Tryz.prog 5=some (false,1):=by kernel_rfl
theorem V2:tK Tryz.prog 25=some (false,1):=by kernel_rfl
theorem TF:tK Tryz.prog 27=some (true,1):=by kernel_rfl
theorem QP:tK Tryz.prog 28=some (false,1):=by kernel_rfl
theorem UW:tK Tryz.prog 29=some (false,1):=by kernel_rfl
theorem Vo:tK Tryz.prog 31=some (true,7):=by kernel_rfl
theorem VK:tK Tryz.prog 32=some (false,1):=by kernel_rfl
theorem U8:tK Tryz.prog 33=some (false,1):=by kernel_rfl
theorem Sr:tK Tryz.prog 35=some (true,11):=by kernel_rfl
theorem xZ:tK Tryz.prog 40=some (true,2):=by kernel_rfl
theorem VW:tK Tryz.prog 41=some (false,1):=by kernel_rfl
theorem UX:tK Tryz.prog 43=some (true,3):=by kernel_rfl
theorem Vh:tK Tryz.prog 45=some (true,7):=by kernel_rfl
theorem QX:tK Tryz.prog 46=some (false,1):=by kernel_rfl
theorem U5:tK Tryz.prog 64=some (false,1):=by kernel_rfl
theorem Vy:tK Tryz.prog 67=some (false,1):=by kernel_rfl
theorem VT:tK Tryz.prog 81=some (false,1):=by kernel_rfl
theorem VF:tK Tryz.prog 82=some (false,1):=by kernel_rfl
theorem Vu:tK Tryz.prog 89=some (false,1):=by kernel_rfl
theorem ML:tK Tryz.prog 111=some (true,3):=by kernel_rfl
theorem Sx:tK Tryz.prog 114=some (true,9):=by kernel_rfl
theorem RY:tK Tryz.prog 116=some (true,3):=by kernel_rfl
theorem Pc:tK Tryz.prog 117=some (false,1):=by kernel_rfl
theorem UE:tK Tryz.prog 119=some (true,2):=by kernel_rfl
theorem Sd:tK Tryz.prog 123=some (true,2):=by kernel_rfl
theorem UC:tK Tryz.prog 144=some (true,1):=by kernel_rfl
theorem S0:tK Tryz.prog 145=some (true,4):=by kernel_rfl
theorem SO:tK Tryz.prog 203=some (true,1):=by kernel_rfl
theorem Uz:tK Tryz.prog 236=some (false,1):=by kernel_rfl
theorem Up:tK Tryz.prog 238=some (true,3):=by kernel_rfl
theorem TC:tK Tryz.prog 272=some (false,1):=by kernel_rfl
theorem Ty:tK Tryz.prog 278=some (false,1):=by kernel_rfl
theorem Ua:tK Tryz.prog 280=some (true,2):=by kernel_rfl
theorem DM:(tK Tryz.prog 3).map (·.2)=some 1:=by rw [xe]; rfl
theorem Vr:(tK Tryz.prog 25).map (·.2)=some 1:=by rw [V2]; rfl
theorem Ug:(tK Tryz.prog 27).map (·.2)=some 1:=by rw [TF]; rfl
theorem Su:(tK Tryz.prog 28).map (·.2)=some 1:=by rw [QP]; rfl
theorem Uy:(tK Tryz.prog 29).map (·.2)=some 1:=by rw [UW]; rfl
theorem Rr:(tK Tryz.prog 31).map (·.2)=some 7:=by rw [Vo]; rfl
theorem xn:(tK Tryz.prog 32).map (·.2)=some 1:=by rw [VK]; rfl
theorem T3:(tK Tryz.prog 33).map (·.2)=some 1:=by rw [U8]; rfl
theorem qB:(tK Tryz.prog 35).map (·.2)=some 11:=by rw [Sr]; rfl
theorem cz:(tK Tryz.prog 40).map (·.2)=some 2:=by rw [xZ]; rfl
theorem Sc:(tK Tryz.prog 41).map (·.2)=some 1:=by rw [VW]; rfl
theorem Qh:(tK Tryz.prog 43).map (·.2)=some 3:=by rw [UX]; rfl
theorem O5:(tK Tryz.prog 45).map (·.2)=some 7:=by rw [Vh]; rfl
theorem Uv:(tK Tryz.prog 46).map (·.2)=some 1:=by rw [QX]; rfl
theorem NK:(tK Tryz.prog 64).map (·.2)=some 1:=by rw [U5]; rfl
theorem VI:(tK Tryz.prog 67).map (·.2)=some 1:=by rw [Vy]; rfl
theorem Uq:(tK Tryz.prog 81).map (·.2)=some 1:=by rw [VT]; rfl
theorem Vv:(tK Tryz.prog 82).map (·.2)=some 1:=by rw [VF]; rfl
theorem VP:(tK Tryz.prog 89).map (·.2)=some 1:=by rw [Vu]; rfl
theorem L5:(tK Tryz.prog 111).map (·.2)=some 3:=by rw [ML]; rfl
theorem JI:(tK Tryz.prog 114).map (·.2)=some 9:=by rw [Sx]; rfl
theorem tY:(tK Tryz.prog 116).map (·.2)=some 3:=by rw [RY]; rfl
theorem PX:(tK Tryz.prog 117).map (·.2)=some 1:=by rw [Pc]; rfl
theorem zo:(tK Tryz.prog 119).map (·.2)=some 2:=by rw [UE]; rfl
theorem xd:(tK Tryz.prog 123).map (·.2)=some 2:=by rw [Sd]; rfl
theorem GX:(tK Tryz.prog 144).map (·.2)=some 1:=by rw [UC]; rfl
theorem TW:(tK Tryz.prog 145).map (·.2)=some 4:=by rw [S0]; rfl
theorem LC:(tK Tryz.prog 203).map (·.2)=some 1:=by rw [SO]; rfl
theorem Sb:(tK Tryz.prog 236).map (·.2)=some 1:=by rw [Uz]; rfl
theorem Uh:(tK Tryz.prog 238).map (·.2)=some 3:=by rw [Up]; rfl
theorem zl:(tK Tryz.prog 272).map (·.2)=some 1:=by rw [TC]; rfl
theorem Mu:(tK Tryz.prog 278).map (·.2)=some 1:=by rw [Ty]; rfl
theorem sO:(tK Tryz.prog 280).map (·.2)=some 2:=by rw [Ua]; rfl
theorem zZ:aE Tryz.prog 152=some (3,151,2):=by kernel_rfl
theorem MH:rD Tryz.prog 31 2=some 2:=by kernel_rfl
theorem QM:rD Tryz.prog 45 0=some 0:=by kernel_rfl
theorem GA:rD Tryz.prog 119 1=some 1:=by kernel_rfl
theorem Va:sw Tryz.prog 40=true:=by kernel_rfl
theorem VV:sw Tryz.prog 54=true:=by kernel_rfl
theorem VC:sw Tryz.prog 69=true:=by kernel_rfl
theorem hP (l:List aa): ∀ v∈(l.map aa.cells).flatten,v.oneCell'=true:=mP (fun _=>rfl) l
theorem nS (l:List ak): ∀ v∈(l.map ak.cells).flatten,v.oneCell'=true:=mP (fun _=>rfl) l
theorem qq (l:List cd): ∀ v∈(l.map cd.cells).flatten,v.oneCell'=true:=mP (fun _=>rfl) l
theorem qv (l:List bG): ∀ v∈(l.map bG.cells).flatten,v.oneCell'=true:=mP (fun _=>rfl) l
theorem oS (l:List aJ): ∀ v∈(l.map aJ.cells).flatten,v.oneCell'=true:=mP (fun _=>rfl) l
theorem Uj:tA Tryz.prog 25=some (114,9,72,(Value.agg [(vI 0),(vI 0),(vI 0),(vI 0),(vI 0),(vI 0),(vI 0),(Value.int .u8 0),(vI 0)].toArray)):=by kernel_rfl
theorem Se:tA Tryz.prog 28=some (119,2,32,(Value.agg [(vI 0),(vS none 0 0)].toArray)):=by kernel_rfl
theorem SP:tA Tryz.prog 29=some (121,4,32,(Value.agg [(vI 0),(vI 0),(vI 0),(vI 0)].toArray)):=by kernel_rfl
theorem pq:tA Tryz.prog 32=some (3,1,8,(vI 0)):=by kernel_rfl
theorem S3:tA Tryz.prog 33=some (46,1,24,(vS none 0 0)):=by kernel_rfl
theorem Sg:tA Tryz.prog 41=some (123,2,16,(Value.agg [(vI 0),(vI 0)].toArray)):=by kernel_rfl
theorem S7:tA Tryz.prog 46=some (45,7,64,(Value.agg [(vB false),(vB false),(vI 0),(vI 0),(vI 0),(vI 0),(vS none 0 0)].toArray)):=by kernel_rfl
theorem VS:tA Tryz.prog 59=some (32,1,24,(vS none 0 0)):=by kernel_rfl
theorem Et:tA Tryz.prog 82=some (40,2,16,(Value.agg [(vI 0),(vI 0)].toArray)):=by kernel_rfl
theorem TS:tA Tryz.prog 89=some (82,1,24,(vS none 0 0)):=by kernel_rfl
theorem Ps:tA Tryz.prog 117=some (116,3,24,(Value.agg [(vI 0),(vI 0),(vI 0)].toArray)):=by kernel_rfl
theorem P0:tA Tryz.prog 227=some (241,3,72,(Value.agg [(vS none 0 0),(vS none 0 0),(vS none 0 0)].toArray)):=by kernel_rfl
theorem Sy:tA Tryz.prog 236=some (4,1,1,(vB false)):=by kernel_rfl
theorem SR:tA Tryz.prog 271=some (64,1,8,(Value.map none)):=by kernel_rfl
theorem Dj:tA Tryz.prog 272=some (278,1,8,(Value.map none)):=by kernel_rfl
theorem Sh:tB Tryz.prog 27=some ([(vS none 0 0)],[(0,1)]):=by kernel_rfl
theorem UZ:tB Tryz.prog 31=some ([(vS none 0 0),(vI 0),(vS none 0 0),(vS none 0 0),(vI 0),(vI 0),(vI 0)],[(0,1),(1,1),(2,1),(3,1),(4,1),(5,1),(6,1)]):=by kernel_rfl
theorem H0:tB Tryz.prog 35=some ([(vS none 0 0),(vI 0),(vS none 0 0),(vS none 0 0),(vI 0),(vI 0),(vI 0),(vS none 0 0),(vS none 0 0),(vI 0),(vS none 0 0)],[(0,7),(7,1),(8,1),(9,1),(10,1)]):=by kernel_rfl
theorem gG:tB Tryz.prog 40=some ([(vI 0),(vI 0)],[(0,1),(1,1)]):=by kernel_rfl
theorem Vc:tB Tryz.prog 43=some ([(vI 0),(vI 0),(vS none 0 0)],[(0,1),(1,1),(2,1)]):=by kernel_rfl
theorem O0:tB Tryz.prog 45=some ([(vB false),(vB false),(vI 0),(vI 0),(vI 0),(vI 0),(vS none 0 0)],[(0,1),(1,1),(2,2),(4,3)]):=by kernel_rfl
theorem U7:tB Tryz.prog 91=some ([(vS none 0 0),(vI 0),(vS none 0 0),(vS none 0 0),(vI 0),(vI 0),(vI 0),(vS none 0 0),(vS none 0 0),(vI 0),(vS none 0 0),(vS none 0 0),(Value.map none)],[(0,11),(11,1),(12,1)]):=by kernel_rfl
theorem Ti:tB Tryz.prog 111=some ([(vI 0),(vI 0),(vI 0)],[(0,1),(1,2)]):=by kernel_rfl
theorem TB:tB Tryz.prog 114=some ([(vI 0),(vI 0),(vI 0),(vI 0),(vI 0),(vI 0),(vI 0),(Value.int .u8 0),(vI 0)],[(0,1),(1,2),(3,2),(5,2),(7,1),(8,1)]):=by kernel_rfl
theorem Py:tB Tryz.prog 116=some ([(vI 0),(vI 0),(vI 0)],[(0,1),(1,2)]):=by kernel_rfl
theorem SM:tB Tryz.prog 119=some ([(vI 0),(vS none 0 0)],[(0,1),(1,1)]):=by kernel_rfl
theorem Mk:tB Tryz.prog 121=some ([(vI 0),(vI 0),(vI 0),(vI 0)],[(0,3),(3,1)]):=by kernel_rfl
theorem FO:tB Tryz.prog 123=some ([(vI 0),(vI 0)],[(0,1),(1,1)]):=by kernel_rfl
theorem Gl:tB Tryz.prog 144=some ([Value.nilFunc],[(0,1)]):=by kernel_rfl
theorem SQ:tB Tryz.prog 145=some ([Value.nilFunc,Value.nilFunc,Value.nilFunc,Value.nilFunc],[(0,1),(1,1),(2,1),(3,1)]):=by kernel_rfl
theorem Tk:tB Tryz.prog 166=some ([(vI 0),(vI 0)],[(0,1),(1,1)]):=by kernel_rfl
theorem SF:tB Tryz.prog 203=some ([(vS none 0 0)],[(0,1)]):=by kernel_rfl
theorem Tt:tB Tryz.prog 241=some ([(vS none 0 0),(vS none 0 0),(vS none 0 0)],[(0,1),(1,1),(2,1)]):=by kernel_rfl
theorem RV:tB Tryz.prog 274=some ([(vS none 0 0),(vI 0),(vS none 0 0),(vS none 0 0),(vI 0),(vI 0),(vI 0),(vI 0),(vI 0),(vS none 0 0),(vS none 0 0),(vS none 0 0),(vS none 0 0),(vS none 0 0)],[(0,7),(7,3),(10,1),(11,1),(12,1),(13,1)]):=by kernel_rfl
theorem Cd:tB Tryz.prog 280=some ([(vI 0),(vI 0)],[(0,1),(1,1)]):=by kernel_rfl
theorem uU:tE Tryz.prog 25=some (114,9):=by kernel_rfl
theorem uB:tE Tryz.prog 28=some (119,2):=by kernel_rfl
theorem th:tE Tryz.prog 29=some (121,4):=by kernel_rfl
theorem cN:tE Tryz.prog 32=some (3,1):=by kernel_rfl
theorem lu:tE Tryz.prog 33=some (46,1):=by kernel_rfl
theorem wv:tE Tryz.prog 41=some (123,2):=by kernel_rfl
theorem pN:tE Tryz.prog 46=some (45,7):=by kernel_rfl
theorem pV:tE Tryz.prog 59=some (32,1):=by kernel_rfl
theorem jY:tE Tryz.prog 82=some (40,2):=by kernel_rfl
theorem Od:tE Tryz.prog 89=some (82,1):=by kernel_rfl
theorem m8:tE Tryz.prog 117=some (116,3):=by kernel_rfl
theorem K3:tE Tryz.prog 148=some (151,2):=by kernel_rfl
theorem LI:tE Tryz.prog 218=some (111,3):=by kernel_rfl
theorem FN:tE Tryz.prog 227=some (241,3):=by kernel_rfl
theorem Pd:tE Tryz.prog 236=some (4,1):=by kernel_rfl
theorem PW:tE Tryz.prog 270=some (266,1):=by kernel_rfl
theorem GK:tE Tryz.prog 271=some (64,1):=by kernel_rfl
theorem oR:tE Tryz.prog 272=some (278,1):=by kernel_rfl
theorem AN:(match Tryz.prog.underlying 40 with |some (.struct fs)=>(fs[0]?).map (fun fl=>tK Tryz.prog fl.type)|_=>none)=some (some (false,1)):=by kernel_rfl
theorem Bk:(match Tryz.prog.underlying 40 with |some (.struct fs)=>(fs[1]?).map (fun fl=>tK Tryz.prog fl.type)|_=>none)=some (some (false,1)):=by kernel_rfl
theorem V5:tV Tryz.prog 3=some (vI 0):=by kernel_rfl
theorem tm:tV Tryz.prog 40=some (Value.agg [(vI 0),(vI 0)].toArray):=by kernel_rfl
theorem F6:tX Tryz.prog 145=some (4,144):=by kernel_rfl
theorem G2:tX Tryz.prog 166=some (2,3):=by kernel_rfl
theorem jv:tZ Tryz.prog 3=some [(vI 0)]:=by kernel_rfl
theorem We:tZ Tryz.prog 4=some [(vB false)]:=by kernel_rfl
theorem AZ:tZ Tryz.prog 12=some [(Value.int .u64 0)]:=by kernel_rfl
theorem U0:tZ Tryz.prog 27=some [(vS none 0 0)]:=by kernel_rfl
theorem Tc:tZ Tryz.prog 31=some [(vS none 0 0),(vI 0),(vS none 0 0),(vS none 0 0),(vI 0),(vI 0),(vI 0)]:=by kernel_rfl
theorem wm:tZ Tryz.prog 32=some [(vS none 0 0)]:=by kernel_rfl
theorem wj:tZ Tryz.prog 35=some [(vS none 0 0),(vI 0),(vS none 0 0),(vS none 0 0),(vI 0),(vI 0),(vI 0),(vS none 0 0),(vS none 0 0),(vI 0),(vS none 0 0)]:=by kernel_rfl
theorem dx:tZ Tryz.prog 40=some [(vI 0),(vI 0)]:=by kernel_rfl
theorem Uo:tZ Tryz.prog 43=some [(vI 0),(vI 0),(vS none 0 0)]:=by kernel_rfl
theorem NI:tZ Tryz.prog 45=some [(vB false),(vB false),(vI 0),(vI 0),(vI 0),(vI 0),(vS none 0 0)]:=by kernel_rfl
theorem VJ:tZ Tryz.prog 46=some [(vS none 0 0)]:=by kernel_rfl
theorem Uw:tZ Tryz.prog 64=some [(Value.map none)]:=by kernel_rfl
theorem VY:tZ Tryz.prog 67=some [(Value.map none)]:=by kernel_rfl
theorem S4:tZ Tryz.prog 81=some [(Value.pointer none)]:=by kernel_rfl
theorem SV:tZ Tryz.prog 82=some [(vS none 0 0)]:=by kernel_rfl
theorem CV:tZ Tryz.prog 111=some [(vI 0),(vI 0),(vI 0)]:=by kernel_rfl
theorem GV:tZ Tryz.prog 114=some [(vI 0),(vI 0),(vI 0),(vI 0),(vI 0),(vI 0),(vI 0),(Value.int .u8 0),(vI 0)]:=by kernel_rfl
theorem sI:tZ Tryz.prog 116=some [(vI 0),(vI 0),(vI 0)]:=by kernel_rfl
theorem xU:tZ Tryz.prog 119=some [(vI 0),(vS none 0 0)]:=by kernel_rfl
theorem TX:tZ Tryz.prog 121=some [(vI 0),(vI 0),(vI 0),(vI 0)]:=by kernel_rfl
theorem Gh:tZ Tryz.prog 123=some [(vI 0),(vI 0)]:=by kernel_rfl
theorem Gd:tZ Tryz.prog 144=some [Value.nilFunc]:=by kernel_rfl
theorem Sa:tZ Tryz.prog 145=some [Value.nilFunc,Value.nilFunc,Value.nilFunc,Value.nilFunc]:=by kernel_rfl
theorem Km:tZ Tryz.prog 203=some [(vS none 0 0)]:=by kernel_rfl
theorem Pv:tZ Tryz.prog 238=some [(vS none 0 0),(vS none 0 0),(vS none 0 0)]:=by kernel_rfl
theorem Sf:tZ Tryz.prog 241=some [(vS none 0 0),(vS none 0 0),(vS none 0 0)]:=by kernel_rfl
theorem TV:tZ Tryz.prog 266=some [Value.nilFunc]:=by kernel_rfl
theorem uk:tZ Tryz.prog 280=some [(vI 0),(vI 0)]:=by kernel_rfl
theorem mX:Tryz.prog.underlying 3=some (.int .i64):=by kernel_rfl
theorem UM:Tryz.prog.underlying 4=some .bool:=by kernel_rfl
theorem N8:Tryz.prog.underlying 5=some (.int .u8):=by kernel_rfl
theorem Wg:Tryz.prog.underlying 9=some .string:=by kernel_rfl
theorem Qa:Tryz.prog.underlying 25=some (.slice 114):=by kernel_rfl
theorem TA:Tryz.prog.underlying 28=some (.slice 119):=by kernel_rfl
theorem Rj:Tryz.prog.underlying 29=some (.slice 121):=by kernel_rfl
theorem T_:Tryz.prog.underlying 32=some (.slice 3):=by kernel_rfl
theorem RW:Tryz.prog.underlying 33=some (.slice 46):=by kernel_rfl
theorem Ud:Tryz.prog.underlying 41=some (.slice 123):=by kernel_rfl
theorem Sm:Tryz.prog.underlying 46=some (.slice 45):=by kernel_rfl
theorem lv:Tryz.prog.underlying 64=some (.map 3 40):=by kernel_rfl
theorem B6:Tryz.prog.underlying 67=some (.map 3 4):=by kernel_rfl
theorem PN:Tryz.prog.underlying 117=some (.slice 116):=by kernel_rfl
theorem SC:Tryz.prog.underlying 136=some (.int .u64):=by kernel_rfl
theorem Sq:Tryz.prog.underlying 179=some (.int .u64):=by kernel_rfl
theorem pD:Tryz.prog.underlying 278=some (.map 280 3):=by kernel_rfl
theorem Rz:fL Tryz.prog 40=some [(3,0),(3,1)]:=by kernel_rfl
theorem xS (d:Nat) (s z:aa) (w:World):(Op.equalIn (d+2) 40 (.agg s.cells.toArray) (.agg z.cells.toArray)).run Tryz.prog w= .ok (decide (s=z)) w:=by
 have hc:(decide (s.Lo=z.Lo)&&(decide (s.Hi=z.Hi)&&true))=decide (s=z):=by rw [Bool.eq_iff_iff]; simp [aa.ext_iff]
 rw [← hc]
 exact k7 (d+1) Rz w (gR w (eU xe U w) (eU xe U w) (kR _ mX w) (gR w (eU xe U w) (eU xe U w) (kR _ mX w) (pT w)))
theorem sS (x y:Operand) (s z:aa):gL Tryz.prog .eql 40 x y (.agg s.cells.toArray) (.agg z.cells.toArray) (.bool (decide (s=z))):=HW x y (ph Rz) fun w=>xS 9998 s z w
theorem PH (x y:Operand) (s z:aa):gL Tryz.prog .neq 40 x y (.agg s.cells.toArray) (.agg z.cells.toArray) (.bool (!decide (s=z))):=pa x y (ph Rz) fun w=>xS 9998 s z w
theorem Po:fL Tryz.prog 114=some [(3,0),(40,1),(40,3),(40,5),(5,7),(3,8)]:=by kernel_rfl
theorem Qo (d:Nat) (s z:ak) (w:World):(Op.equalIn (d+3) 114 (.agg s.cells.toArray) (.agg z.cells.toArray)).run Tryz.prog w= .ok (decide (s=z)) w:=by
 have hc:(decide (s.Id=z.Id)&&(decide (s.jL=z.jL)&&(decide (s.ky=z.ky)&&(decide (s.dY=z.dY)&&(decide (s.iZ=z.iZ)&&(decide (s.xQ=z.xQ)&&true))))))=decide (s=z):=by rw [Bool.eq_iff_iff]; simp [ak.ext_iff]
 rw [← hc]
 exact k7 (d+2) Po w (gR w (eU xe U w) (eU xe U w) (kR _ mX w) (gR w (ji (vs:=aa.cells s.jL) xZ U w) (ji (vs:=aa.cells z.jL) xZ U w) (xS (d+0) s.jL z.jL w) (gR w (ji (vs:=aa.cells s.ky) xZ U w) (ji (vs:=aa.cells z.ky) xZ U w) (xS (d+0) s.ky z.ky w) (gR w (ji (vs:=aa.cells s.dY) xZ U w) (ji (vs:=aa.cells z.dY) xZ U w) (xS (d+0) s.dY z.dY w) (gR w (eU V8 U w) (eU V8 U w) (kR _ N8 w) (gR w (eU xe U w) (eU xe U w) (kR _ mX w) (pT w)))))))
theorem QZ (x y:Operand) (s z:ak):gL Tryz.prog .neq 114 x y (.agg s.cells.toArray) (.agg z.cells.toArray) (.bool (!decide (s=z))):=pa x y (ph Po) fun w=>Qo 9997 s z w
theorem PS:fL Tryz.prog 116=some [(3,0),(40,1)]:=by kernel_rfl
theorem Q6 (d:Nat) (s z:cd) (w:World):(Op.equalIn (d+3) 116 (.agg s.cells.toArray) (.agg z.cells.toArray)).run Tryz.prog w= .ok (decide (s=z)) w:=by
 have hc:(decide (s.At=z.At)&&(decide (s.d_=z.d_)&&true))=decide (s=z):=by rw [Bool.eq_iff_iff]; simp [cd.ext_iff]
 rw [← hc]
 exact k7 (d+2) PS w (gR w (eU xe U w) (eU xe U w) (kR _ mX w) (gR w (ji (vs:=aa.cells s.d_) xZ U w) (ji (vs:=aa.cells z.d_) xZ U w) (xS (d+0) s.d_ z.d_ w) (pT w)))
theorem KZ (x y:Operand) (s z:cd):gL Tryz.prog .neq 116 x y (.agg s.cells.toArray) (.agg z.cells.toArray) (.bool (!decide (s=z))):=pa x y (ph PS) fun w=>Q6 9997 s z w
theorem SH:fL Tryz.prog 111=some [(3,0),(40,1)]:=by kernel_rfl
theorem Qu (d:Nat) (s z:cK) (w:World):(Op.equalIn (d+3) 111 (.agg s.cells.toArray) (.agg z.cells.toArray)).run Tryz.prog w= .ok (decide (s=z)) w:=by
 have hc:(decide (s.bj=z.bj)&&(decide (s.lO=z.lO)&&true))=decide (s=z):=by rw [Bool.eq_iff_iff]; simp [cK.ext_iff]
 rw [← hc]
 exact k7 (d+2) SH w (gR w (eU xe U w) (eU xe U w) (kR _ mX w) (gR w (ji (vs:=aa.cells s.lO) xZ U w) (ji (vs:=aa.cells z.lO) xZ U w) (xS (d+0) s.lO z.lO w) (pT w)))
theorem Pt:fL Tryz.prog 121=some [(111,0),(3,3)]:=by kernel_rfl
theorem Qk (d:Nat) (s z:bG) (w:World):(Op.equalIn (d+4) 121 (.agg s.cells.toArray) (.agg z.cells.toArray)).run Tryz.prog w= .ok (decide (s=z)) w:=by
 have hc:(decide (s.kZ=z.kZ)&&(decide (s.jH=z.jH)&&true))=decide (s=z):=by rw [Bool.eq_iff_iff]; simp [bG.ext_iff]
 rw [← hc]
 exact k7 (d+3) Pt w (gR w (ji (vs:=cK.cells s.kZ) ML U w) (ji (vs:=cK.cells z.kZ) ML U w) (Qu (d+0) s.kZ z.kZ w) (gR w (eU xe U w) (eU xe U w) (kR _ mX w) (pT w)))
theorem Rq (x y:Operand) (s z:bG):gL Tryz.prog .neq 121 x y (.agg s.cells.toArray) (.agg z.cells.toArray) (.bool (!decide (s=z))):=pa x y (ph Pt) fun w=>Qk 9996 s z w
theorem PF:fL Tryz.prog 123=some [(3,0),(3,1)]:=by kernel_rfl
theorem QS (d:Nat) (s z:aJ) (w:World):(Op.equalIn (d+2) 123 (.agg s.cells.toArray) (.agg z.cells.toArray)).run Tryz.prog w= .ok (decide (s=z)) w:=by
 have hc:(decide (s.gk=z.gk)&&(decide (s.Read=z.Read)&&true))=decide (s=z):=by rw [Bool.eq_iff_iff]; simp [aJ.ext_iff]
 rw [← hc]
 exact k7 (d+1) PF w (gR w (eU xe U w) (eU xe U w) (kR _ mX w) (gR w (eU xe U w) (eU xe U w) (kR _ mX w) (pT w)))
theorem Ri (x y:Operand) (s z:aJ):gL Tryz.prog .neq 123 x y (.agg s.cells.toArray) (.agg z.cells.toArray) (.bool (!decide (s=z))):=pa x y (ph PF) fun w=>QS 9998 s z w
theorem P2:fL Tryz.prog 280=some [(3,0),(3,1)]:=by kernel_rfl
theorem P_ (d:Nat) (s z:aF) (w:World):(Op.equalIn (d+2) 280 (.agg s.cells.toArray) (.agg z.cells.toArray)).run Tryz.prog w= .ok (decide (s=z)) w:=by
 have hc:(decide (s.right=z.right)&&(decide (s.e9=z.e9)&&true))=decide (s=z):=by rw [Bool.eq_iff_iff]; simp [aF.ext_iff]
 rw [← hc]
 exact k7 (d+1) P2 w (gR w (eU xe U w) (eU xe U w) (kR _ mX w) (gR w (eU xe U w) (eU xe U w) (kR _ mX w) (pT w)))
theorem cv:Tryz.prog.follows .mixedOrders=true:=by kernel_rfl
def TT:DX:=⟨[(1,false,1),(2,false,1),(3,false,1),(4,false,1),(5,false,1),(6,false,1),(7,true,4),(8,true,4),(12,false,1),(15,false,1),(16,false,1),(17,false,1),(18,true,1),(19,true,1),(21,false,1),(22,false,1),(23,false,1),(24,false,1),(25,false,1),(26,true,1),(27,true,1),(28,false,1),(29,false,1),(30,true,7),(31,true,7),(32,false,1),(33,false,1),(34,true,11),(35,true,11),(36,false,1),(37,false,1),(38,false,1),(39,true,2),(40,true,2),(41,false,1),(42,true,3),(43,true,3),(44,true,7),(45,true,7),(46,false,1),(47,false,1),(49,false,1),(50,false,1),(52,false,1),(54,false,1),(55,false,1),(57,false,1),(58,false,1),(59,false,1),(61,false,1),(62,false,1),(63,false,1),(64,false,1),(66,false,1),(67,false,1),(69,false,1),(70,false,1),(71,false,1),(72,false,1),(73,false,1),(74,false,1),(75,false,1),(76,false,1),(77,false,1),(78,false,1),(79,false,1),(80,false,1),(81,false,1),(82,false,1),(84,false,1),(86,false,1),(87,false,1),(88,false,1),(89,false,1),(90,true,13),(91,true,13),(92,false,1),(93,false,1),(94,false,1),(95,false,1),(96,false,1),(97,false,1),(98,false,1),(99,false,1),(100,false,1),(101,false,1),(102,false,1),(103,false,1),(104,false,1),(105,false,1),(106,false,1),(107,false,1),(108,false,1),(109,false,1),(110,true,3),(111,true,3),(112,false,1),(113,true,9),(114,true,9),(115,true,3),(116,true,3),(117,false,1),(118,true,2),(119,true,2),(120,true,4),(121,true,4),(122,true,2),(123,true,2),(124,false,1),(125,false,1),(126,false,1),(127,false,1),(128,false,1),(129,false,1),(130,false,1),(131,false,1),(132,false,1),(133,false,1),(134,false,1),(135,false,1),(136,false,1),(137,false,1),(139,false,1),(140,false,1),(141,false,1),(142,false,1),(143,false,1),(144,true,1),(145,true,4),(146,false,1),(147,false,1),(148,false,1),(149,false,1),(150,true,2),(151,true,2),(152,true,6),(153,false,1),(154,false,1),(155,false,1),(156,false,1),(157,false,1),(158,false,1),(159,false,1),(160,false,1),(161,false,1),(162,false,1),(163,false,1),(164,false,1),(165,false,1),(166,true,2),(167,false,1),(168,false,1),(169,false,1),(171,false,1),(172,false,1),(173,false,1),(174,false,1),(176,false,1),(177,false,1),(178,false,1),(179,false,1),(180,false,1),(181,false,1),(183,false,1),(184,false,1),(185,false,1),(186,false,1),(187,false,1),(188,false,1),(189,false,1),(190,false,1),(191,false,1),(192,false,1),(193,false,1),(194,false,1),(195,false,1),(196,false,1),(197,false,1),(198,false,1),(199,false,1),(200,false,1),(201,false,1),(202,true,1),(203,true,1),(205,false,1),(206,false,1),(208,false,1),(209,false,1),(210,false,1),(211,false,1),(213,false,1),(214,false,1),(215,false,1),(217,false,1),(218,false,1),(219,false,1),(220,false,1),(221,false,1),(222,false,1),(223,false,1),(224,false,1),(225,false,1),(226,false,1),(227,false,1),(229,false,1),(230,false,1),(231,false,1),(232,false,1),(233,false,1),(234,false,1),(235,false,1),(236,false,1),(237,true,3),(238,true,3),(239,false,1),(240,true,3),(241,true,3),(242,false,1),(243,false,1),(244,false,1),(245,false,1),(248,true,0),(249,true,0),(250,true,0),(251,false,1),(252,false,1),(253,false,1),(254,false,1),(255,false,1),(256,false,1),(257,false,1),(258,true,11),(259,true,11),(261,false,1),(262,false,1),(263,false,1),(265,false,1),(266,false,1),(267,false,1),(268,false,1),(269,false,1),(270,false,1),(271,false,1),(272,false,1),(273,true,14),(274,true,14),(275,false,1),(276,false,1),(277,false,1),(278,false,1),(279,true,2),(280,true,2),(281,false,1),(282,false,1),(283,false,1),(284,false,1)],[(7,[some 0,some 1,some 2,some 3]),(8,[some 0,some 1,some 2,some 3]),(18,[some 0]),(19,[some 0]),(26,[some 0]),(27,[some 0]),(30,[some 0,some 1,some 2,some 3,some 4,some 5,some 6]),(31,[some 0,some 1,some 2,some 3,some 4,some 5,some 6]),(34,[some 0,some 7,some 8,some 9,some 10]),(35,[some 0,some 7,some 8,some 9,some 10]),(39,[some 0,some 1]),(40,[some 0,some 1]),(42,[some 0,some 1,some 2]),(43,[some 0,some 1,some 2]),(44,[some 0,some 1,some 2,some 4]),(45,[some 0,some 1,some 2,some 4]),(90,[some 0,some 11,some 12]),(91,[some 0,some 11,some 12]),(110,[some 0,some 1]),(111,[some 0,some 1]),(113,[some 0,some 1,some 3,some 5,some 7,some 8]),(114,[some 0,some 1,some 3,some 5,some 7,some 8]),(115,[some 0,some 1]),(116,[some 0,some 1]),(118,[some 0,some 1]),(119,[some 0,some 1]),(120,[some 0,some 3]),(121,[some 0,some 3]),(122,[some 0,some 1]),(123,[some 0,some 1]),(144,[some 0]),(150,[some 0,some 1]),(151,[some 0,some 1]),(202,[some 0]),(203,[some 0]),(237,[some 0,some 1,some 2]),(238,[some 0,some 1,some 2]),(240,[some 0,some 1,some 2]),(241,[some 0,some 1,some 2]),(258,[some 0,some 1,some 2,some 3,some 4,some 5,some 6,some 7,some 8,some 9,some 10]),(259,[some 0,some 1,some 2,some 3,some 4,some 5,some 6,some 7,some 8,some 9,some 10]),(273,[some 0,some 7,some 10,some 11,some 12,some 13]),(274,[some 0,some 7,some 10,some 11,some 12,some 13]),(279,[some 0,some 1]),(280,[some 0,some 1])],[25,28,29,32,33,41,46,59,74,82,89,117,148,218,227,236,270,271,272]⟩
theorem qt:lG Tryz.prog TT:=QG kr
theorem cb {t:TypeId} {x:Bool×Nat} (h:TT.Jm t=some x:=by rfl):tK Tryz.prog t=some x:=qt.Jm h
theorem fw {s f k:Nat} (h:TT.foF s f=some k:=by rfl):rD Tryz.prog s f=some k:=qt.foF h
end
section
open Go.RowKit
/-- blocks that are read -/
def MM (C:List aw) (M:List (Nat×List Value)):Prop:= ∀ p∈M,∀ o vs,(p.2.drop o).take vs.length=vs→At C (some ⟨p.1,o,none⟩) vs
theorem mn {C:List aw}:MM C []:=fun p h=>by cases h
theorem mc {C:List aw} {b t:Nat} {cs:List Value} {M:List (Nat×List Value)} (i:Nat) (hC:C[i]? =some (cm b t cs)) (h:MM C M):MM C ((b,cs)::M):=fun p hp o vs hv=>by
 rcases bE.1 hp with rfl|hp
 ·exact qh i hC hv
 ·exact h p hp o vs hv
theorem mr {C:List aw} {b t:Nat} {cs:List Value} {M:List (Nat×List Value)} (i:Nat) (hC:C[i]? =some (cm b t cs).ro) (h:MM C M):MM C ((b,cs)::M):=fun p hp o vs hv=>by
 rcases bE.1 hp with rfl|hp
 ·exact wT i hC hv
 ·exact h p hp o vs hv
def p_:List Prop→Prop
 |[]=>True
 |p::l=>p∧p_ l
theorem km {p:Prop} {l:List Prop} (h:p) (h2:p_ l):p_ (p::l):=⟨h,h2⟩
/-- the value of an operation, what it asks for, and what is left of the list of places -/
def pv (T:DX) (ops:Array Oper) (M:List (Nat×List Value)) (L:dw) (hs:List Nat) (g:Option (Nat×Bool)) (op:Op):Option (Value×List Prop×List Nat):=
 match DP ops L g with
 |true=>some (undef,[],hs)
 |false=>match jM ops L g with
  |false=>none
  |true=>match op with
   | .move x=>match ev L x with
    |some v=>some (v,[],hs)
    |none=>none
   | .assign x=>match ev L x with
    |some v=>some (v,[],hs)
    |none=>none
   | .pick c x y=>match ev L c with
    |some (.bool true)=>match ev L x with
     |some v=>some (v,[],hs)
     |none=>none
    |some (.bool false)=>match ev L y with
     |some v=>some (v,[],hs)
     |none=>none
    |_=>none
   | .unOp .not _ x=>match ev L x with
    |some (.bool b)=>some (.bool !b,[],hs)
    |_=>none
   | .extract x i=>match ev L x with
    |some (.tuple vs)=>match vs.toList[i]? with
     |some v=>some (v,[],hs)
     |none=>none
    |_=>none
   | .fieldAddr s x f=>match ev L x with
    |some (.pointer (some ⟨b,o,none⟩))=>match T.foF s f with
     |some k=>some (.pointer (some ⟨b,o+k,none⟩),[],hs)
     |none=>none
    |_=>none
   | .binOp op _ x y _=>match ev L x with
    |some (.int .i64 a)=>match ev L y with
     |some (.int .i64 b)=>match op with
      | .lss=>some (.bool (decide (a<b)),[],hs)
      | .leq=>some (.bool (decide (a≤b)),[],hs)
      | .gtr=>some (.bool (decide (b<a)),[],hs)
      | .geq=>some (.bool (decide (b≤a)),[],hs)
      | .eql=>some (.bool (decide (a=b)),[],hs)
      | .neq=>some (.bool (!decide (a=b)),[],hs)
      | .add=>some (.int .i64 (a+b),[-9223372036854775808≤a+b,a+b≤9223372036854775807],hs)
      | .sub=>some (.int .i64 (a-b),[-9223372036854775808≤a-b,a-b≤9223372036854775807],hs)
      |_=>none
     |_=>none
    |_=>none
   | .load t x=>match ev L x with
    |some (.pointer (some ⟨b,o,none⟩))=>match M[hs.headD 0]? with
     |some (b',cs)=>match T.Jm t with
      |some (false,_)=>match cs[o]? with
       |some v=>some (v,[b'=b],hs.tail)
       |none=>none
      |some (true,n)=>match Nat.beq o 0 with
       |true=>match Nat.beq cs.length n with
        |true=>some (.agg cs.toArray,[b'=b],hs.tail)
        |false=>none
       |false=>none
      |none=>none
     |none=>none
    |_=>none
   | .call c=>match c with
    |{callee:= .builtin .len,args:=xs,argTypes:=ts}=>match xs.toList with
     |[x]=>match ts.toList with
      |[t]=>match ev L x with
       |some (.slice A n c)=>match MT T.sl t with
        |true=>some (.int .i64 n,[],hs)
        |false=>none
       |_=>none
      |_=>none
     |_=>none
    |_=>none
   |_=>none
section
variable {E:fq} {T:DX} {ops:Array Oper} {M:List (Nat×List Value)} {D:List Deferred} {L:List (Nat×Value)} {C:List aw} {hs hs':List Nat}
theorem vH {cs:List Value} {o:Nat} {v:Value} (h:cs[o]? =some v):(cs.drop o).take [v].length=[v]:=by
 obtain ⟨hl,rfl⟩:=aX.1 h
 rw [List.drop_eq_getElem_cons hl]; rfl
theorem SB {o:Oper} {v:Value} {S:List Prop} (hT:lG E.P T) (hM:MM C M) (h:pv T ops M L hs o.guard o.op=some (v,S,hs')) (hS:p_ S):SD E ops o D L C v:=by
 obtain ⟨dst,op,ty,ps,af,g⟩:=o
 unfold pv at h
 simp only at h
 split at h
 ·rename_i hg
  cases h
  exact Jy hg
 ·split at h
  ·cases h
  ·rename_i hg
   split at h
   ·split at h
    ·rename_i hx; cases h; exact GQ hg hx
    ·cases h
   ·split at h
    ·rename_i hx; cases h; exact zG hg hx
    ·cases h
   ·split at h
    ·rename_i hc
     split at h
     ·rename_i hx; cases h; exact zt hg hc hx
     ·cases h
    ·rename_i hc
     split at h
     ·rename_i hx; cases h; exact z8 hg hc hx
     ·cases h
    ·cases h
   ·split at h
    ·rename_i hx; cases h; exact MA hg hx
    ·cases h
   ·split at h
    ·rename_i vs hx
     split at h
     ·rename_i v' hv; cases h; exact yO (vs:=vs.toList) hg (by simpa using hx) hv
     ·cases h
    ·cases h
   ·split at h
    ·rename_i hx
     split at h
     ·rename_i hk; cases h; exact Px hg hx (hT.foF hk) rfl
     ·cases h
    ·cases h
   ·split at h
    ·rename_i hx
     split at h
     ·rename_i hy
      split at h
      ·cases h; exact cf hg hx hy hE
      ·cases h; exact cf hg hx hy TU
      ·cases h; exact cf hg hx hy S9
      ·cases h; exact cf hg hx hy GC
      ·cases h; exact cf hg hx hy mO
      ·cases h; exact cf hg hx hy m_
      ·cases h; exact cf hg hx hy (iE ⟨hS.1,hS.2.1⟩)
      ·cases h; exact cf hg hx hy (sJ ⟨hS.1,hS.2.1⟩)
      ·cases h
     ·cases h
    ·cases h
   ·split at h
    ·rename_i hx
     split at h
     ·rename_i b' cs hm
      have A:=aS hm
      split at h
      ·rename_i hk
       split at h
       ·rename_i hv
        cases h
        obtain rfl:=hS.1
        exact vu hg hx (hT.Jm hk) (hM _ A _ _ (vH hv))
       ·cases h
      ·rename_i n hk
       split at h
       ·rename_i ho
        split at h
        ·rename_i hn
         cases h
         obtain rfl:=hS.1
         have H:=Nat.eq_of_beq_eq_true ho
         subst H
         exact yH hg hx (hT.Jm hk) (hM _ A 0 cs sm) (Nat.eq_of_beq_eq_true hn)
        ·cases h
       ·cases h
      ·cases h
     ·cases h
    ·cases h
   ·split at h
    ·rename_i xs ts
     split at h
     ·rename_i x G
      split at h
      ·rename_i t F
       split at h
       ·rename_i hx
        split at h
        ·rename_i B
         cases h
         obtain ⟨e,he⟩:=hT.sl t (Cl B)
         have AA:xs= #[x]:=by apply Array.ext'; simpa using G
         have J:ts= #[t]:=by apply Array.ext'; simpa using F
         subst AA J
         exact Mj hg hx he
        ·cases h
       ·cases h
      ·cases h
     ·cases h
    ·cases h
   ·cases h
def pr (T:DX) (n:Nat) (ops:Array Oper) (M:List (Nat×List Value)):Nat→List Nat→dw→List Oper→Option (dw×List Oper×List Prop)
 |0,_,L,rest=>some (L,rest,[])
 |k+1,hs,L,[]=>none
 |k+1,hs,L,o::rest=>match o.dst with
  |none=>none
  |some d=>match Nat.blt d n with
   |false=>none
   |true=>match pv T ops M L hs o.guard o.op with
    |none=>none
    |some (v,S,hs')=>match pr T n ops M k hs' ((d,v)::L) rest with
     |none=>none
     |some (L',rest',S')=>some (L',rest',S++S')
theorem yA: ∀ {S S':List Prop},p_ (S++S')→p_ S∧p_ S'
 |[],S',h=>⟨trivial,h⟩
 |p::S,S',h=>⟨⟨h.1,(yA h.2).1⟩,(yA h.2).2⟩
/-- whatever is closed under single steps -/
theorem JL {J:List Oper→dw→Prop} (hT:lG E.P T) (hM:MM C M) (hJ: ∀ o rest L d v,SD E ops o D L C v→o.dst=some d→Nat.blt d E.n=true→J rest ((d,v)::L)→J (o::rest) L):
 ∀ (k:Nat) (hs:List Nat) (L:dw) (rest:List Oper) {L':dw} {rest':List Oper} {S:List Prop},pr T E.n ops M k hs L rest=some (L',rest',S)→p_ S→J rest' L'→J rest L
 |0,hs,L,rest,L',rest',S,h,hS,hj=>by
  unfold pr at h
  cases h
  exact hj
 |k+1,hs,L,[],L',rest',S,h,hS,hj=>by unfold pr at h; cases h
 |k+1,hs,L,o::rest,L',rest',S,h,hS,hj=>by
  unfold pr at h
  split at h
  ·cases h
  ·rename_i d hd
   split at h
   ·cases h
   ·rename_i hn
    split at h
    ·cases h
    ·rename_i v S1 A hv
     split at h
     ·cases h
     ·rename_i L1 G S2 hr
      cases h
      obtain ⟨B,F⟩:=yA hS
      exact hJ o rest L d v (SB hT hM hv B) hd hn (JL hT hM hJ k A _ rest hr F hj)
variable {Q:dk} {rest rest':List Oper} {L0 L':List (Nat×Value)} {S:List Prop} {F:List (Nat×Value)→Prop}
/-- a run of operations, one after the other -/
theorem rP (k:Nat) (hs:List Nat) (hM:MM C M) (j:RJ E ops Q rest' D L' C) (hT:lG E.P T:=by exact qt) (h:pr T E.n ops M k hs L rest=some (L0,rest',S):=by rfl) (hL:L0=L':=by (try dsimp only)<;>rfl) (hS:p_ S:=by repeat' first|exact True.intro |refine km ?_ ?_ |exact rfl|omega|(dsimp only; omega)):RJ E ops Q rest D L C:=by
 subst hL
 exact JL (J:=fun r L=>RJ E ops Q r D L C) hT hM (fun o rest L d v A B F G=>TL A B F G) k hs L rest h hS j
theorem dP (k:Nat) (hs:List Nat) (hM:MM C M) (j:DJ E ops D C F rest' L') (hT:lG E.P T:=by exact qt) (h:pr T E.n ops M k hs L rest=some (L0,rest',S):=by rfl) (hL:L0=L':=by (try dsimp only)<;>rfl) (hS:p_ S:=by repeat' first|exact True.intro |refine km ?_ ?_ |exact rfl|omega):DJ E ops D C F rest L:=by
 subst hL
 exact JL (J:=fun r L=>DJ E ops D C F r L) hT hM (fun o rest L d v A B G H=>So A B G H) k hs L rest h hS j
end
section
variable {P:Program} {r:Option Nat} {n:Nat} {B:BS} {w0:World} {ops:Array Oper} {M:List (Nat×List Value)} {D:List Deferred} {L L':List (Nat×Value)} {C:List aw} {Q:dk} {rest rest':List Oper} {S:List Prop} {F:List (Nat×Value)→Prop}
theorem fG (k:Nat) (hs:List Nat) (hM:MM C M) (h:pr TT n ops M k hs L rest=some (L',rest',S)) (j:RJ ⟨P,r,n,B,w0⟩ ops Q rest' D L' C) (hS:p_ S:=by repeat' first|exact True.intro |refine km ?_ ?_ |exact rfl|omega|(dsimp only; omega)) (hT:lG P TT:=by exact qt):RJ ⟨P,r,n,B,w0⟩ ops Q rest D L C:=rP k hs hM j hT h rfl hS
theorem mw (k:Nat) (hs:List Nat) (hM:MM C M) (h:pr TT n ops M k hs L rest=some (L',rest',S)) (j:DJ ⟨P,r,n,B,w0⟩ ops D C F rest' L') (hS:p_ S:=by repeat' first|exact True.intro |refine km ?_ ?_ |exact rfl|omega|(dsimp only; omega)) (hT:lG P TT:=by exact qt):DJ ⟨P,r,n,B,w0⟩ ops D C F rest L:=dP k hs hM j hT h rfl hS
theorem bo (k:Nat) (h:pr TT n ops [] k [] L rest=some (L',rest',S)) (j:RJ ⟨P,r,n,B,w0⟩ ops Q rest' D L' C) (hS:p_ S:=by repeat' first|exact True.intro |refine km ?_ ?_ |exact rfl|omega|(dsimp only; omega)) (hT:lG P TT:=by exact qt):RJ ⟨P,r,n,B,w0⟩ ops Q rest D L C:=rP k [] mn j hT h rfl hS
theorem lQ (k:Nat) (h:pr TT n ops [] k [] L rest=some (L',rest',S)) (j:DJ ⟨P,r,n,B,w0⟩ ops D C F rest' L') (hS:p_ S:=by repeat' first|exact True.intro |refine km ?_ ?_ |exact rfl|omega|(dsimp only; omega)) (hT:lG P TT:=by exact qt):DJ ⟨P,r,n,B,w0⟩ ops D C F rest L:=dP k [] mn j hT h rfl hS
end
end
section
open Go.RowKit
/-- parts of a context, reckoned to the end -/
def lU (C:List aw):List Nat→Option (List aw)
 |[]=>some []
 |i::is=>match C[i]? with
  |some A=>match lU C is with
   |some l=>some (A::l)
   |none=>none
  |none=>none
theorem jz {C:List aw}: ∀ {is:List Nat} {C':List aw},lU C is=some C'→kF C is=C'
 |[],C',h=>by cases h; rfl
 |i::is,C',h=>by
  unfold lU at h
  split at h
  ·rename_i A hA
   split at h
   ·rename_i l hl
    cases h
    show List.filterMap (C[·]?) (i::is)=A::l
    rw [List.filterMap_cons_some hA]
    exact congrArg _ (jz hl)
   ·cases h
  ·cases h
/-- a part of a context in place of the whole -/
theorem aI {S:BS} {w0:World} {C C':List aw} (is:List Nat) (hn:decide is.Nodup=true:=by rfl) (hC:kF C is=C':=by rfl): ∀ w,St S w0 C w→St S w0 C' w:=fun w h=>St.kF is hn hC h
theorem OI {S:BS} {w0:World} {C C':List aw} (is:List Nat) (hC:lU C is=some C') (hn:decide is.Nodup=true:=by rfl): ∀ w,St S w0 C w→St S w0 C' w:=fun w h=>St.kF is hn (jz hC) h
def O_ (C:List aw) (i:Nat) (B:aw):Option (List aw):=match i,C with
 |0,_::C=>some (B::C)
 |i+1,A::C=>match O_ C i B with
  |some l=>some (A::l)
  |none=>none
 |_,[]=>none
theorem Gk: ∀ {C:List aw} {i:Nat} {B:aw} {C':List aw},O_ C i B=some C'→C.set i B=C'
 |[],0,B,C',h=>by cases h
 |[],i+1,B,C',h=>by cases h
 |A::C,0,B,C',h=>by cases h; rfl
 |A::C,i+1,B,C',h=>by
  unfold O_ at h
  split at h
  ·rename_i l hl
   cases h
   exact congrArg _ (Gk hl)
  ·cases h
theorem hU {E:fq} {K:Act→World→Prop} {D:g3} {L:dw} {C C':List aw} {A B:aw} (i:Nat) (hC:C[i]? =some A) (hh:(∀ w,A.holds w→B.holds w)∧(∀ b,B.fI b→A.fI b)∧ ∀ b,B.wf b→A.wf b) (hC':O_ C i B=some C') (h:KJ E K D L C'):KJ E K D L C:=Mb i hC hh (Gk hC') h
/-- the operations of a region but these; marks of some places -/
def RU (n:Nat) (T:List Nat):List Nat:=(List.range n).filter fun i=> !T.contains i
def Vp (k:Nat) (t:List Nat):List Bool:=(List.range k).map fun i=>t.contains i
theorem dJ {E:fq} {id:Nat} {ops:Array Oper} {Q:dk} {D:g3} {L:dw} {C:List aw} (hm:E.P.follows .mixedOrders=true) (T fe tb i1 i2:List Nat) {C' C1:List aw} {free:List Nat} {Kx tbb:List Bool}
 (h1:lU C i1=some C') (h2:lU C i2=some C1) (hf:free=RU ops.size T) (hfe:Kx=Vp free.length fe) (htb:tbb=Vp T.length tb)
 (h:qA E ops D C' C1 (fun L'=>TJ E ops D C' C1 (fun L C=>KJ E (Q .normal) D L C) tbb (eY ops T) L' C) Kx (eY ops free) L)
 (hc:Nu ops free T Kx tbb=true:=by kernel_rfl) (n1:decide i1.Nodup=true:=by rfl) (n2:decide i2.Nodup=true:=by rfl):WJ E (.region id ops true) Q D L C:=
 Nj hm free T Kx tbb C' C1 hc (OI i1 h1 n1) (OI i2 h2 n2) h
end
section
open Go.RowKit
def wE (T:DX) (M:List (Nat×List Value)) (L:dw):List ResultVar→List Nat→Option (List Value×List Prop)
 |[],_=>some ([],[])
 | .tmp t::rs,hs=>match L.lookup t with
  |some v=>match wE T M L rs hs with
   |some (vs,S)=>some (v::vs,S)
   |none=>none
  |none=>none
 | .cell a t::rs,hs=>match L.lookup a with
  |some (.pointer (some ⟨b,o,none⟩))=>match M[hs.headD 0]? with
   |some (b',cs)=>match T.Jm t with
    |some (false,_)=>match cs[o]? with
     |some v=>match wE T M L rs hs.tail with
      |some (vs,S)=>some (v::vs,(b'=b)::S)
      |none=>none
     |none=>none
    |some (true,n)=>match Nat.beq o 0 with
     |true=>match Nat.beq cs.length n with
      |true=>match wE T M L rs hs.tail with
       |some (vs,S)=>some (.agg cs.toArray::vs,(b'=b)::S)
       |none=>none
      |false=>none
     |false=>match wE T M L rs hs.tail with
      |some (vs,S)=>some (.agg ((cs.drop o).take n).toArray::vs,(b'=b)::(((cs.drop o).take n).length=n)::S)
      |none=>none
    |none=>none
   |none=>none
  |_=>none
theorem oH {P:Program} {T:DX} {M:List (Nat×List Value)} {L:dw} {C:List aw} (hT:lG P T) (hM:MM C M): ∀ (rs:List ResultVar) (hs:List Nat) {vs:List Value} {S:List Prop},wE T M L rs hs=some (vs,S)→p_ S→H2 P L C rs vs
 |[],_,vs,S,h,hS=>by unfold wE at h; cases h; exact trivial
 | .tmp t::rs,hs,vs,S,h,hS=>by
  unfold wE at h
  split at h
  ·rename_i v hv
   split at h
   ·rename_i vs' S' hr
    cases h
    exact ⟨hv,oH hT hM rs hs hr hS⟩
   ·cases h
  ·cases h
 | .cell a t::rs,hs,vs,S,h,hS=>by
  unfold wE at h
  split at h
  ·rename_i b o hl
   split at h
   ·rename_i b' cs hm
    have A:=aS hm
    split at h
    ·rename_i hk
     split at h
     ·rename_i v hv
      split at h
      ·rename_i vs' S' hr
       cases h
       obtain ⟨rfl,hS⟩:=hS
       exact ⟨⟨_,hl,.inr ⟨_,hT.Jm hk,hM _ A _ _ (vH hv)⟩⟩,oH hT hM rs _ hr hS⟩
      ·cases h
     ·cases h
    ·rename_i n hk
     split at h
     ·rename_i ho
      split at h
      ·rename_i hn
       split at h
       ·rename_i vs' S' hr
        cases h
        obtain ⟨rfl,hS⟩:=hS
        have D:=Nat.eq_of_beq_eq_true ho
        subst D
        exact ⟨⟨_,hl,.inl ⟨_,cs,hT.Jm hk,hM _ A 0 cs sm,Nat.eq_of_beq_eq_true hn,U⟩⟩,oH hT hM rs _ hr hS⟩
       ·cases h
      ·cases h
     ·split at h
      ·rename_i vs' S' hr
       cases h
       obtain ⟨rfl,B,hS⟩:=hS
       exact ⟨⟨_,hl,.inl ⟨_,_,hT.Jm hk,hM _ A o _ (by rw [B]),B,U⟩⟩,oH hT hM rs _ hr hS⟩
      ·cases h
    ·cases h
   ·cases h
  ·cases h
section
variable {P:Program} {n:Nat} {fn:Func} {w0:World} {K:Act→World→Prop} {L:List (Nat×Value)} {C:List aw} {M:List (Nat×List Value)} {vs:List Value} {S:List Prop} {u x v:Value}
theorem IN (hQ: ∀ D L C,LJ ⟨P,none,n,uG,w0⟩ fn (Ca w0 v) D L C→KJ ⟨P,none,n,uG,w0⟩ K D L C) (hs:List Nat) (hM:MM C M) (h:wE TT M L fn.results.toList hs=some ([u],S)) (e:u=v) (hS:p_ S:=by repeat' first|exact True.intro |refine km rfl ?_) (hT:lG P TT:=by exact qt):KJ ⟨P,none,n,uG,w0⟩ K [] L C:=
 hQ _ _ _ (ic (oH hT hM _ _ h hS) fun w hs=>Fe e hs)
theorem lP (hQ: ∀ D L C,LJ ⟨P,none,n,uG,w0⟩ fn (Ca w0 v) D L C→KJ ⟨P,none,n,uG,w0⟩ K D L C) (hs:List Nat) (hM:MM C M) (h:wE TT M L fn.results.toList hs=some (u::x::vs,S)) (e:Value.tuple (u::x::vs).toArray=v) (hS:p_ S:=by repeat' first|exact True.intro |refine km rfl ?_) (hT:lG P TT:=by exact qt):KJ ⟨P,none,n,uG,w0⟩ K [] L C:=
 hQ _ _ _ (ic (oH hT hM _ _ h hS) fun w hs=>Fe e hs)
theorem LX {α:Type} {V:α→Value} {p:α→Prop} {N:α→List aw} (hQ: ∀ D L C,LJ ⟨P,none,n,uG,w0⟩ fn (Kf w0 V p N) D L C→KJ ⟨P,none,n,uG,w0⟩ K D L C) (x:α) (is hs:List Nat) (hM:MM C M) (h:wE TT M L fn.results.toList hs=some (vs,S)) (hw:(N x).all (·.wr)=true) (hN:kF C is=N x) (hV:RL vs=V x) (hp:p x) (hn:decide is.Nodup=true:=by rfl) (hS:p_ S:=by repeat' first|exact True.intro |refine km rfl ?_) (hT:lG P TT:=by exact qt):KJ ⟨P,none,n,uG,w0⟩ K [] L C:=
 hQ _ _ _ (ic (oH hT hM _ _ h hS) fun w hs=>Ki x is hV hp hn hN hw hs)
theorem LM {A:aw} {α:Type} {V:α→Value} {p:α→Prop} {A':α→aw} (hQ: ∀ D L C,LJ ⟨P,none,n,⟨A.wf,fun _=>True⟩,w0⟩ fn (Og w0 A V p A') D L C→KJ ⟨P,none,n,⟨A.wf,fun _=>True⟩,w0⟩ K D L C) (x:α) (i:Nat) (hs:List Nat) (hM:MM C M) (h:wE TT M L fn.results.toList hs=some (vs,S)) (hw:(A' x).wr=true) (hC:C[i]? =some (A' x)) (hV:RL vs=V x) (hp:p x) (hS:p_ S:=by repeat' exact True.intro) (hT:lG P TT:=by exact qt):KJ ⟨P,none,n,⟨A.wf,fun _=>True⟩,w0⟩ K [] L C:=
 hQ _ _ _ (ic (oH hT hM _ _ h hS) fun w hs=>TE x i hV hp hC hw hs)
end
end
section
open Go.RowKit
def FD {α:Type _}:List α→List α→Option (List α)
 |[],m=>some m
 |a::l,m=>match FD l m with
  |some r=>some (a::r)
  |none=>none
theorem GN {α:Type _}: ∀ {l m r:List α},FD l m=some r→l++m=r
 |[],m,r,h=>by cases h; rfl
 |a::l,m,r,h=>by
  unfold FD at h
  split at h
  ·rename_i r' hr
   cases h
   exact congrArg (a:: ·) (GN hr)
  ·cases h
def UI (L:dw):List Nat→Option (dw)
 |[]=>some []
 |t::ts=>match L.lookup t with
  |some v=>match UI L ts with
   |some r=>some ((t,v)::r)
   |none=>none
  |none=>none
theorem Gs {L M:dw} (k:dj L M): ∀ {ts:List Nat} {r:dw},UI L ts=some r→dj L (r++M)
 |[],r,h=>by cases h; exact k
 |t::ts,r,h=>by
  unfold UI at h
  split at h
  ·rename_i v hv
   split at h
   ·rename_i r' hr
    cases h
    exact dj.cons hv (Gs k hr)
   ·cases h
  ·cases h
section
variable {E:fq} {Q:dk} {D:List Deferred} {L L0:List (Nat×Value)} {C C0:List aw} {ι:Type} {Li:ι→List (Nat×Value)} {Ci:ι→List aw}
theorem bK {c:Code} (kL kC:List Nat) (hL:UI L kL=some L0) (hC0:lU C kC=some C0) (S:ι→dw) (G:ι→List aw) (hLi: ∀ x,FD L0 (S x)=some (Li x)) (hCi: ∀ x,FD C0 (G x)=some (Ci x)) (μ:ι→Nat) (x0:ι)
 (h0:dj L (S x0)) (hC: ∀ w,St E.S E.w0 C w→St E.S E.w0 (Ci x0) w)
 (round: ∀ x (J:Act→World→Prop),(∀ y D' L' C',D'=D→μ y<μ x→dj L' (Li y)→(∀ w,St E.S E.w0 C' w→St E.S E.w0 (Ci y) w)→KJ E J D' L' C')→WJ E c (Exit.then J Q) D (Li x) (Ci x)):WJ E (.loop c) Q D L C:=
 Qs Li Ci μ x0 (GN (hLi x0)▸Gs h0 hL) hC round
theorem oI {x y:Code} (kL kC:List Nat) (hL:UI L kL=some L0) (hC0:lU C kC=some C0) (S:ι→dw) (G:ι→List aw) (hLi: ∀ x,FD L0 (S x)=some (Li x)) (hCi: ∀ x,FD C0 (G x)=some (Ci x))
 (hy: ∀ z,WJ E y Q D (Li z) (Ci z)) (h: ∀ K:Act→World→Prop,(∀ z,KJ E K D (Li z) (Ci z))→WJ E x (Exit.then K Q) D L C):WJ E (.seq x y) Q D L C:=QU Li Ci hy h
end
end
section
open Go.RowKit
set_option linter.unusedSectionVars false
/-- what is asked of keys -/
structure uQ (P:Program) (kt:Nat) {K:Type} (kV:K→Value):Prop where
 check: ∀ (e:Bool) (x:K) (w:World),(Instr.checkKey e 10000 kt (kV x)).run P w= .ok () w
 find: ∀ (x:K) (w:World) (es:List MapEntry),(∀ e∈es,∃ k,e.key=kV k)→
  ((Instr.findKey kt (kV x) es).run P w= .ok none w∧ ∀ e∈es,e.key≠kV x)∨ ∃ j e,(Instr.findKey kt (kV x) es).run P w= .ok (some (j,e.val)) w∧es[j]? =some e∧e.key=kV x
 bits: ∀ x,Instr.sameBits 10000 (kV x) (kV x)=true
 inj: ∀ x y,kV x=kV y→x=y
section
variable {K:Type} [DecidableEq K] {kV:K→Value}
def eP {β:Type} (l:List (K×β)) (x:K) (y:β):List (K×β):=if (l.lookup x).isSome then l.map (fun p=>if p.1=x then (x,y) else p) else l++[(x,y)]
def cJ {β:Type} (l:List (K×β)) (x:K):List (K×β):=l.filter fun p=> !decide (p.1=x)
def bS {β γ:Type} (f:β→γ) (l:List (K×β)):List (K×γ):=l.map fun p=>(p.1,f p.2)
theorem Ho {β γ:Type} (f:β→γ) (l:List (K×β)):(bS f l).length=l.length:=by simp [bS]
theorem ny {β γ:Type} (f:β→γ) (x:K): ∀ l:List (K×β),(bS f l).lookup x=(l.lookup x).map f
 |[]=>rfl
 |p::l=>by
  obtain ⟨k,v⟩:=p
  have ih:=ny f x l
  by_cases h:x=k
  ·subst h; simp [bS,List.lookup]
  ·have:(x==k)=false:=by simpa using h
   simp only [bS,List.map_cons,List.lookup,this] at ih ⊢
   exact ih
theorem gX {β γ:Type} (f:β→γ) (l:List (K×β)) (x:K) (y:β):bS f (eP l x y)=eP (bS f l) x (f y):=by
 unfold eP
 rw [ny,Option.isSome_map]
 split
 ·simp only [bS,List.map_map]
  refine List.map_congr_left fun p _=>?_
  simp only [Function.comp]
  split<;>rfl
 ·simp [bS]
theorem l6 {β γ:Type} (f:β→γ) (l:List (K×β)) (x:K):bS f (cJ l x)=cJ (bS f l) x:=by
 unfold cJ bS
 rw [List.filter_map]
 rfl
theorem ik {β:Type} {x:K}: ∀ {l:List (K×β)},l.lookup x=none↔ ∀ p∈l,p.1≠x
 |[]=>by simp
 |p::l=>by
  obtain ⟨k,v⟩:=p
  by_cases h:x=k
  ·subst h; simp [List.lookup]
  ·have hb:(x==k)=false:=by simpa using h
   simp only [List.lookup,hb,bE,forall_eq_or_imp]
   rw [ik (l:=l)]
   exact ⟨fun q=>⟨fun e=>h e.symm,q⟩,fun q=>q.2⟩
theorem jZ {β:Type} {x:K} {y:β}: ∀ {l:List (K×β)},(l.map (·.1)).Nodup→((x,y)∈l↔l.lookup x=some y)
 |[],_=>by simp
 |p::l,hn=>by
  obtain ⟨k,v⟩:=p
  simp only [List.map_cons,List.nodup_cons] at hn
  by_cases h:x=k
  ·subst h
   simp only [List.lookup,beq_self_eq_true,bE,Prod.mk.injEq,true_and,Option.some.injEq]
   constructor
   ·rintro (e|e)
    ·exact e.symm
    ·exact absurd (bW.2 ⟨_,e,U⟩) hn.1
   ·intro e; exact .inl e.symm
  ·have hb:(x==k)=false:=by simpa using h
   simp only [List.lookup,hb,bE,Prod.mk.injEq,h,false_and,false_or]
   exact jZ hn.2
structure jn (kV:K→Value) (es:Array MapEntry) (c:Nat) (m:List (K×Value)):Prop where
 list:es.toList.map (fun (e:MapEntry)=>(e.key,e.val))=m.map (fun p=>(kV p.1,p.2))
 keys:(m.map (·.1)).Nodup
 Kp: ∀ e∈es.toList,e.born<c
 born:(es.toList.map (·.born)).Nodup
def im (kV:K→Value) (b:Nat) (m:List (K×Value)):aw where
 fI k:=k=b
 wf k:=k=b
 holds w:= ∃ es c,w.heap[b]? =some (.map es c)∧jn kV es c m
 wr:=true
 kI _ h:=h
 whole _ _ h:=h
 lt w h k hk:=by obtain ⟨es,c,he,_⟩:=h; exact hk▸eD he
 oY w w' hk h:=by obtain ⟨es,c,he,hm⟩:=h; exact ⟨es,c,(hk b rfl).trans he,hm⟩
theorem jn.nil:jn kV #[] 0 []:=⟨rfl,List.nodup_nil,sm,List.nodup_nil⟩
theorem jn.size {es:Array MapEntry} {c:Nat} {m:List (K×Value)} (h:jn kV es c m):es.size=m.length:=by
 have:=congrArg List.length h.list
 simpa using this
theorem Es {P:Program} {kt:Nat} (hk:uQ P kt kV) (x:K): ∀ (es:List MapEntry) (m:List (K×Value)),es.map (fun (e:MapEntry)=>(e.key,e.val))=m.map (fun p=>(kV p.1,p.2))→
 ((∀ e∈es,e.key≠kV x)→m.lookup x=none)∧ ∀ (j:Nat) (e:MapEntry),es[j]? =some e→e.key=kV x→m[j]? =some (x,e.val):=by
 intro es m h
 refine ⟨fun hn=>ik.2 fun p hp e=>?_,fun j e he hx=>?_⟩
 ·have:(kV p.1,p.2)∈es.map (fun (e:MapEntry)=>(e.key,e.val)):=by rw [h]; exact bW.2 ⟨p,hp,rfl⟩
  obtain ⟨z,hz,B⟩:=bW.1 this
  simp only [Prod.mk.injEq] at B
  exact hn z hz (by rw [B.1,e])
 ·have A:(es.map (fun (e:MapEntry)=>(e.key,e.val)))[j]? =some (e.key,e.val):=by rw [fP,he]; rfl
  rw [h,fP] at A
  cases hm:m[j]? with
  |none=>simp [hm] at A
  |some p=>
   simp only [hm,Option.map_some,Option.some.injEq,Prod.mk.injEq] at A
   have:=hk.inj _ _ (A.1.trans hx)
   obtain ⟨k,v⟩:=p
   simp only at this A
   rw [this,A.2]
theorem o7 {P:Program} {w:World} {kt:Nat} {x:K} {es:Array MapEntry} {c:Nat} {m:List (K×Value)} (hk:uQ P kt kV) (h:jn kV es c m):
 ((Instr.findKey kt (kV x) es.toList).run P w= .ok none w∧m.lookup x=none)∨
 ∃ j v,(Instr.findKey kt (kV x) es.toList).run P w= .ok (some (j,v)) w∧m[j]? =some (x,v)∧m.lookup x=some v:=by
 obtain ⟨D,E⟩:=Es hk x es.toList m h.list
 rcases hk.find x w es.toList (fun e he=>by
  have:(e.key,e.val)∈m.map (fun p=>(kV p.1,p.2)):=by rw [← h.list]; exact bW.2 ⟨e,he,rfl⟩
  obtain ⟨p,_,hp⟩:=bW.1 this
  simp only [Prod.mk.injEq] at hp
  exact ⟨p.1,hp.1.symm⟩) with ⟨A,B⟩|⟨j,e,A,B,C⟩
 ·exact .inl ⟨A,D B⟩
 ·have:=E j e B C
  exact .inr ⟨j,e.val,A,this,(jZ h.keys).1 (aS this)⟩
theorem jc {P:Program} {w:World} {kt:Nat} {x:K} (hk:uQ P kt kV) (e:Bool):(Instr.checkKey e 10000 kt (kV x)).run P w= .ok () w:=hk.check e x w
section
variable {E:fq} {ops:Array Oper} {Q:dk} {rest:List Oper} {D:List Deferred} {L:List (Nat×Value)} {C:List aw}
variable {dst:Option Tmp} {d:Nat} {ty:TypeId} {ps:String} {af:Array Edge} {g:Option (Nat×Bool)}
theorem nR {t:TypeId} (hg:jM ops L g=true) (hd:Nat.blt d E.n=true) (k: ∀ b,RJ E ops Q rest D ((d,.map (some b))::L) (im kV b []::C)):RJ E ops Q (⟨some d,.makeMap t none,ty,ps,af,g⟩::rest) D L C:=by
 intro a w B hs
 have hd':d<E.n:=by rw [← Nat.blt_eq]; exact hd
 unfold sH
 rw [if_pos (eo B hg)]
 refine g4 (v:= .map (some w.heap.size)) (w':=w.alloc (.map #[] 0)) sm ?_ ?_
 ·simp [execOp,Instr.makeMap,newObj,Sem.run]
 ·refine k _ _ _ (B.put hd' _) (hs.grow (ei.alloc no w _) (N:=[im kV w.heap.size []]) ⟨fun A hA=>?_,fun A hA b hb=>?_,List.pairwise_singleton _ _⟩)
  ·simp at hA; subst hA; exact ⟨#[],0,heap_alloc_new w _,jn.nil⟩
  ·simp at hA; subst hA; exact Nat.le_of_eq (Eq.symm hb)
theorem jn.push {es:Array MapEntry} {c:Nat} {m:List (K×Value)} (h:jn kV es c m) {x:K} (hx:m.lookup x=none) (v:Value):jn kV (es.push {key:=kV x,val:=v,born:=c}) (c+1) (m++[(x,v)]):=by
 refine ⟨by simp [h.list],?_,?_,?_⟩
 ·rw [List.map_append,List.nodup_append]
  refine ⟨h.keys,sm,fun a ha b hb=>?_⟩
  simp at hb; subst hb
  obtain ⟨p,hp,rfl⟩:=bW.1 ha
  exact ik.1 hx p hp
 ·intro e he
  simp only [Array.toList_push,dQ,bP] at he
  rcases he with he|rfl
  ·exact Nat.lt_succ_of_lt (h.Kp e he)
  ·exact Nat.lt_succ_self _
 ·simp only [Array.toList_push,List.map_append,List.map_cons,List.map_nil]
  rw [List.nodup_append]
  refine ⟨h.born,sm,fun a ha b hb=>?_⟩
  simp at hb; subst hb
  obtain ⟨p,hp,rfl⟩:=bW.1 ha
  exact Nat.ne_of_lt (h.Kp p hp)
theorem Of {m:List (K×Value)} {j:Nat} {x:K} {v0 v:Value} (hn:(m.map (·.1)).Nodup) (hj:m[j]? =some (x,v0)):m.map (fun p=>if p.1=x then (x,v) else p)=m.set j (x,v):=by
 refine List.ext_getElem? fun i=>?_
 rw [fP,List.getElem?_set]
 by_cases e:j=i
 ·subst e
  have hl:=(aX.1 hj).1
  rw [hj]; simp [hl]
 ·rw [if_neg e]
  cases hi:m[i]? with
  |none=>rfl
  |some p=>
   simp only [Option.map_some]
   rw [if_neg]
   intro hp
   have B:(m.map (·.1))[i]? =some x:=by rw [fP,hi]; simp [hp]
   have C:(m.map (·.1))[j]? =some x:=by rw [fP,hj]; rfl
   have A:=(aX.1 B).1
   exact e (((List.getElem?_inj A hn).1 (B.trans C.symm)).symm)
theorem jn.set {es:Array MapEntry} {c:Nat} {m:List (K×Value)} (h:jn kV es c m) {x:K} {j:Nat} {v0:Value} (hj:m[j]? =some (x,v0)) (hx:m.lookup x=some v0) (v:Value):
 jn kV (es.modify j fun e=>{e with key:=kV x,val:=v}) c (eP m x v):=by
 have C:eP m x v=m.set j (x,v):=by unfold eP; rw [hx]; simpa using Of h.keys hj
 have hl:=(aX.1 hj).1
 have E:=h.size
 have A:j<es.size:=by omega
 have B:(es.modify j fun e=>{e with key:=kV x,val:=v}).toList=es.toList.set j {(es[j]) with key:=kV x,val:=v}:=by
  refine List.ext_getElem? fun i=>?_
  rw [Array.getElem?_toList,Array.getElem?_modify,List.getElem?_set]
  by_cases e:j=i
  ·subst e; simp [A]
  ·simp [e]
 have D:(es.toList.set j {(es[j]) with key:=kV x,val:=v}).map (·.born)=es.toList.map (·.born):=by
  rw [List.map_set]
  refine List.ext_getElem? fun i=>?_
  rw [List.getElem?_set]
  by_cases e:j=i
  ·subst e; simp [A]
  ·rw [if_neg e]
 refine ⟨?_,?_,?_,?_⟩
 ·rw [B,C,List.map_set,List.map_set,h.list]
 ·rw [C,List.map_set]
  have:(m.map (·.1)).set j x=m.map (·.1):=by
   refine List.ext_getElem? fun i=>?_
   rw [List.getElem?_set]
   by_cases e:j=i
   ·subst e; simp [hl]; simpa using (congrArg Prod.fst ((aX.1 hj).2)).symm
   ·rw [if_neg e]
  simp only [this]
  exact h.keys
 ·intro e he
  rw [B] at he
  have hb:e.born∈(es.toList.set j {(es[j]) with key:=kV x,val:=v}).map (·.born):=bW.2 ⟨e,he,rfl⟩
  rw [D] at hb
  obtain ⟨e',he',hq⟩:=bW.1 hb
  rw [← hq]; exact h.Kp e' he'
 ·rw [B,D]; exact h.born
/-- m[x] = y -/
theorem jl {t kt et:TypeId} {xm xk xv:Operand} {b:Nat} {x:K} {v:Value} {m m':List (K×Value)} {C':List aw} (i:Nat) (hg:jM ops L g=true) (hm:ev L xm=some (.map (some b))) (hk:ev L xk=some (kV x)) (hv:ev L xv=some v)
 (ht:E.P.underlying t=some (.map kt et)) (hkt:uQ E.P kt kV) (hC:C[i]? =some (im kV b m)) (hm':eP m x v=m') (hC':C.set i (im kV b m')=C') (k:RJ E ops Q rest D L C'):
 RJ E ops Q (⟨none,.mapUpdate t xm xk xv,ty,ps,af,g⟩::rest) D L C:=by
 subst hm' hC'
 intro a w A hs
 unfold sH
 rw [if_pos (eo A hg)]
 obtain ⟨es,c,he,hi⟩:=hs.holds _ (aS hC)
 have B:(getObj b).run E.P w= .ok (.map es c) w:=MapKept.run_getObj_map he
 rcases o7 (P:=E.P) (w:=w) (x:=x) hkt hi with ⟨AA,F⟩|⟨j,N,AA,F,J⟩
 ·refine si (w':={w with heap:=w.heap.setIfInBounds b (.map (es.push {key:=kV x,val:=v,born:=c}) (c+1))}) sm ?_ ?_
  ·simp [execOp,A.ev hm,A.ev hk,A.ev hv,Instr.mapUpdate,run_underlying ht,B,jc hkt,AA,MapKept.run_setObj_map _ he]
  ·refine k _ _ ⟨A.defers,A.size,A.at_⟩ (hs.DV (b:=b) i hC U U (nG _) (fun _ h=>h) ⟨_,_,pH he,?_⟩)
   have:eP m x v=m++[(x,v)]:=by unfold eP; rw [F]; rfl
   rw [this]; exact hi.push F v
 ·have M:=hi.size
  have G:j<es.size:=by have:=(aX.1 F).1; omega
  have H:(es[j]).key=kV x:=by
   have:=congrArg (fun l=>l[j]?) hi.list
   simp [G,F] at this
   exact this.1
  refine si (w':={w with heap:=w.heap.setIfInBounds b (.map (es.modify j fun e=>{e with key:=kV x,val:=v}) c)}) sm ?_ ?_
  ·simp [execOp,A.ev hm,A.ev hk,A.ev hv,Instr.mapUpdate,run_underlying ht,B,jc hkt,AA,MapKept.run_setObj_map _ he,Instr.keyThatStays,G,H,hkt.bits x]
  ·exact k _ _ ⟨A.defers,A.size,A.at_⟩ (hs.DV (b:=b) i hC U U (nG _) (fun _ h=>h) ⟨_,_,pH he,hi.set F J v⟩)
theorem jn.del {es:Array MapEntry} {c:Nat} {m:List (K×Value)} (h:jn kV es c m) {x:K} {j:Nat} {v0:Value} (hj:m[j]? =some (x,v0)):jn kV (es.eraseIdxIfInBounds j) c (cJ m x):=by
 have hl:=(aX.1 hj).1
 have D:=h.size
 have A:j<es.size:=by omega
 have B:(es.eraseIdxIfInBounds j).toList=es.toList.eraseIdx j:=by simp [Array.eraseIdxIfInBounds,A]
 have E:cJ m x=m.eraseIdx j:=by
  have hn:=h.keys
  clear h D A B
  induction m generalizing j with
  |nil=>simp at hj
  |cons p m ih=>
   obtain ⟨k,v⟩:=p
   simp only [List.map_cons,List.nodup_cons] at hn
   cases j with
   |zero=>
    simp at hj
    obtain ⟨rfl,rfl⟩:=hj
    simp only [cJ,List.eraseIdx_zero,List.tail_cons]
    rw [List.filter_cons_of_neg sm]
    refine List.filter_eq_self.2 fun p hp=>?_
    have:p.1≠k:=fun e=>hn.1 (bW.2 ⟨p,hp,e⟩)
    simpa using this
   |succ j=>
    simp only [List.getElem?_cons_succ] at hj
    have C:k≠x:=fun e=>hn.1 (bW.2 ⟨_,aS hj,e.symm⟩)
    simp only [cJ,List.eraseIdx_cons_succ] at ih ⊢
    rw [List.filter_cons_of_pos (by simpa using C),ih hj (by simpa using (aX.1 hj).1) hn.2]
 have sub:(es.eraseIdxIfInBounds j).toList.Sublist es.toList:=by rw [B]; exact List.eraseIdx_sublist _ _
 refine ⟨?_,?_,fun e he=>h.Kp e (sub.subset he),h.born.sublist (sub.map _)⟩
 ·rw [B,E,ChangeMaps.map_eraseIdx,ChangeMaps.map_eraseIdx,h.list]
 ·rw [E]; exact h.keys.sublist ((List.eraseIdx_sublist _ _).map _)
theorem Ep {m:List (K×Value)} {x:K} (h:m.lookup x=none):cJ m x=m:=List.filter_eq_self.2 fun p hp=>by simpa using ik.1 h p hp
/-- y, ok := m[x] -/
theorem Jt {t kt et:TypeId} {xm xk:Operand} {b:Nat} {x:K} {z:Value} {m:List (K×Value)} (hg:jM ops L g=true) (hm:ev L xm=some (.map (some b))) (hk:ev L xk=some (kV x))
 (ht:E.P.underlying t=some (.map kt et)) (hkt:uQ E.P kt kV) (hz:tV E.P et=some z) (hC:g9 C (im kV b m).holds):
 SD E ops ⟨dst,.lookup t xm xk true,ty,ps,af,g⟩ D L C (.tuple [(m.lookup x).getD z,.bool (m.lookup x).isSome].toArray):=
 dW hg sm fun a w A hs=>by
  obtain ⟨es,c,he,hi⟩:=hs.has hC
  have B:(getObj b).run E.P w= .ok (.map es c) w:=MapKept.run_getObj_map he
  rcases o7 (P:=E.P) (w:=w) (x:=x) hkt hi with ⟨F,G⟩|⟨j,AA,F,G,H⟩
  ·simp [execOp,Instr.lookup,A.ev hm,A.ev hk,run_underlying ht,B,jc hkt,F,G,Kn hz]
  ·simp [execOp,Instr.lookup,A.ev hm,A.ev hk,run_underlying ht,B,jc hkt,F,H]
/-- m[x] -/
theorem Ib {t kt et:TypeId} {xm xk:Operand} {b:Nat} {x:K} {z:Value} {m:List (K×Value)} (hg:jM ops L g=true) (hm:ev L xm=some (.map (some b))) (hk:ev L xk=some (kV x))
 (ht:E.P.underlying t=some (.map kt et)) (hkt:uQ E.P kt kV) (hz:tV E.P et=some z) (hC:g9 C (im kV b m).holds):
 SD E ops ⟨dst,.lookup t xm xk false,ty,ps,af,g⟩ D L C ((m.lookup x).getD z):=
 dW hg sm fun a w A hs=>by
  obtain ⟨es,c,he,hi⟩:=hs.has hC
  have B:(getObj b).run E.P w= .ok (.map es c) w:=MapKept.run_getObj_map he
  rcases o7 (P:=E.P) (w:=w) (x:=x) hkt hi with ⟨F,G⟩|⟨j,AA,F,G,H⟩
  ·simp [execOp,Instr.lookup,A.ev hm,A.ev hk,run_underlying ht,B,jc hkt,F,G,Kn hz]
  ·simp [execOp,Instr.lookup,A.ev hm,A.ev hk,run_underlying ht,B,jc hkt,F,H]
/-- len(m) -/
theorem Mq {t kt et:TypeId} {xm:Operand} {b:Nat} {m:List (K×Value)} (hg:jM ops L g=true) (hm:ev L xm=some (.map (some b))) (ht:E.P.underlying t=some (.map kt et)) (hC:g9 C (im kV b m).holds):
 SD E ops ⟨dst,.call {callee:= .builtin .len,args:= #[xm],argTypes:= #[t]},ty,ps,af,g⟩ D L C (.int .i64 (m.length:Int)):=
 dW hg sm fun a w B hs=>by
  obtain ⟨es,c,he,hi⟩:=hs.has hC
  have A:(getObj b).run E.P w= .ok (.map es c) w:=MapKept.run_getObj_map he
  simp [execOp,resolve,invoke,builtin,B.ev hm,Builtin.len_,run_underlying ht,A,hi.size,goInt]
theorem j3 {β:Type} {t kt et:TypeId} {xm xk:Operand} {b:Nat} {x:K} {f:β→Value} {z:β} {l:List (K×β)} (hg:jM ops L g=true) (hm:ev L xm=some (.map (some b))) (hk:ev L xk=some (kV x))
 (ht:E.P.underlying t=some (.map kt et)) (hkt:uQ E.P kt kV) (hz:tV E.P et=some (f z)) (hC:g9 C (im kV b (bS f l)).holds):
 SD E ops ⟨dst,.lookup t xm xk true,ty,ps,af,g⟩ D L C (.tuple [f ((l.lookup x).getD z),.bool (l.lookup x).isSome].toArray):=by
 have:=Jt (dst:=dst) (ty:=ty) (ps:=ps) (af:=af) (D:=D) hg hm hk ht hkt hz hC
 rw [ny] at this
 have A:((l.lookup x).map f).getD (f z)=f ((l.lookup x).getD z):=by cases l.lookup x<;>rfl
 rw [A,Option.isSome_map] at this
 exact this
theorem iT {β:Type} {t kt et:TypeId} {xm xk:Operand} {b:Nat} {x:K} {f:β→Value} {z:β} {l:List (K×β)} (hg:jM ops L g=true) (hm:ev L xm=some (.map (some b))) (hk:ev L xk=some (kV x))
 (ht:E.P.underlying t=some (.map kt et)) (hkt:uQ E.P kt kV) (hz:tV E.P et=some (f z)) (hC:g9 C (im kV b (bS f l)).holds):
 SD E ops ⟨dst,.lookup t xm xk false,ty,ps,af,g⟩ D L C (f ((l.lookup x).getD z)):=by
 have:=Ib (dst:=dst) (ty:=ty) (ps:=ps) (af:=af) (D:=D) hg hm hk ht hkt hz hC
 rw [ny] at this
 have A:((l.lookup x).map f).getD (f z)=f ((l.lookup x).getD z):=by cases l.lookup x<;>rfl
 rw [A] at this
 exact this
theorem s_ {β:Type} {t kt et:TypeId} {xm:Operand} {b:Nat} {f:β→Value} {l:List (K×β)} (hg:jM ops L g=true) (hm:ev L xm=some (.map (some b))) (ht:E.P.underlying t=some (.map kt et)) (hC:g9 C (im kV b (bS f l)).holds):
 SD E ops ⟨dst,.call {callee:= .builtin .len,args:= #[xm],argTypes:= #[t]},ty,ps,af,g⟩ D L C (.int .i64 (l.length:Int)):=by
 have:=Mq (dst:=dst) (ty:=ty) (ps:=ps) (af:=af) (D:=D) hg hm ht hC
 rwa [Ho] at this
end
theorem fg {β:Type} {x:K} {y:β} {l:List (K×β)} (h:(x,y)∈l):(cJ l x).length<l.length:=by
 unfold cJ
 exact List.length_filter_lt_length_iff_exists.2 ⟨_,h,sm⟩
theorem ko {β:Type} {x:K} {p:K×β} {l:List (K×β)}:p∈cJ l x↔p∈l∧p.1≠x:=by simp [cJ]
/-- an iterator over a map: what is left; what came last -/
def zO (kV:K→Value) (r b:Nat) (m left:List (K×Value)) (cur:Option (K×Value)):aw where
 fI k:=k=r∨k=b
 wf k:=k=r∨k=b
 holds w:=r≠b∧ ∃ (es:Array MapEntry) (c since:Nat) (seen:Array Nat) (st:Nat),w.heap[b]? =some (.map es c)∧jn kV es c m∧w.heap[r]? =some (.mapIter (some b) since seen st)∧(∀ e∈es.toList,e.born<since)∧since≤st∧since≤c∧
  (leftOf es seen).toList.map (fun (e:MapEntry)=>(e.key,e.val))=left.map (fun p=>(kV p.1,p.2))∧
  ∀ p,cur=some p→ ∃ (e:MapEntry) (seen0:Array Nat),e∈es.toList∧seen=seen0.push e.born∧st=c∧e.key=kV p.1∧e.val=p.2
 wr:=true
 kI _ h:=h
 whole _ _ h:=h
 lt w h k hk:=by
  obtain ⟨_,es,c,since,seen,st,h1,_,h2,_⟩:=h
  rcases hk with rfl|rfl
  ·exact eD h2
  ·exact eD h1
 oY w w' hk h:=by
  obtain ⟨hne,es,c,since,seen,st,h1,h2,h3,h4⟩:=h
  exact ⟨hne,es,c,since,seen,st,(hk b (.inr rfl)).trans h1,h2,(hk r (.inl rfl)).trans h3,h4⟩
theorem yL {r b:Nat} {m left:List (K×Value)} {cur:Option (K×Value)}:(∀ w,(zO kV r b m left cur).holds w→(zO kV r b m left none).holds w)∧(∀ k,(zO kV r b m left none).fI k→(zO kV r b m left cur).fI k)∧ ∀ k,(zO kV r b m left none).wf k→(zO kV r b m left cur).wf k:=
 ⟨fun w h=>by
  obtain ⟨A,es,c,since,seen,st,B,C,D,E,F,h5',G,_⟩:=h
  exact ⟨A,es,c,since,seen,st,B,C,D,E,F,h5',G,fun p hp=>by cases hp⟩,fun _ h=>h,fun _ h=>h⟩
theorem KD {r b:Nat} {m left:List (K×Value)} {cur:Option (K×Value)}:(∀ w,(zO kV r b m left cur).holds w→(im kV b m).holds w)∧(∀ k,(im kV b m).fI k→(zO kV r b m left cur).fI k)∧ ∀ k,(im kV b m).wf k→(zO kV r b m left cur).wf k:=
 ⟨fun w h=>by
  obtain ⟨C,es,c,since,seen,st,A,B,_⟩:=h
  exact ⟨es,c,A,B⟩,fun _ h=> .inr h,fun _ h=> .inr h⟩
theorem Dl {es:Array MapEntry} {c:Nat} {m:List (K×Value)} (hinj: ∀ x y,kV x=kV y→x=y) (hi:jn kV es c m) {x y:MapEntry} (hx:x∈es.toList) (hy:y∈es.toList) (e:x.key=y.key):x=y:=by
 have hk:(es.toList.map (·.key))=(m.map (·.1)).map kV:=by
  have:=congrArg (List.map Prod.fst) hi.list
  simpa [Function.comp_def] using this
 have h:(es.toList.map (·.key)).Nodup:=by
  rw [hk,List.nodup_iff_pairwise_ne,List.pairwise_map]
  exact hi.keys.imp (fun B he=>B (hinj _ _ he))
 obtain ⟨i,A⟩:=List.getElem?_of_mem hx
 obtain ⟨j,hj⟩:=List.getElem?_of_mem hy
 have C:(es.toList.map (·.key))[i]? =some x.key:=by rw [fP,A]; rfl
 have D:(es.toList.map (·.key))[j]? =some x.key:=by rw [fP,hj,e]; rfl
 have E:=(List.getElem?_inj (aX.1 C).1 h).1 (C.trans D.symm)
 subst E
 exact Option.some.inj (A.symm.trans hj)
section
variable {E:fq} {ops:Array Oper} {Q:dk} {rest:List Oper} {D:List Deferred} {L:List (Nat×Value)} {C:List aw}
variable {dst:Option Tmp} {d:Nat} {ty:TypeId} {ps:String} {af:Array Edge} {g:Option (Nat×Bool)}
theorem vh {t kt et:TypeId} {xm:Operand} {b:Nat} {m:List (K×Value)} (i:Nat) (hg:jM ops L g=true) (hm:ev L xm=some (.map (some b))) (ht:E.P.underlying t=some (.map kt et)) (hC:C[i]? =some (im kV b m)) (hd:Nat.blt d E.n=true)
 (k: ∀ r,RJ E ops Q rest D ((d,.pointer (some ⟨r,0,none⟩))::L) (C.set i (zO kV r b m m none))):RJ E ops Q (⟨some d,.range t xm,ty,ps,af,g⟩::rest) D L C:=by
 intro a w A hs
 have hd':d<E.n:=by rw [← Nat.blt_eq]; exact hd
 unfold sH
 rw [if_pos (eo A hg)]
 obtain ⟨es,c,he,hi⟩:=hs.holds _ (aS hC)
 have F:b<w.heap.size:=eD he
 have B:(getObj b).run E.P w= .ok (.map es c) w:=MapKept.run_getObj_map he
 refine g4 (v:= .pointer (some ⟨w.heap.size,0,none⟩)) (w':=w.alloc (.mapIter (some b) c #[] c)) sm ?_ ?_
 ·simp [execOp,Instr.range,A.ev hm,run_underlying ht,B,newObj,Sem.run]
 ·refine k _ _ _ (A.put hd' _) (hs.mv i hC ⟨⟨I,es,c,c,#[],c,?_,hi,heap_alloc_new w _,hi.Kp,Nat.le_refl _,Nat.le_refl _,?_,fun p hp=>by cases hp⟩,ei.alloc _ w _,fun q hq=>?_,fun q hq=>?_⟩)
  ·rw [Below.heap_alloc w _ b F]; exact he
  ·have:leftOf es #[]=es:=by unfold leftOf; exact Array.filter_eq_self.2 sm
   rw [this]; exact hi.list
  ·rcases hq with rfl|rfl
   ·exact .inr (Nat.le_refl _)
   ·exact .inl U
  ·rcases hq with rfl|rfl
   ·exact .inr (Nat.le_refl _)
   ·exact .inl U
theorem xH {es:Array MapEntry} {c:Nat} {m left:List (K×Value)} {seen:Array Nat} (hinj: ∀ x y,kV x=kV y→x=y) (hi:jn kV es c m) (h:(leftOf es seen).toList.map (fun (e:MapEntry)=>(e.key,e.val))=left.map (fun p=>(kV p.1,p.2))):(left.map (·.1)).Nodup:=by
 have B:((leftOf es seen).toList.map (·.key)).Sublist (es.toList.map (·.key)):=by
  unfold leftOf; rw [Array.toList_filter]; exact List.filter_sublist.map _
 have D:(es.toList.map (·.key))=(m.map (·.1)).map kV:=by
  have:=congrArg (List.map Prod.fst) hi.list
  simpa [Function.comp_def] using this
 have E:((leftOf es seen).toList.map (·.key))=(left.map (·.1)).map kV:=by
  have:=congrArg (List.map Prod.fst) h
  simpa [Function.comp_def] using this
 rw [D,E] at B
 have F:((m.map (·.1)).map kV).Nodup:=by
  rw [List.nodup_iff_pairwise_ne,List.pairwise_map]
  exact hi.keys.imp (fun A he=>A (hinj _ _ he))
 have C:=F.sublist B
 rw [List.nodup_iff_pairwise_ne,List.pairwise_map] at C
 rw [List.nodup_iff_pairwise_ne]
 exact C.imp (fun A he=>A (by rw [he]))
theorem KT (hinj: ∀ x y,kV x=kV y→x=y) {xi:Operand} {r b:Nat} {m left:List (K×Value)} {cur:Option (K×Value)} (i:Nat) (hg:jM ops L g=true) (hm:ev L xi=some (.pointer (some ⟨r,0,none⟩))) (hC:C[i]? =some (zO kV r b m left cur)) (hd:Nat.blt d E.n=true)
 (k0:left=[]→RJ E ops Q rest D ((d,.tuple [.bool false].toArray)::L) C)
 (k1: ∀ x v,(x,v)∈left→(left.map (·.1)).Nodup→RJ E ops Q rest D ((d,.tuple [.bool true,kV x,v].toArray)::L) (C.set i (zO kV r b m (cJ left x) (some (x,v))))):
 RJ E ops Q (⟨some d,.next xi false,ty,ps,af,g⟩::rest) D L C:=by
 intro a w G hs
 have hd':d<E.n:=by rw [← Nat.blt_eq]; exact hd
 unfold sH
 rw [if_pos (eo G hg)]
 obtain ⟨R,es,c,since,seen,st,X,hi,Y,J,V,M,A,_⟩:=hs.holds _ (aS hC)
 rcases run_next_at (P:=E.P) w ty r b since st seen es c Y X J V with ⟨Z,hr⟩|⟨e,he,N,H,hr⟩
 ·refine g4 (v:= .tuple #[.bool false]) (w':=w) sm ?_ ?_
  ·simp [execOp,G.ev hm,hr]
  ·refine k0 ?_ _ _ (G.put hd' _) hs
   have:(leftOf es seen).toList=[]:=by rw [← List.length_eq_zero_iff,Array.length_toList]; exact Z
   rw [this] at A
   exact List.map_eq_nil_iff.1 A.symm
 ·have O:(e.key,e.val)∈left.map (fun p=>(kV p.1,p.2)):=by rw [← A]; exact bW.2 ⟨e,he,rfl⟩
  obtain ⟨p,hp,S⟩:=bW.1 O
  obtain ⟨x,v⟩:=p
  simp only [Prod.mk.injEq] at S
  obtain ⟨hk,hv⟩:=S
  refine g4 (v:= .tuple #[.bool true,e.key,e.val]) (w':=ChangeMaps.setBlock N r (.mapIter (some b) since (seen.push e.born) c)) sm ?_ ?_
  ·simp [execOp,G.ev hm,hr]
  ·rw [← hk,← hv]
   have AA:=xH hinj hi A
   have F:e∈es.toList:=by unfold leftOf at he; rw [Array.toList_filter] at he; exact (List.mem_filter.1 he).1
   have f:c=c:=rfl
   have B:N.heap=w.heap:=by rcases H with rfl|rfl<;>rfl
   refine k1 x v hp AA _ _ (G.put hd' _) (hs.mv i hC ⟨⟨R,es,c,since,seen.push e.born,c,?_,hi,?_,J,M,M,?_,fun q hq=>?_⟩,?_,fun q hq=> .inl hq,fun q hq=> .inl hq⟩)
   ·show (N.heap.setIfInBounds r _)[b]? =_
    rw [Array.getElem?_setIfInBounds_ne R,B]; exact X
   ·show (N.heap.setIfInBounds r _)[r]? =_
    rw [Array.getElem?_setIfInBounds_self_of_lt (by rw [B]; exact eD Y)]
   ·have T:leftOf es (seen.push e.born)=(leftOf es seen).filter (fun z=> !(z.born==e.born)):=by
     unfold leftOf
     rw [Array.filter_filter]
     congr 1
     funext z
     simp only [Array.contains_push,Bool.not_or]
     rw [Bool.and_comm]
    rw [T,Array.toList_filter]
    have key: ∀ (l:List MapEntry) (ll:List (K×Value)),(∀ z∈l,z∈es.toList)→l.map (fun (e:MapEntry)=>(e.key,e.val))=ll.map (fun p=>(kV p.1,p.2))→
     (l.filter (fun z=> !(z.born==e.born))).map (fun (e:MapEntry)=>(e.key,e.val))=(cJ ll x).map (fun p=>(kV p.1,p.2)):=by
     intro l
     induction l with
     |nil=>intro ll _ h; cases ll with
      |nil=>rfl
      |cons p ll=>simp at h
     |cons z l ih=>
      intro ll hz h
      cases ll with
      |nil=>simp at h
      |cons p ll=>
       simp only [List.map_cons,List.cons.injEq,Prod.mk.injEq] at h
       have ih':=ih ll (fun y hy=>hz y (by simp [hy])) h.2
       have AB:(z.born=e.born)↔(p.1=x):=by
        constructor
        ·intro hb
         have:z=e:=DN hi.born (hz z sm) F hb
         rw [this] at h
         have:=h.1.1.symm.trans hk.symm
         exact hinj _ _ this
        ·intro hx
         have W:z.key=e.key:=by rw [h.1.1,hx,hk]
         rw [Dl hinj hi (hz z sm) F W]
       unfold cJ at ih' ⊢
       by_cases hx:p.1=x
       ·rw [List.filter_cons_of_neg (by simp [AB.2 hx]),List.filter_cons_of_neg (by simp [hx])]; exact ih'
       ·rw [List.filter_cons_of_pos (by simpa using fun hb=>hx (AB.1 hb)),List.filter_cons_of_pos (by simpa using hx)]
        simp only [List.map_cons,h.1.1,h.1.2,ih']
    exact key _ _ (fun z hz=>by unfold leftOf at hz; rw [Array.toList_filter] at hz; exact (List.mem_filter.1 hz).1) A
   ·cases hq
    exact ⟨e,seen,F,U,U,hk.symm,hv.symm⟩
   ·refine ⟨?_,?_,?_,?_,fun q hq hn=>?_⟩
    ·rcases H with rfl|rfl<;>rfl
    ·rcases H with rfl|rfl<;>rfl
    ·rcases H with rfl|rfl<;>rfl
    ·show w.heap.size≤(N.heap.setIfInBounds r _).size
     simp [B]
    ·show (N.heap.setIfInBounds r _)[q]? =_
     rw [Array.getElem?_setIfInBounds_ne (fun e=>hn (.inl e.symm)),B]
theorem sW {xi:Operand} {r b:Nat} {m left:List (K×Value)} {x:K} {v:Value} (i:Nat) (hg:jM ops L g=true) (hm:ev L xi=some (.pointer (some ⟨r,0,none⟩))) (hC:C[i]? =some (zO kV r b m left (some (x,v)))):
 SD E ops ⟨dst,.entry xi,ty,ps,af,g⟩ D L C (.tuple [kV x,v].toArray):=
 dW hg sm fun a w F hs=>by
  obtain ⟨N,es,c,since,seen,st,J,hi,M,H,O,AA,G,B⟩:=hs.holds _ (aS hC)
  obtain ⟨e,A,he,rfl,rfl,hk,hv⟩:=B _ rfl
  have:=run_entry_at (P:=E.P) w r b since A es st e M J he hi.born
  simp [execOp,F.ev hm,this,hk,hv]
theorem tg (hinj: ∀ x y,kV x=kV y→x=y) {β:Type} {f:β→Value} {xi:Operand} {r b:Nat} {m:List (K×Value)} {ll:List (K×β)} {cur:Option (K×Value)} (i:Nat) (hg:jM ops L g=true) (hm:ev L xi=some (.pointer (some ⟨r,0,none⟩))) (hC:C[i]? =some (zO kV r b m (bS f ll) cur)) (hd:Nat.blt d E.n=true)
 (k0:ll=[]→RJ E ops Q rest D ((d,.tuple [.bool false].toArray)::L) C)
 (k1: ∀ x y,(x,y)∈ll→(ll.map (·.1)).Nodup→RJ E ops Q rest D ((d,.tuple [.bool true,kV x,f y].toArray)::L) (C.set i (zO kV r b m (bS f (cJ ll x)) (some (x,f y))))):
 RJ E ops Q (⟨some d,.next xi false,ty,ps,af,g⟩::rest) D L C:=by
 refine KT hinj i hg hm hC hd (fun h=>k0 (List.map_eq_nil_iff.1 h)) (fun x v B hn=>?_)
 obtain ⟨p,hp,A⟩:=bW.1 B
 simp only [Prod.mk.injEq] at A
 obtain ⟨rfl,rfl⟩:=A
 have:=k1 p.1 p.2 hp (by simpa [bS,Function.comp_def] using hn)
 rwa [l6] at this
end
end
end
section
structure bT where
 Start:Int
 fZ:Int
 qp:List Int
 vV:List (List (Int×aa))
 cD:Int
 dM:Int
 QL:Int
def bT.n (w:bT):Nat:=w.qp.length
def fy (s:Int):aF:=if s<0 then ⟨0,1⟩ else ⟨1,0⟩
def dC (a b:aF):aF:=⟨a.right+b.right,a.e9+b.e9⟩
def tM (w:bT) (b:Nat):List (Int×aa):=(w.vV[b]?).getD []
def iM (w:bT) (b:Nat):List (Int×aa):=(-1,⟨w.Start,w.fZ⟩)::tM w b
def bX (w:bT) (b:Nat):Int:=(w.qp[b]?).getD 0
def kX (w:bT) (b:Nat) (p:aF×Int) (o:Int×aa):Option (aF×Int):=if max (p.2+bX w b) o.2.Lo≤min o.2.Hi w.fZ then some (dC p.1 (fy o.1),max (p.2+bX w b) o.2.Lo) else none
def fwd (w:bT):Nat→List (aF×Int)
 |0=>[(⟨0,0⟩,w.Start)]
 |b+1=>(fwd w b).flatMap fun p=>(iM w b).filterMap (kX w b p)
def ot (w:bT) (b:Nat) (p:aF×Int) (o:Int×aa):Option (aF×Int):=if o.2.Lo≤min p.2 o.2.Hi then some (dC p.1 (fy o.1),min p.2 o.2.Hi-bX w b) else none
def bwd (w:bT):Nat→List (aF×Int)
 |0=>[(⟨0,0⟩,w.fZ)]
 |k+1=>(⟨0,0⟩,w.fZ)::(bwd w k).flatMap fun p=>(iM w (w.n-(k+1))).filterMap (ot w (w.n-(k+1)) p)
def back (w:bT) (b:Nat):List (aF×Int):=bwd w (w.n-b)
def kQ (w:bT) (t:aF):Bool:=decide (t.e9≤w.cD∧w.QL-t.right≤w.dM)
theorem fY {w:bT} {b:Nat} {q:aF×Int}:q∈fwd w (b+1)↔ ∃ p∈fwd w b,∃ o∈iM w b,kX w b p o=some q:=by
 simp only [fwd,List.mem_flatMap,List.mem_filterMap]
theorem uM {w:bT} {b:Nat} (h:w.n≤b):back w b=[(⟨0,0⟩,w.fZ)]:=by
 unfold back; rw [Nat.sub_eq_zero_of_le h]; rfl
theorem pf {w:bT} {b:Nat} (h:b<w.n) {q:aF×Int}:q∈back w b↔q=(⟨0,0⟩,w.fZ)∨ ∃ p∈back w (b+1),∃ o∈iM w b,ot w b p o=some q:=by
 unfold back
 have e:w.n-b=(w.n-(b+1))+1:=by omega
 rw [e]
 simp only [bwd,bE,List.mem_flatMap,List.mem_filterMap]
 rw [show w.n-(w.n-(b+1)+1)=b by omega]
def tO (m c:List (aF×Int)):Prop:=(∀ t v,m.lookup t=some v→(t,v)∈c)∧ ∀ t y,(t,y)∈c→ ∃ v,m.lookup t=some v∧v≤y
def vQ (m c:List (aF×Int)):Prop:=(∀ t v,m.lookup t=some v→(t,v)∈c)∧ ∀ t y,(t,y)∈c→ ∃ v,m.lookup t=some v∧y≤v
def v8 (m c:List (aF×Int)):Prop:= ∀ t v,m.lookup t=some v→(t,v)∈c
theorem ni {K β:Type} [DecidableEq K] {m:List (K×β)} {x t:K} {y:β}:(eP m x y).lookup t=if t=x then some y else m.lookup t:=by
 unfold eP
 by_cases hx:(m.lookup x).isSome
 ·rw [if_pos hx]
  have key: ∀ l:List (K×β),(l.lookup x).isSome∨True→(l.map (fun p=>if p.1=x then (x,y) else p)).lookup t=if t=x then (if (l.lookup x).isSome then some y else none) else l.lookup t:=by
   intro l _
   induction l with
   |nil=>simp
   |cons p l ih=>
    obtain ⟨k,v⟩:=p
    have ih:=ih (.inr trivial)
    by_cases hk:k=x
    ·subst hk
     by_cases ht:t=k
     ·subst ht; simp [List.lookup]
     ·have:(t==k)=false:=by simpa using ht
      simp only [List.map_cons,if_true,List.lookup,this,ih,if_neg ht]
    ·have hk':(x==k)=false:=by simpa using fun e=>hk e.symm
     by_cases ht:t=k
     ·subst ht; simp [List.lookup,hk]
     ·have A:(t==k)=false:=by simpa using ht
      simp only [List.map_cons,if_neg hk,List.lookup,A,ih,hk']
  rw [key m (.inr trivial)]
  by_cases ht:t=x
  ·subst ht
   rw [if_pos rfl,if_pos rfl,if_pos hx]
  ·rw [if_neg ht,if_neg ht]
 ·rw [if_neg hx]
  have hn:m.lookup x=none:=by cases h0:m.lookup x with
   |none=>rfl
   |some v=>exact absurd (by rw [h0]; rfl) hx
  by_cases ht:t=x
  ·subst ht
   rw [if_pos rfl]
   have:=ik.1 hn
   clear hn hx
   induction m with
   |nil=>simp
   |cons p m ih=>
    obtain ⟨k,v⟩:=p
    have hk:(t==k)=false:=by simpa using fun e=>this (k,v) sm e.symm
    simp only [List.cons_append,List.lookup,hk]
    exact ih (fun q hq=>this q (c_ _ hq))
  ·rw [if_neg ht]
   clear hn hx
   induction m with
   |nil=>
    have:(t==x)=false:=by simpa using ht
    simp [List.lookup,this]
   |cons p m ih=>
    obtain ⟨k,v⟩:=p
    by_cases hk:t=k
    ·subst hk; simp [List.lookup]
    ·have:(t==k)=false:=by simpa using hk
     simp only [List.cons_append,List.lookup,this]
     exact ih
/-- what a map is after a try -/
def pG (m:List (aF×Int)) (q:aF×Int):List (aF×Int):=match m.lookup q.1 with
 |none=>eP m q.1 q.2
 |some v=>if q.2<v then eP m q.1 q.2 else m
def pA (m:List (aF×Int)) (q:aF×Int):List (aF×Int):=match m.lookup q.1 with
 |none=>eP m q.1 q.2
 |some v=>if v<q.2 then eP m q.1 q.2 else m
theorem w7 {m:List (aF×Int)} {q:aF×Int} {t:aF}:(pG m q).lookup t=if t=q.1 then some (match m.lookup q.1 with |none=>q.2|some v=>min q.2 v) else m.lookup t:=by
 unfold pG
 cases h:m.lookup q.1 with
 |none=>simp only; rw [ni]
 |some v=>
  simp only
  split
  ·rename_i A
   rw [ni,Int.min_eq_left I]
  ·rename_i A
   split
   ·rename_i e; subst e; rw [h,Int.min_eq_right I]
   ·rfl
theorem xo {m:List (aF×Int)} {q:aF×Int} {t:aF}:(pA m q).lookup t=if t=q.1 then some (match m.lookup q.1 with |none=>q.2|some v=>max q.2 v) else m.lookup t:=by
 unfold pA
 cases h:m.lookup q.1 with
 |none=>simp only; rw [ni]
 |some v=>
  simp only
  split
  ·rename_i A
   rw [ni,Int.max_eq_left I]
  ·rename_i A
   split
   ·rename_i e; subst e; rw [h,Int.max_eq_right I]
   ·rfl
def yN (m m':List (aF×Int)):Prop:= ∀ t v,m.lookup t=some v→ ∃ v',m'.lookup t=some v'∧v'≤v
def xO (m m':List (aF×Int)):Prop:= ∀ t v,m.lookup t=some v→ ∃ v',m'.lookup t=some v'∧v≤v'
theorem yN.refl (m:List (aF×Int)):yN m m:=fun t v h=>⟨v,h,I⟩
theorem xO.refl (m:List (aF×Int)):xO m m:=fun t v h=>⟨v,h,I⟩
theorem vL {m:List (aF×Int)} {q:aF×Int}:yN m (pG m q):=fun t v h=>by
 rw [w7]
 split
 ·rename_i e; subst e; rw [h]; exact ⟨_,rfl,by simp only; omega⟩
 ·exact ⟨v,h,I⟩
theorem q9 {m:List (aF×Int)} {q:aF×Int}:xO m (pA m q):=fun t v h=>by
 rw [xo]
 split
 ·rename_i e; subst e; rw [h]; exact ⟨_,rfl,by simp only; omega⟩
 ·exact ⟨v,h,I⟩
theorem HJ {m c:List (aF×Int)} {q:aF×Int} (h:v8 m c) (hq:q∈c):v8 (pG m q) c:=fun t v hv=>by
 rw [w7] at hv
 split at hv
 ·rename_i e
  subst e
  cases hm:m.lookup q.1 with
  |none=>simp only [hm,Option.some.injEq] at hv; subst hv; exact hq
  |some x=>
   simp only [hm,Option.some.injEq] at hv; subst hv
   rcases Int.lt_or_le q.2 x with A|A
   ·rw [Int.min_eq_left I]; exact hq
   ·rw [Int.min_eq_right I]; exact h _ _ hm
 ·exact h t v hv
theorem Ig {m c:List (aF×Int)} {q:aF×Int} (h:v8 m c) (hq:q∈c):v8 (pA m q) c:=fun t v hv=>by
 rw [xo] at hv
 split at hv
 ·rename_i e
  subst e
  cases hm:m.lookup q.1 with
  |none=>simp only [hm,Option.some.injEq] at hv; subst hv; exact hq
  |some x=>
   simp only [hm,Option.some.injEq] at hv; subst hv
   rcases Int.lt_or_le q.2 x with A|A
   ·rw [Int.max_eq_right I]; exact h _ _ hm
   ·rw [Int.max_eq_left I]; exact hq
 ·exact h t v hv
theorem HN {m:List (aF×Int)} {q:aF×Int}: ∃ v,(pG m q).lookup q.1=some v∧v≤q.2:=by
 rw [w7,if_pos rfl]
 refine ⟨_,U,?_⟩
 cases m.lookup q.1<;>simp only <;>omega
theorem G6 {m:List (aF×Int)} {q:aF×Int}: ∃ v,(pA m q).lookup q.1=some v∧q.2≤v:=by
 rw [xo,if_pos rfl]
 refine ⟨_,U,?_⟩
 cases m.lookup q.1<;>simp only <;>omega
/-- all that comes of one entry, by some options, is held -/
def jk (w:bT) (b:Nat) (m:List (aF×Int)) (p:aF×Int) (os:List (Int×aa)):Prop:= ∀ o∈os,∀ q,kX w b p o=some q→ ∃ v,m.lookup q.1=some v∧v≤q.2
def jq (w:bT) (b:Nat) (m:List (aF×Int)) (p:aF×Int) (os:List (Int×aa)):Prop:= ∀ o∈os,∀ q,ot w b p o=some q→ ∃ v,m.lookup q.1=some v∧q.2≤v
theorem jk.lower {w:bT} {b:Nat} {m m':List (aF×Int)} {p:aF×Int} {os:List (Int×aa)} (h:jk w b m p os) (hl:yN m m'):jk w b m' p os:=fun o ho q hq=>by
 obtain ⟨v,A,C⟩:=h o ho q hq
 obtain ⟨v',B,D⟩:=hl _ _ A
 exact ⟨v',B,I⟩
theorem jq.upper {w:bT} {b:Nat} {m m':List (aF×Int)} {p:aF×Int} {os:List (Int×aa)} (h:jq w b m p os) (hl:xO m m'):jq w b m' p os:=fun o ho q hq=>by
 obtain ⟨v,A,C⟩:=h o ho q hq
 obtain ⟨v',B,D⟩:=hl _ _ A
 exact ⟨v',B,I⟩
theorem jk.sub {w:bT} {b:Nat} {m:List (aF×Int)} {p:aF×Int} {os os':List (Int×aa)} (h:jk w b m p os) (hs: ∀ o∈os',o∈os):jk w b m p os':=fun o ho=>h o (hs o ho)
theorem jq.sub {w:bT} {b:Nat} {m:List (aF×Int)} {p:aF×Int} {os os':List (Int×aa)} (h:jq w b m p os) (hs: ∀ o∈os',o∈os):jq w b m p os':=fun o ho=>h o (hs o ho)
theorem jk.add {w:bT} {b:Nat} {m m':List (aF×Int)} {p:aF×Int} {os:List (Int×aa)} {o:Int×aa} (h:jk w b m p os) (hl:yN m m') (hn: ∀ q,kX w b p o=some q→ ∃ v,m'.lookup q.1=some v∧v≤q.2):jk w b m' p (os++[o]):=fun o' ho q hq=>by
 rcases dQ.1 ho with ho|ho
 ·exact h.lower hl o' ho q hq
 ·simp only [bP] at ho; subst ho; exact hn q hq
theorem jq.add {w:bT} {b:Nat} {m m':List (aF×Int)} {p:aF×Int} {os:List (Int×aa)} {o:Int×aa} (h:jq w b m p os) (hl:xO m m') (hn: ∀ q,ot w b p o=some q→ ∃ v,m'.lookup q.1=some v∧q.2≤v):jq w b m' p (os++[o]):=fun o' ho q hq=>by
 rcases dQ.1 ho with ho|ho
 ·exact h.upper hl o' ho q hq
 ·simp only [bP] at ho; subst ho; exact hn q hq
theorem fH {m:List (aF×Int)} (hn:(m.map (·.1)).Nodup) {t:aF} {v:Int}:(t,v)∈m↔m.lookup t=some v:=jZ hn
theorem pC {z t:aF} {x v:Int}:List.lookup t [(z,x)]=some v↔t=z∧v=x:=by
 by_cases e:t=z
 ·subst e; simp [List.lookup,eq_comm]
 ·have:(t==z)=false:=by simpa using e
  simp [List.lookup,this,e]
theorem Hg {w:bT}:tO [(⟨0,0⟩,w.Start)] (fwd w 0):=by
 refine ⟨fun t v h=>?_,fun t y h=>?_⟩
 ·obtain ⟨rfl,rfl⟩:=pC.1 h
  simp [fwd]
 ·simp only [fwd,bP,Prod.mk.injEq] at h
  obtain ⟨rfl,rfl⟩:=h
  exact ⟨w.Start,pC.2 ⟨U,U⟩,Int.le_refl _⟩
theorem KF {w:bT} {b:Nat} {mb m:List (aF×Int)} (hn:(mb.map (·.1)).Nodup) (h:tO mb (fwd w b)) (hs:v8 m (fwd w (b+1))) (hd: ∀ p∈mb,jk w b m p (iM w b)):tO m (fwd w (b+1)):=⟨hs,fun t y hy=>by
 obtain ⟨p,hp,o,ho,e⟩:=fY.1 hy
 obtain ⟨v,B,E⟩:=h.2 p.1 p.2 hp
 unfold kX at e
 split at e
 ·rename_i D
  simp only [Option.some.injEq,Prod.mk.injEq] at e
  obtain ⟨v',A,C⟩:=hd (p.1,v) ((fH hn).2 B) o ho (dC p.1 (fy o.1),max (v+bX w b) o.2.Lo) (by unfold kX; rw [if_pos (by simp only; omega)])
  simp only at A C
  rw [e.1] at A
  exact ⟨v',A,I⟩
 ·cases e⟩
theorem JB {w:bT} {b:Nat} (hb:w.n≤b):vQ [(⟨0,0⟩,w.fZ)] (back w b):=by
 rw [uM hb]
 refine ⟨fun t v h=>?_,fun t y h=>?_⟩
 ·obtain ⟨rfl,rfl⟩:=pC.1 h
  simp
 ·simp only [bP,Prod.mk.injEq] at h
  obtain ⟨rfl,rfl⟩:=h
  exact ⟨w.fZ,pC.2 ⟨U,U⟩,Int.le_refl _⟩
theorem MK {w:bT} {b:Nat} (hb:b<w.n) {mb m:List (aF×Int)} (hn:(mb.map (·.1)).Nodup) (h:vQ mb (back w (b+1))) (hs:v8 m (back w b)) (h0: ∃ v,m.lookup ⟨0,0⟩=some v∧w.fZ≤v) (hd: ∀ p∈mb,jq w b m p (iM w b)):vQ m (back w b):=⟨hs,fun t y hy=>by
 rcases (pf hb).1 hy with e|⟨p,hp,o,ho,e⟩
 ·simp only [Prod.mk.injEq] at e
  obtain ⟨rfl,rfl⟩:=e
  exact h0
 obtain ⟨v,B,E⟩:=h.2 p.1 p.2 hp
 unfold ot at e
 split at e
 ·rename_i D
  simp only [Option.some.injEq,Prod.mk.injEq] at e
  obtain ⟨v',A,C⟩:=hd (p.1,v) ((fH hn).2 B) o ho (dC p.1 (fy o.1),min v o.2.Hi-bX w b) (by unfold ot; rw [if_pos (by simp only; omega)])
  simp only at A C
  rw [e.1] at A
  exact ⟨v',A,I⟩
 ·cases e⟩
end
section
def jJ (w:bT) (b:Nat) (p u:aF×Int) (o:Int×aa):aa:=⟨max (p.2+bX w b) o.2.Lo,min u.2 o.2.Hi⟩
def xI (p u:aF×Int) (o:Int×aa):aF:=dC (dC p.1 u.1) (fy o.1)
def mU (w:bT) (b:Nat) (p u:aF×Int) (o:Int×aa):Option (Int×aa):=if (jJ w b p u o).Lo≤(jJ w b p u o).Hi∧kQ w (xI p u o)=true then some (o.1,jJ w b p u o) else none
def qm (w:bT) (b:Nat) (mf mb:List (aF×Int)):List (Int×aa):=(iM w b).flatMap fun o=>mf.flatMap fun p=>mb.filterMap fun u=>mU w b p u o
def mF (w:bT) (b:Nat):List (Int×aa):=qm w b (fwd w b) (back w (b+1))
theorem ir {w:bT} {b:Nat} {mf mb:List (aF×Int)} {q:Int×aa}:q∈qm w b mf mb↔ ∃ o∈iM w b,∃ p∈mf,∃ u∈mb,mU w b p u o=some q:=by
 simp only [qm,List.mem_flatMap,List.mem_filterMap]
theorem jE {w:bT} {b:Nat} {p u:aF×Int} {o q:Int×aa}:mU w b p u o=some q↔(jJ w b p u o).Lo≤(jJ w b p u o).Hi∧kQ w (xI p u o)=true∧q=(o.1,jJ w b p u o):=by
 unfold mU
 split
 ·rename_i h
  simp only [Option.some.injEq]
  exact ⟨fun e=>⟨h.1,h.2,e.symm⟩,fun e=>e.2.2.symm⟩
 ·rename_i h
  simp only [reduceCtorEq,false_iff]
  exact fun e=>h ⟨e.1,e.2.1⟩
theorem nq {w:bT} {b:Nat} {mf mb:List (aF×Int)} {q:Int×aa} (h:q∈qm w b mf mb):q.2.Lo≤q.2.Hi:=by
 obtain ⟨o,_,p,_,u,_,e⟩:=ir.1 h
 obtain ⟨A,_,rfl⟩:=jE.1 e
 exact A
/-- what the maps tell is what all ways tell -/
theorem Ov {w:bT} {b:Nat} {mf mb:List (aF×Int)} (hf:tO mf (fwd w b)) (hb:vQ mb (back w (b+1))) (nf:(mf.map (·.1)).Nodup) (nb:(mb.map (·.1)).Nodup) {q:Int×aa} (h:q∈qm w b mf mb):q∈mF w b:=by
 obtain ⟨o,ho,p,hp,u,hu,e⟩:=ir.1 h
 exact ir.2 ⟨o,ho,p,hf.1 _ _ ((fH nf).1 hp),u,hb.1 _ _ ((fH nb).1 hu),e⟩
theorem Ju {w:bT} {b:Nat} {mf mb:List (aF×Int)} (hf:tO mf (fwd w b)) (hb:vQ mb (back w (b+1))) (nf:(mf.map (·.1)).Nodup) (nb:(mb.map (·.1)).Nodup) {q:Int×aa} (h:q∈mF w b): ∃ q'∈qm w b mf mb,q'.1=q.1∧q'.2.Lo≤q.2.Lo∧q.2.Hi≤q'.2.Hi:=by
 obtain ⟨o,ho,p,hp,u,hu,e⟩:=ir.1 h
 obtain ⟨A,B,rfl⟩:=jE.1 e
 obtain ⟨v,hv,C⟩:=hf.2 p.1 p.2 hp
 obtain ⟨y,hy,D⟩:=hb.2 u.1 u.2 hu
 simp only [jJ] at A
 refine ⟨(o.1,jJ w b (p.1,v) (u.1,y) o),ir.2 ⟨o,ho,(p.1,v),(fH nf).2 hv,(u.1,y),(fH nb).2 hy,jE.2 ⟨?_,B,U⟩⟩,U,?_,?_⟩
 ·simp only [jJ]; omega
 ·simp only [jJ]; omega
 ·simp only [jJ]; omega
def mN:aa:=⟨1,0⟩
def mL (h x:aa):aa:=if h=mN then x else ⟨min x.Lo h.Lo,max x.Hi h.Hi⟩
def wc (l:List (Int×aa)):aa:=l.foldl (fun h q=>mL h q.2) mN
structure oT (l:List (Int×aa)) (h:aa):Prop where
 le:h.Lo≤h.Hi
 lo: ∃ x∈l,x.2.Lo=h.Lo
 hi: ∃ x∈l,x.2.Hi=h.Hi
 all: ∀ x∈l,h.Lo≤x.2.Lo∧x.2.Hi≤h.Hi
def kD (l:List (Int×aa)) (h:aa):Prop:=(l=[]∧h=mN)∨oT l h
theorem oT.ne {l:List (Int×aa)} {h:aa} (hh:oT l h):h≠mN:=fun e=>by
 have:=hh.le; rw [e] at this; simp [mN] at this
theorem DC:kD [] mN:= .inl ⟨rfl,rfl⟩
theorem vt {l:List (Int×aa)} {h:aa} {q:Int×aa} (hh:kD l h) (hq:q.2.Lo≤q.2.Hi):kD (l++[q]) (mL h q.2):=by
 right
 rcases hh with ⟨rfl,rfl⟩|hh
 ·unfold mL
  rw [if_pos rfl]
  exact ⟨hq,⟨q,sm,rfl⟩,⟨q,sm,rfl⟩,fun x hx=>by simp at hx; subst hx; exact ⟨Int.le_refl _,Int.le_refl _⟩⟩
 ·unfold mL
  rw [if_neg hh.ne]
  have A:=hh.le
  obtain ⟨a,ha,ea⟩:=hh.lo
  obtain ⟨c,hc,ec⟩:=hh.hi
  refine ⟨by simp only; omega,?_,?_,fun x hx=>?_⟩
  ·rcases Int.lt_or_le q.2.Lo h.Lo with p|p
   ·exact ⟨q,sm,by simp only; omega⟩
   ·exact ⟨a,by simp [ha],by simp only; omega⟩
  ·rcases Int.lt_or_le h.Hi q.2.Hi with p|p
   ·exact ⟨q,sm,by simp only; omega⟩
   ·exact ⟨c,by simp [hc],by simp only; omega⟩
  ·rcases dQ.1 hx with hx|hx
   ·have:=hh.all x hx; simp only; omega
   ·simp at hx; subst hx; simp only; omega
theorem uO {l:List (Int×aa)} (hl: ∀ q∈l,q.2.Lo≤q.2.Hi):kD l (wc l):=by
 have key: ∀ (r d:List (Int×aa)) (h:aa),(∀ q∈r,q.2.Lo≤q.2.Hi)→kD d h→kD (d++r) (r.foldl (fun h q=>mL h q.2) h):=by
  intro r
  induction r with
  |nil=>intro d h _ hd; simpa using hd
  |cons q r ih=>
   intro d h hr hd
   have:=ih (d++[q]) (mL h q.2) (fun x hx=>hr x (c_ _ hx)) (vt hd (hr q sm))
   simpa using this
 have:=key l [] mN hl DC
 rw [List.nil_append] at this
 exact this
def Fb (a b:List (Int×aa)):Prop:= ∀ x∈b,∃ y∈a,y.2.Lo≤x.2.Lo∧x.2.Hi≤y.2.Hi
theorem O3 {a b:List (Int×aa)} {h k:aa} (ha:kD a h) (hb:kD b k) (hab:Fb a b) (hba:Fb b a):h=k:=by
 rcases ha with ⟨rfl,rfl⟩|ha
 ·rcases hb with ⟨rfl,rfl⟩|hb
  ·rfl
  ·obtain ⟨x,hx,_⟩:=hb.lo
   obtain ⟨y,hy,_⟩:=hab x hx
   cases hy
 ·rcases hb with ⟨rfl,rfl⟩|hb
  ·obtain ⟨x,hx,_⟩:=ha.lo
   obtain ⟨y,hy,_⟩:=hba x hx
   cases hy
  ·have le: ∀ {a b:List (Int×aa)} {h k:aa},oT a h→oT b k→Fb a b→h.Lo≤k.Lo∧k.Hi≤h.Hi:=fun {a b h k} ha hb hab=>by
    obtain ⟨x,hx,ex⟩:=hb.lo
    obtain ⟨z,hz,ez⟩:=hb.hi
    obtain ⟨y,hy,ey⟩:=hab x hx
    obtain ⟨y',hy',ey'⟩:=hab z hz
    have A:=ha.all y hy
    have B:=ha.all y' hy'
    omega
   have A:=le ha hb hab
   have B:=le hb ha hba
   rw [aa.ext_iff]; omega
theorem zc {w:bT} {b:Nat} {mf mb:List (aF×Int)} {l:List (Int×aa)} {h:aa} (hf:tO mf (fwd w b)) (hb:vQ mb (back w (b+1))) (nf:(mf.map (·.1)).Nodup) (nb:(mb.map (·.1)).Nodup)
 (hl: ∀ q∈l,q∈qm w b mf mb) (hl2: ∀ q∈qm w b mf mb,q∈l) (hh:kD l h):h=wc (mF w b):=
 O3 hh (uO fun q hq=>nq hq) (fun x hx=>by
  obtain ⟨q,hq,_,A,B⟩:=Ju hf hb nf nb hx
  exact ⟨q,hl2 q hq,A,B⟩) (fun x hx=>⟨x,Ov hf hb nf nb (hl x hx),Int.le_refl _,Int.le_refl _⟩)
def jC (w:bT) (m:List (aF×Int)):Bool:=m.any fun p=>kQ w p.1
theorem Cs {w:bT} {b:Nat} {m:List (aF×Int)} (h:tO m (fwd w b)) (nf:(m.map (·.1)).Nodup):jC w m=jC w (fwd w b):=by
 unfold jC
 rw [Bool.eq_iff_iff,List.any_eq_true,List.any_eq_true]
 constructor
 ·rintro ⟨p,hp,A⟩
  exact ⟨p,h.1 _ _ ((fH nf).1 hp),A⟩
 ·rintro ⟨p,hp,A⟩
  obtain ⟨v,hv,_⟩:=h.2 p.1 p.2 hp
  exact ⟨(p.1,v),(fH nf).2 hv,A⟩
def kB (w:bT) (k:Nat):List Int:=((List.range k).filter fun i=>jC w (fwd w i)).map fun (i:Nat)=>(i:Int)
def jU (w:bT):List Int:=kB w (w.n+1)
theorem Fj {w:bT} {k:Nat} (h:jC w (fwd w k)=true):kB w (k+1)=kB w k++[(k:Int)]:=by simp [kB,List.range_succ,h]
theorem HH {w:bT} {k:Nat} (h:jC w (fwd w k)=false):kB w (k+1)=kB w k:=by simp [kB,List.range_succ,h]
theorem x5 {w:bT} {k:Nat}:(kB w k).length≤k:=by
 unfold kB
 rw [List.length_map]
 exact Nat.le_trans (List.length_filter_le _ _) sm
end
section
open Go.RowKit
theorem HY {P:Program} {t:Nat} {k:IntKind} (hu:P.underlying t=some (.int k)) (e:Bool) (n:Nat) (v:Value) (w:World):(Instr.checkKey e (n+1) t v).run P w= .ok () w:=by
 unfold Instr.checkKey
 simp only [Sem.run_bind,run_underlying hu,Result.andThen]
 cases v<;>rfl
theorem Bm {P:Program} {kt:Nat} {l:List (Nat×Nat)} (hl:fL P kt=some l) (e:Bool) (n:Nat) (cs:Array Value) (w:World)
 (hf: ∀ p∈l,(∃ v,(part p.1 cs p.2).run P w= .ok v w)∧ ∃ k,P.underlying p.1=some (.int k)):(Instr.checkKey e (n+2) kt (.agg cs)).run P w= .ok () w:=by
 unfold fL at hl
 cases hu:P.underlying kt with
 |none=>simp [hu] at hl
 |some d=>
  cases d<;>simp [hu] at hl
  rename_i fs
  obtain ⟨hn,hl⟩:=hl
  rw [show n+2=(n+1)+1 from rfl,Instr.checkKey]
  simp only [Sem.run_bind,run_underlying hu,Result.andThen_ok]
  rw [← Array.forIn_toList]
  have A: ∀ f∈fs.toList,(∃ v,(part f.type cs f.offset).run P w= .ok v w)∧ ∃ k,P.underlying f.type=some (.int k):=fun f hf'=>hf (f.type,f.offset) (by rw [← hl]; exact bW.2 ⟨f,hf',rfl⟩)
  have B: ∀ f∈fs.toList,f.name≠"_":=fun f hf'=>by
   obtain ⟨i,hi,rfl⟩:=List.getElem_of_mem hf'
   exact hn.1.1 i (by simpa using hi)
  clear hl hn hf
  generalize fs.toList=L at A B
  induction L with
  |nil=>simp
  |cons f L ih=>
   obtain ⟨⟨v,hv⟩,k,hk⟩:=A f sm
   have C:=B f sm
   simp only [List.forIn_cons,Sem.run_bind,C,ne_eq,not_false_eq_true,if_true,Result.andThen_ok,hv,HY hk,Sem.run_pure]
   exact ih (fun y hy=>A y (by simp [hy])) (fun y hy=>B y (by simp [hy]))
theorem Dh {P:Program} {kt:Nat} {K:Type} [DecidableEq K] {kV:K→Value} (hw: ∀ (k:Value) (es:List MapEntry) (w:World),(Instr.findKey kt k es).run P w=(Instr.findAsking kt k es).run P w)
 (heq: ∀ x y w,(Op.equal kt (kV x) (kV y)).run P w= .ok (decide (x=y)) w) (inj: ∀ x y,kV x=kV y→x=y) (x:K) (w:World) (es:List MapEntry) (hk: ∀ e∈es,∃ k,e.key=kV k):
 ((Instr.findKey kt (kV x) es).run P w= .ok none w∧ ∀ e∈es,e.key≠kV x)∨ ∃ j e,(Instr.findKey kt (kV x) es).run P w= .ok (some (j,e.val)) w∧es[j]? =some e∧e.key=kV x:=by
 have key: ∀ (es:List MapEntry) (i:Nat),(∀ e∈es,∃ k,e.key=kV k)→((Instr.findAsking kt (kV x) es i).run P w= .ok none w∧ ∀ e∈es,e.key≠kV x)∨ ∃ j e,(Instr.findAsking kt (kV x) es i).run P w= .ok (some (i+j,e.val)) w∧es[j]? =some e∧e.key=kV x:=by
  intro es
  induction es with
  |nil=>intro i _; exact .inl ⟨by simp [Instr.findAsking],sm⟩
  |cons e es ih=>
   intro i B
   obtain ⟨k,A⟩:=B e sm
   by_cases h:x=k
   ·refine .inr ⟨0,e,?_,U,by rw [A,h]⟩
    subst h
    simp [Instr.findAsking,A,heq]
   ·rcases ih (i+1) (fun y hy=>B y (by simp [hy])) with ⟨C,D⟩|⟨j,e',C,D,E⟩
    ·refine .inl ⟨by simp [Instr.findAsking,A,heq,h,C],fun y hy=>?_⟩
     rcases bE.1 hy with rfl|hy
     ·rw [A]; exact fun q=>h (inj _ _ q).symm
     ·exact D y hy
    ·exact .inr ⟨j+1,e',by simp [Instr.findAsking,A,heq,h,C]; omega,by simpa using D,E⟩
 rw [hw]
 rcases key es 0 hk with h|⟨j,e,C,D,E⟩
 ·exact .inl h
 ·exact .inr ⟨j,e,by simpa using C,D,E⟩
theorem D4 {P:Program} {kt:Nat} {l:List (Nat×Nat)} (hl:fL P kt=some l) (k:Value) (es:List MapEntry) (w:World):(Instr.findKey kt k es).run P w=(Instr.findAsking kt k es).run P w:=by
 refine run_findKey_eq w ?_ k es
 unfold fL at hl
 cases hu:P.underlying kt with
 |none=>simp [hu] at hl
 |some d=>cases d<;>simp [hu] at hl ⊢
theorem OV {P:Program} {kt:Nat} {K:Type} [DecidableEq K] {kV:K→Value} {l:List (Nat×Nat)} (hl:fL P kt=some l) (heq: ∀ x y w,(Op.equal kt (kV x) (kV y)).run P w= .ok (decide (x=y)) w) (inj: ∀ x y,kV x=kV y→x=y)
 (hb: ∀ x,Instr.sameBits 10000 (kV x) (kV x)=true) (hp: ∀ x w,∃ cs,kV x= .agg cs∧ ∀ p∈l,(∃ v,(part p.1 cs p.2).run P w= .ok v w)∧ ∃ k,P.underlying p.1=some (.int k)):uQ P kt kV:=
 ⟨fun e x w=>by obtain ⟨cs,A,B⟩:=hp x w; rw [A]; exact Bm hl e 9998 cs w B,fun x w es=>Dh (D4 hl) heq inj x w es,hb,inj⟩
end
section
open Go.RowKit
set_option linter.unusedSectionVars false
theorem dT {P:Program} {kt:Nat} (hk:P.underlying kt=some (.int .i64)):uQ P kt (Value.int .i64):=by
 refine ⟨fun e x w=>Iu hk e,fun x w es A=>?_,fun x=>by simp [Instr.sameBits],fun x y h=>by injection h⟩
 have key: ∀ (es:List MapEntry) (i:Nat),(∀ e∈es,∃ k:Int,e.key= .int .i64 k)→(Instr.findNow (.int .i64) (.int .i64 x) es i=some none∧ ∀ e∈es,e.key≠ .int .i64 x)∨ ∃ j e,Instr.findNow (.int .i64) (.int .i64 x) es i=some (some (i+j,e.val))∧es[j]? =some e∧e.key= .int .i64 x:=by
  intro es
  induction es with
  |nil=>intro i _; exact .inl ⟨rfl,sm⟩
  |cons e es ih=>
   intro i A
   obtain ⟨k,B⟩:=A e sm
   by_cases h:x=k
   ·subst h
    exact .inr ⟨0,e,by simp [Instr.findNow,Instr.sameNow,B],U,B⟩
   ·have hb:(x==k)=false:=by simpa using h
    rcases ih (i+1) (fun y hy=>A y (by simp [hy])) with ⟨C,D⟩|⟨j,e',C,D,E⟩
    ·refine .inl ⟨by simp [Instr.findNow,Instr.sameNow,B,hb,C],fun y hy=>?_⟩
     rcases bE.1 hy with rfl|hy
     ·rw [B]; intro q; injection q with _ q; exact h q.symm
     ·exact D y hy
    ·refine .inr ⟨j+1,e',?_,by simpa using D,E⟩
     simp only [Instr.findNow,Instr.sameNow,B,hb,if_true,C]
     simp; omega
 rcases key es 0 A with ⟨C,D⟩|⟨j,e,C,D,E⟩
 ·exact .inl ⟨MapKept.run_findKey hk C,D⟩
 ·exact .inr ⟨j,e,MapKept.run_findKey hk (by simpa using C),D,E⟩
theorem St.O8 {S:BS} {w0 w w':World} {C:List aw} {A N:aw} (h:St S w0 C w) (i:Nat) (hA:C[i]? =some A) (k:ei no w w') (hN:N.holds w') (hf: ∀ b,N.fI b→w.heap.size≤b∨A.fI b∧ ¬ A.wf b∧ ¬ N.wf b):St S w0 (N::C) w':=by
 have h':=h.same k
 have G:=aS hA
 have hi:=(aX.1 hA).1
 have B:C[i]=A:=(aX.1 hA).2
 refine ⟨h'.keeps,fun X hX=>?_,List.Pairwise.cons (fun X hX b hb hb'=>?_) h'.sep,fun X hX b hb=>?_,fun X hX b hb=>?_⟩
 ·rcases bE.1 hX with rfl|hX
  ·exact hN
  ·exact h'.holds X hX
 ·rcases hf b hb with E|⟨E,AA,H⟩
  ·have:=X.lt w (h.holds X hX) b hb'; omega
  ·refine ⟨H,?_⟩
   obtain ⟨j,hj,D⟩:=List.mem_iff_getElem.1 hX
   by_cases e:j=i
   ·subst e; rw [← D,B]; exact AA
   ·rcases Nat.lt_or_gt_of_ne e with F|F
    ·have:=eW.1 h.sep j i hj hi F b (by rw [D]; exact hb') (by rw [B]; exact E)
     rw [← D]; exact this.1
    ·have:=eW.1 h.sep i j hi hj F b (by rw [B]; exact E) (by rw [D]; exact hb')
     rw [← D]; exact this.2
 ·rcases bE.1 hX with rfl|hX
  ·rcases hf b (X.kI b hb) with E|⟨_,_,H⟩
   ·exact .inl (Nat.le_trans h.keeps.size E)
   ·exact absurd hb H
  ·exact h'.own X hX b hb
 ·rcases bE.1 hX with rfl|hX
  ·rcases hf b hb with E|⟨E,_,_⟩
   ·exact .inl (Nat.le_trans h.keeps.size E)
   ·exact h.seen A G b E
  ·exact h'.seen X hX b hb
section
variable {K:Type} [DecidableEq K] {kV:K→Value}
/-- an iterator over a map that is read alone -/
def zh (kV:K→Value) (r b:Nat) (m left:List (K×Value)) (cur:Option (K×Value)):aw where
 fI k:=k=r∨k=b
 wf k:=k=r
 holds w:=r≠b∧ ∃ (es:Array MapEntry) (c since:Nat) (seen:Array Nat) (st:Nat),w.heap[b]? =some (.map es c)∧jn kV es c m∧w.heap[r]? =some (.mapIter (some b) since seen st)∧(∀ e∈es.toList,e.born<since)∧since≤st∧since≤c∧
  (leftOf es seen).toList.map (fun (e:MapEntry)=>(e.key,e.val))=left.map (fun p=>(kV p.1,p.2))∧
  ∀ p,cur=some p→ ∃ (e:MapEntry) (seen0:Array Nat),e∈es.toList∧seen=seen0.push e.born∧st=c∧e.key=kV p.1∧e.val=p.2
 wr:=false
 kI _ h:= .inl h
 whole h:=by cases h
 lt w h k hk:=by
  obtain ⟨_,es,c,since,seen,st,h1,_,h2,_⟩:=h
  rcases hk with rfl|rfl
  ·exact eD h2
  ·exact eD h1
 oY w w' hk h:=by
  obtain ⟨hne,es,c,since,seen,st,h1,h2,h3,h4⟩:=h
  exact ⟨hne,es,c,since,seen,st,(hk b (.inr rfl)).trans h1,h2,(hk r (.inl rfl)).trans h3,h4⟩
theorem fT {r b:Nat} {m left:List (K×Value)} {cur:Option (K×Value)}:(∀ w,(zh kV r b m left cur).holds w→(zh kV r b m left none).holds w)∧(∀ k,(zh kV r b m left none).fI k→(zh kV r b m left cur).fI k)∧ ∀ k,(zh kV r b m left none).wf k→(zh kV r b m left cur).wf k:=
 ⟨fun w h=>by
  obtain ⟨A,es,c,since,seen,st,B,C,D,E,F,h5',G,_⟩:=h
  exact ⟨A,es,c,since,seen,st,B,C,D,E,F,h5',G,fun p hp=>by cases hp⟩,fun _ h=>h,fun _ h=>h⟩
section
variable {E:fq} {ops:Array Oper} {Q:dk} {rest:List Oper} {D:List Deferred} {L:List (Nat×Value)} {C:List aw}
variable {dst:Option Tmp} {d:Nat} {ty:TypeId} {ps:String} {af:Array Edge} {g:Option (Nat×Bool)}
theorem j1 {t kt et:TypeId} {xm:Operand} {b:Nat} {m:List (K×Value)} {A:aw} (i:Nat) (hg:jM ops L g=true) (hm:ev L xm=some (.map (some b))) (ht:E.P.underlying t=some (.map kt et)) (hA:C[i]? =some A) (hAf:A.fI b∧ ¬ A.wf b) (hC:g9 C (im kV b m).holds) (hd:Nat.blt d E.n=true)
 (k: ∀ r,RJ E ops Q rest D ((d,.pointer (some ⟨r,0,none⟩))::L) (zh kV r b m m none::C)):RJ E ops Q (⟨some d,.range t xm,ty,ps,af,g⟩::rest) D L C:=by
 intro a w B hs
 have hd':d<E.n:=by rw [← Nat.blt_eq]; exact hd
 unfold sH
 rw [if_pos (eo B hg)]
 obtain ⟨es,c,he,hi⟩:=hs.has hC
 have G:b<w.heap.size:=eD he
 have F:(getObj b).run E.P w= .ok (.map es c) w:=MapKept.run_getObj_map he
 refine g4 (v:= .pointer (some ⟨w.heap.size,0,none⟩)) (w':=w.alloc (.mapIter (some b) c #[] c)) sm ?_ ?_
 ·simp [execOp,Instr.range,B.ev hm,run_underlying ht,F,newObj,Sem.run]
 ·refine k _ _ _ (B.put hd' _) (hs.O8 i hA (ei.alloc no w _) ⟨I,es,c,c,#[],c,?_,hi,heap_alloc_new w _,hi.Kp,Nat.le_refl _,Nat.le_refl _,?_,fun p hp=>by cases hp⟩ (fun q hq=>?_))
  ·rw [Below.heap_alloc w _ b G]; exact he
  ·have:leftOf es #[]=es:=by unfold leftOf; exact Array.filter_eq_self.2 sm
   rw [this]; exact hi.list
  ·rcases hq with rfl|rfl
   ·exact .inl (Nat.le_refl _)
   ·refine .inr ⟨hAf.1,hAf.2,fun (e:q=w.heap.size)=>by omega⟩
theorem G9 (hinj: ∀ x y,kV x=kV y→x=y) {xi:Operand} {r b:Nat} {m left:List (K×Value)} {cur:Option (K×Value)} (i:Nat) (hg:jM ops L g=true) (hm:ev L xi=some (.pointer (some ⟨r,0,none⟩))) (hC:C[i]? =some (zh kV r b m left cur)) (hd:Nat.blt d E.n=true)
 (k0:left=[]→RJ E ops Q rest D ((d,.tuple [.bool false].toArray)::L) C)
 (k1: ∀ x v,(x,v)∈left→(left.map (·.1)).Nodup→RJ E ops Q rest D ((d,.tuple [.bool true,kV x,v].toArray)::L) (C.set i (zh kV r b m (cJ left x) (some (x,v))))):
 RJ E ops Q (⟨some d,.next xi false,ty,ps,af,g⟩::rest) D L C:=by
 intro a w G hs
 have hd':d<E.n:=by rw [← Nat.blt_eq]; exact hd
 unfold sH
 rw [if_pos (eo G hg)]
 obtain ⟨R,es,c,since,seen,st,X,hi,Y,J,V,M,A,_⟩:=hs.holds _ (aS hC)
 rcases run_next_at (P:=E.P) w ty r b since st seen es c Y X J V with ⟨Z,hr⟩|⟨e,he,N,H,hr⟩
 ·refine g4 (v:= .tuple #[.bool false]) (w':=w) sm ?_ ?_
  ·simp [execOp,G.ev hm,hr]
  ·refine k0 ?_ _ _ (G.put hd' _) hs
   have:(leftOf es seen).toList=[]:=by rw [← List.length_eq_zero_iff,Array.length_toList]; exact Z
   rw [this] at A
   exact List.map_eq_nil_iff.1 A.symm
 ·have O:(e.key,e.val)∈left.map (fun p=>(kV p.1,p.2)):=by rw [← A]; exact bW.2 ⟨e,he,rfl⟩
  obtain ⟨p,hp,S⟩:=bW.1 O
  obtain ⟨x,v⟩:=p
  simp only [Prod.mk.injEq] at S
  obtain ⟨hk,hv⟩:=S
  refine g4 (v:= .tuple #[.bool true,e.key,e.val]) (w':=ChangeMaps.setBlock N r (.mapIter (some b) since (seen.push e.born) c)) sm ?_ ?_
  ·simp [execOp,G.ev hm,hr]
  ·rw [← hk,← hv]
   have AA:=xH hinj hi A
   have F:e∈es.toList:=by unfold leftOf at he; rw [Array.toList_filter] at he; exact (List.mem_filter.1 he).1
   have f:c=c:=rfl
   have B:N.heap=w.heap:=by rcases H with rfl|rfl<;>rfl
   refine k1 x v hp AA _ _ (G.put hd' _) (hs.mv i hC ⟨⟨R,es,c,since,seen.push e.born,c,?_,hi,?_,J,M,M,?_,fun q hq=>?_⟩,?_,fun q hq=> .inl hq,fun q hq=> .inl hq⟩)
   ·show (N.heap.setIfInBounds r _)[b]? =_
    rw [Array.getElem?_setIfInBounds_ne R,B]; exact X
   ·show (N.heap.setIfInBounds r _)[r]? =_
    rw [Array.getElem?_setIfInBounds_self_of_lt (by rw [B]; exact eD Y)]
   ·have T:leftOf es (seen.push e.born)=(leftOf es seen).filter (fun z=> !(z.born==e.born)):=by
     unfold leftOf
     rw [Array.filter_filter]
     congr 1
     funext z
     simp only [Array.contains_push,Bool.not_or]
     rw [Bool.and_comm]
    rw [T,Array.toList_filter]
    have key: ∀ (l:List MapEntry) (ll:List (K×Value)),(∀ z∈l,z∈es.toList)→l.map (fun (e:MapEntry)=>(e.key,e.val))=ll.map (fun p=>(kV p.1,p.2))→
     (l.filter (fun z=> !(z.born==e.born))).map (fun (e:MapEntry)=>(e.key,e.val))=(cJ ll x).map (fun p=>(kV p.1,p.2)):=by
     intro l
     induction l with
     |nil=>intro ll _ h; cases ll with
      |nil=>rfl
      |cons p ll=>simp at h
     |cons z l ih=>
      intro ll hz h
      cases ll with
      |nil=>simp at h
      |cons p ll=>
       simp only [List.map_cons,List.cons.injEq,Prod.mk.injEq] at h
       have ih':=ih ll (fun y hy=>hz y (by simp [hy])) h.2
       have AB:(z.born=e.born)↔(p.1=x):=by
        constructor
        ·intro hb
         have:z=e:=DN hi.born (hz z sm) F hb
         rw [this] at h
         have:=h.1.1.symm.trans hk.symm
         exact hinj _ _ this
        ·intro hx
         have W:z.key=e.key:=by rw [h.1.1,hx,hk]
         rw [Dl hinj hi (hz z sm) F W]
       unfold cJ at ih' ⊢
       by_cases hx:p.1=x
       ·rw [List.filter_cons_of_neg (by simp [AB.2 hx]),List.filter_cons_of_neg (by simp [hx])]; exact ih'
       ·rw [List.filter_cons_of_pos (by simpa using fun hb=>hx (AB.1 hb)),List.filter_cons_of_pos (by simpa using hx)]
        simp only [List.map_cons,h.1.1,h.1.2,ih']
    exact key _ _ (fun z hz=>by unfold leftOf at hz; rw [Array.toList_filter] at hz; exact (List.mem_filter.1 hz).1) A
   ·cases hq
    exact ⟨e,seen,F,U,U,hk.symm,hv.symm⟩
   ·refine ⟨?_,?_,?_,?_,fun q hq hn=>?_⟩
    ·rcases H with rfl|rfl<;>rfl
    ·rcases H with rfl|rfl<;>rfl
    ·rcases H with rfl|rfl<;>rfl
    ·show w.heap.size≤(N.heap.setIfInBounds r _).size
     simp [B]
    ·show (N.heap.setIfInBounds r _)[q]? =_
     rw [Array.getElem?_setIfInBounds_ne (fun e=>hn e.symm),B]
theorem js {xi:Operand} {r b:Nat} {m left:List (K×Value)} {x:K} {v:Value} (i:Nat) (hg:jM ops L g=true) (hm:ev L xi=some (.pointer (some ⟨r,0,none⟩))) (hC:C[i]? =some (zh kV r b m left (some (x,v)))):
 SD E ops ⟨dst,.entry xi,ty,ps,af,g⟩ D L C (.tuple [kV x,v].toArray):=
 dW hg sm fun a w F hs=>by
  obtain ⟨N,es,c,since,seen,st,J,hi,M,H,O,AA,G,B⟩:=hs.holds _ (aS hC)
  obtain ⟨e,A,he,rfl,rfl,hk,hv⟩:=B _ rfl
  have:=run_entry_at (P:=E.P) w r b since A es st e M J he hi.born
  simp [execOp,F.ev hm,this,hk,hv]
theorem jw (hinj: ∀ x y,kV x=kV y→x=y) {β:Type} {f:β→Value} {xi:Operand} {r b:Nat} {m:List (K×Value)} {ll:List (K×β)} {cur:Option (K×Value)} (i:Nat) (hg:jM ops L g=true) (hm:ev L xi=some (.pointer (some ⟨r,0,none⟩))) (hC:C[i]? =some (zh kV r b m (bS f ll) cur)) (hd:Nat.blt d E.n=true)
 (k0:ll=[]→RJ E ops Q rest D ((d,.tuple [.bool false].toArray)::L) C)
 (k1: ∀ x y,(x,y)∈ll→(ll.map (·.1)).Nodup→RJ E ops Q rest D ((d,.tuple [.bool true,kV x,f y].toArray)::L) (C.set i (zh kV r b m (bS f (cJ ll x)) (some (x,f y))))):
 RJ E ops Q (⟨some d,.next xi false,ty,ps,af,g⟩::rest) D L C:=by
 refine G9 hinj i hg hm hC hd (fun h=>k0 (List.map_eq_nil_iff.1 h)) (fun x v B hn=>?_)
 obtain ⟨p,hp,A⟩:=bW.1 B
 simp only [Prod.mk.injEq] at A
 obtain ⟨rfl,rfl⟩:=A
 have:=k1 p.1 p.2 hp (by simpa [bS,Function.comp_def] using hn)
 rwa [l6] at this
theorem zJ {t kt et:TypeId} {xm xk xv:Operand} {b:Nat} {x:K} {v:Value} {m m':List (K×Value)} {C':List aw} (i:Nat) (hg:jM ops L g=true) (hm:ev L xm=some (.map (some b))) (hk:ev L xk=some (kV x)) (hv:ev L xv=some v)
 (ht:E.P.underlying t=some (.map kt et)) (hkt:uQ E.P kt kV) (hC:C[i]? =some (im kV b m)) (hm':eP m x v=m') (hC':C.set i (im kV b m')=C') (k:RJ E ops Q rest D L C'):
 RJ E ops Q (⟨none,.insert t xm xk xv,ty,ps,af,g⟩::rest) D L C:=by
 subst hm' hC'
 intro a w A hs
 unfold sH
 rw [if_pos (eo A hg)]
 obtain ⟨es,c,he,hi⟩:=hs.holds _ (aS hC)
 have B:(getObj b).run E.P w= .ok (.map es c) w:=MapKept.run_getObj_map he
 rcases o7 (P:=E.P) (w:=w) (x:=x) hkt hi with ⟨AA,F⟩|⟨j,N,AA,F,J⟩
 ·refine si (w':={w with heap:=w.heap.setIfInBounds b (.map (es.push {key:=kV x,val:=v,born:=c}) (c+1))}) sm ?_ ?_
  ·simp [execOp,A.ev hm,A.ev hk,A.ev hv,Instr.mapUpdate,run_underlying ht,B,jc hkt,AA,MapKept.run_setObj_map _ he]
  ·refine k _ _ ⟨A.defers,A.size,A.at_⟩ (hs.DV (b:=b) i hC U U (nG _) (fun _ h=>h) ⟨_,_,pH he,?_⟩)
   have:eP m x v=m++[(x,v)]:=by unfold eP; rw [F]; rfl
   rw [this]; exact hi.push F v
 ·have M:=hi.size
  have G:j<es.size:=by have:=(aX.1 F).1; omega
  have H:(es[j]).key=kV x:=by
   have:=congrArg (fun l=>l[j]?) hi.list
   simp [G,F] at this
   exact this.1
  refine si (w':={w with heap:=w.heap.setIfInBounds b (.map (es.modify j fun e=>{e with key:=kV x,val:=v}) c)}) sm ?_ ?_
  ·simp [execOp,A.ev hm,A.ev hk,A.ev hv,Instr.mapUpdate,run_underlying ht,B,jc hkt,AA,MapKept.run_setObj_map _ he,Instr.keyThatStays,G,H,hkt.bits x]
  ·exact k _ _ ⟨A.defers,A.size,A.at_⟩ (hs.DV (b:=b) i hC U U (nG _) (fun _ h=>h) ⟨_,_,pH he,hi.set F J v⟩)
end
end
end
section
open Go.RowKit
def Vz {σ:Type} (w0:World) (P:Program) (l:Nat) (step:σ→List Value→σ→Prop) (J:σ→aw→Prop) (Z:aw→Prop):Prop:=
 ∀ k x k' A w,step k x k'→J k A→w0.heap.size≤w.heap.size→A.holds w→YieldAt (Fw none) 0 P l x.toArray w fun e w'=>
  (e= .returned (.bool true)∧ ∃ B,J k' B∧Mv A B w w')∨(e= .returned (.bool false)∧ ∃ B,Z B∧Mv A B w w')
def JP {σ:Type} (J:σ→aw→Prop) (Z:aw→Prop) (fin:σ→Prop) (A0:aw) (w0:World) (e:Ending) (w':World):Prop:=
 ∃ v,e= .returned v∧((∃ s B,fin s∧J s B∧Mv A0 B w0 w')∨ ∃ B,Z B∧Mv A0 B w0 w')
structure Ev {σ:Type} (P:Program) (f:FuncId) (fi ca:List Value) (Cp:List aw) (s0:σ) (step:σ→List Value→σ→Prop) (fin:σ→Prop):Prop where
 go:sw P f=true
 run: ∀ (l:Nat) (J:σ→aw→Prop) (Z:aw→Prop) (A0:aw) (w:World),Vz w P l step J Z→J s0 A0→A0.holds w→(∀ A∈Cp,A.holds w)→(∀ A∈Cp,DW A0 A.ro)→
  Calls P f (fi++Value.func (.yield l) #[] #[]::ca).toArray w (JP J Z fin A0 w)
theorem KI {σ:Type} {J:σ→aw→Prop} {Z:aw→Prop} {n:σ} {fin:σ→Prop} {A0 B:aw} {w0 w:World} {C:List aw} {v:Value} (i:Nat) (hC:C[i]? =some B) (hfin:fin n) (hJ:J n B) (hF:Fo A0 w0 B) (hs:St ⟨A0.wf,fun _=>True⟩ w0 C w):JP J Z fin A0 w0 (.returned v) w:=
 ⟨v,rfl,.inl ⟨n,B,hfin,hJ,hs.holds B (aS hC),hs.keeps,fun b hb=>(hs.own B (aS hC) b hb).symm,hF⟩⟩
theorem sP {σ:Type} {J:σ→aw→Prop} {Z:aw→Prop} {fin:σ→Prop} {A0 B:aw} {w0 w:World} {C:List aw} {v:Value} (i:Nat) (hC:C[i]? =some B) (hJ:Z B) (hF:Fo A0 w0 B) (hs:St ⟨A0.wf,fun _=>True⟩ w0 C w):JP J Z fin A0 w0 (.returned v) w:=
 ⟨v,rfl,.inr ⟨B,hJ,hs.holds B (aS hC),hs.keeps,fun b hb=>(hs.own B (aS hC) b hb).symm,hF⟩⟩
theorem uE {σ:Type} {P:Program} {f:FuncId} {fn:Func} {c:Code} {fi ca:List Value} {Cp:List aw} {s0:σ} {step:σ→List Value→σ→Prop} {fin:σ→Prop} (hgo:sw P f=true) (hf:P.funcs[f]? =some fn) (hb:fn.body=some c) (hn:Nat.ble (fi.length+ca.length+1) fn.ntmps=true)
 (h: ∀ (l:Nat) (J:σ→aw→Prop) (Z:aw→Prop) (A0:aw) (w0:World) (Q:dk),Vz w0 P l step J Z→J s0 A0→Fo A0 w0 A0→
  (∀ D L C,LJ ⟨P,none,fn.ntmps,⟨A0.wf,fun _=>True⟩,w0⟩ fn (JP J Z fin A0 w0) D L C→KJ ⟨P,none,fn.ntmps,⟨A0.wf,fun _=>True⟩,w0⟩ (Q .ret) D L C)→
  (∀ D L C,LJ ⟨P,none,fn.ntmps,⟨A0.wf,fun _=>True⟩,w0⟩ fn (JP J Z fin A0 w0) D L C→KJ ⟨P,none,fn.ntmps,⟨A0.wf,fun _=>True⟩,w0⟩ (Q .normal) D L C)→
  WJ ⟨P,none,fn.ntmps,⟨A0.wf,fun _=>True⟩,w0⟩ c Q [] (Qg (fi++Value.func (.yield l) #[] #[]::ca)) (A0::Cp.map aw.ro)):Ev P f fi ca Cp s0 step fin:=by
 refine ⟨hgo,fun l J Z A0 w hY hJ hA F E=>?_⟩
 refine EB hf hb (by simpa [Nat.add_assoc] using hn) (h l J Z A0 w · hY hJ (fun b hb=> .inl hb)) ?_
 have G:=uA F
 refine ⟨ei.refl _ _,fun A hA'=>?_,List.Pairwise.cons (fun B hB=>?_) G.sep,fun A hA' b hb=>?_,fun _ _ _ _=> .inr trivial⟩
 ·rcases bE.1 hA' with rfl|hA'
  ·exact hA
  ·exact G.holds A hA'
 ·obtain ⟨B',hB',rfl⟩:=bW.1 hB
  exact E B' hB'
 ·rcases bE.1 hA' with rfl|hA'
  ·exact .inr hb
  ·obtain ⟨B',hB',rfl⟩:=bW.1 hA'
   exact hb.elim
section
variable {E:fq} {ops:Array Oper} {Q:dk} {rest:List Oper} {D:List Deferred} {L:List (Nat×Value)} {C:List aw}
variable {d:Nat} {ty:TypeId} {ps:String} {af:Array Edge} {g:Option (Nat×Bool)}
/-- a call of yield -/
theorem kO {σ:Type} {fop:Operand} {xs:Array Operand} {ts:Array TypeId} {l:Nat} {k k':σ} {vs:List Value} {step:σ→List Value→σ→Prop} {J:σ→aw→Prop} {Z:aw→Prop} {A0 A:aw} {w1:World} (i:Nat) (hw1:w1.heap.size≤E.w0.heap.size) (hY:Vz w1 E.P l step J Z) (hJ:J k A) (hF:Fo A0 w1 A) (hg:jM ops L g=true) (hf:ev L fop=some (.func (.yield l) #[] #[]))
 (hx:evs L xs.toList=some vs) (hk:step k vs k') (hC:C[i]? =some A) (hd:Nat.blt d E.n=true)
 (k1: ∀ B,J k' B→Fo A0 w1 B→RJ E ops Q rest D ((d,.bool true)::L) (C.set i B))
 (k2: ∀ B,Z B→Fo A0 w1 B→RJ E ops Q rest D ((d,.bool false)::L) (C.set i B)):
 RJ E ops Q (⟨some d,.call {callee:= .value fop,args:=xs,argTypes:=ts},ty,ps,af,g⟩::rest) D L C:=by
 intro a w F hs
 have hd':d<E.n:=by rw [← Nat.blt_eq]; exact hd
 unfold sH
 rw [if_pos (eo F hg)]
 have K:xs.map a.eval=vs.toArray:=by
  have:=F.evs hx
  apply Array.ext'
  simp [this]
 obtain ⟨fn,tmps,assign,body,hy,hr⟩:=hY k vs k' A w hk hJ (Nat.le_trans hw1 hs.keeps.size) (hs.holds A (aS hC))
 have H:(execOp a.eval ⟨some d,.call {callee:= .value fop,args:=xs,argTypes:=ts},ty,ps,af,g⟩).run E.P w= .ok (.round l fn tmps assign body) w:=by
  simp [execOp,resolve,F.ev hf,Deferred.ofValue,invoke,K,hy]
 refine ⟨fun _ _=>trivial,?_⟩
 rw [Oper.semAt_eq _ _ _ sm,H]
 refine ⟨fun h=>by simp at h,?_⟩
 have G: ∀ (B:aw) (w':World),Mv A B w w'→Fo A0 w1 B:=fun B w' m b hb=>by
  rcases m.fI b hb with AA|AA
  ·exact hF b AA
  ·exact .inr (Nat.le_trans hw1 (Nat.le_trans hs.keeps.size AA))
 have hr':RoundIn (Fw E.r) 0 E.P l fn tmps assign body w _:=hr
 refine hr'.mono fun e w' he=>?_
 rcases he with ⟨rfl,B,hB,m⟩|⟨rfl,B,hB,m⟩
 ·exact k1 B hB (G B w' m) _ _ (F.put hd' _) (hs.mv i hC m)
 ·exact k2 B hB (G B w' m) _ _ (F.put hd' _) (hs.mv i hC m)
end
theorem oc {σ:Type} {E:fq} {Q:dk} {D:g3} {L L0:dw} {C F:List aw} {g:Operand} {ps:Array Tmp} {assign body:Code} {f:FuncId} {fi ca:List Value} {Cp:List aw} {s0:σ} {step:σ→List Value→σ→Prop} {fin_:σ→Prop} {ι κ:Type}
 (inv:σ→ι→Prop) (Ci:σ→ι→List aw) (invx:Code→κ→Prop) (Cx:Code→κ→List aw) (isJ isF:List Nat) (y0:ι)
 (hr:E.r=none) (hg:ev L g=some (.func (.func f) fi.toArray ca.toArray)) (hs:Ev E.P f fi ca Cp s0 step fin_)
 (hnd:decide (isJ++isF).Nodup=true) (hJ:kF C isJ=Ci s0 y0) (hF:kF C isF=F) (h0:inv s0 y0) (hCp: ∀ A∈Cp,∃ B∈F,M1 B A)
 (hps: ∀ k x k',step k x k'→x.length=ps.size) (hpn:ps.toList.all (fun t=>Nat.blt t E.n)=true) (hL:dj L L0)
 (round: ∀ (k:σ) (x:List Value) (k':σ) (y:ι) (l:Nat) (ra rb:Loop) (S:BS) (w0:World) (K:Act→World→Prop) (Qr:dk),E.w0.heap.size≤w0.heap.size→step k x k'→inv k y→
  (∀ L' C',WJ ⟨E.P,some l,E.n,S,w0⟩ body Qr [] L' (lM l (.loop rb)::C')→KJ ⟨E.P,some l,E.n,S,w0⟩ K [] L' (lM l (.loop ra)::C'))→
  (∀ y' L' C',inv k' y'→(∀ w,St S w0 C' w→St S w0 (lM l (.loop rb)::Ci k' y') w)→KJ ⟨E.P,some l,E.n,S,w0⟩ (Qr .normal) [] L' C')→
  (∀ id z L' C',invx (.exit id) z→(∀ w,St S w0 C' w→St S w0 (lM l (.loop rb)::Cx (.exit id) z) w)→KJ ⟨E.P,some l,E.n,S,w0⟩ (Qr (.exit id)) [] L' C')→
  (∀ z L' C',invx .ret z→(∀ w,St S w0 C' w→St S w0 (lM l (.loop rb)::Cx .ret z) w)→KJ ⟨E.P,some l,E.n,S,w0⟩ (Qr .ret) [] L' C')→
  WJ ⟨E.P,some l,E.n,S,w0⟩ assign (Exit.then K (fun _ _ _=>False)) [] (CY ps.toList x L0) (lM l (.loop ra)::Ci k y))
 (fin: ∀ r s y,fin_ s→inv s y→KJ E (Q .normal) (lT r::D) L0 (lM r (.deferred (some []))::(F++Ci s y)))
 (finx: ∀ r id z,invx (.exit id) z→KJ E (Q (.exit id)) (lT r::D) L0 (lM r (.deferred (some []))::(F++Cx (.exit id) z)))
 (finr: ∀ r z,invx .ret z→KJ E (Q .ret) (lT r::D) L0 (lM r (.deferred (some []))::(F++Cx .ret z))):WJ E (.rangeFunc g ps assign body) Q D L C:=by
 intro a w hf q
 refine wpIn_rangeFunc fun fn _=>?_
 show ∃ l lT w₁ d w₁' f args w₂,(Instr.enterLoop fn a.tmps ps assign body E.r).run E.P w= .ok (l,lT) w₁∧_
 rw [hr]
 obtain ⟨rec,G⟩: ∃ rec:LoopState→Option Code→Loop,rec=fun st pe=>{state:=st,pending:=pe,fn,tmps:=a.tmps,params:=ps,assign,body,defers:=w.heap.size}:=⟨_,rfl⟩
 obtain ⟨W1,R⟩: ∃ W1,(w.alloc (.deferred (some []))).alloc (.loop (rec .ready none))=W1:=⟨_,rfl⟩
 have A0:a.eval g= .func (.func f) fi.toArray ca.toArray:=hf.ev hg
 have p:(Instr.enterLoop fn a.tmps ps assign body none).run E.P w= .ok (w.heap.size+1,[lT w.heap.size]) W1:=by
  rw [← R,G]; exact run_enterLoop_outer _ _ _ _ _
 -- the state with the record and the block
 have u:St E.S E.w0 ((lM (w.heap.size+1) (.loop (rec .ready none))::Ci s0 y0)++(lM w.heap.size (.deferred (some []))::F)) W1:=by
  have X:St E.S E.w0 (Ci s0 y0++F) w:=St.kF (isJ++isF) hnd (by have X:=hJ; have j:=hF; unfold Go.Proofs.YtadjgjnicdcjbaaGreatDoor.kF at X j ⊢; rw [List.filterMap_append,X,j]) q
  have hn:N7 w W1 [lM (w.heap.size+1) (.loop (rec .ready none)),lM w.heap.size (.deferred (some []))]:=by
   refine ⟨fun A hA=>?_,fun A hA b hb=>?_,?_⟩
   ·rcases bE.1 hA with rfl|hA
    ·show W1.heap[w.heap.size+1]? =_
     rw [← R]; have:=World.alloc_heap_new (w.alloc (.deferred (some []))) (.loop (rec .ready none)); rwa [World.size_alloc] at this
    ·simp only [bP] at hA; subst hA
     show W1.heap[w.heap.size]? =_
     rw [← R]; exact (Below.heap_alloc _ _ _ sm).trans (World.alloc_heap_new w _)
   ·rcases bE.1 hA with rfl|hA
    ·have:b=w.heap.size+1:=hb
     omega
    ·simp only [bP] at hA; subst hA
     have:b=w.heap.size:=hb
     omega
   ·refine List.Pairwise.cons (fun B hB b X j=>?_) (List.pairwise_singleton _ _)
    simp only [bP] at hB; subst hB
    have V:b=w.heap.size+1:=X
    have O:b=w.heap.size:=j
    omega
  have hk:ei no w W1:=by rw [← R]; exact (ei.alloc no w _).trans (ei.alloc no _ _)
  have j:=X.grow hk hn
  refine j.perm ?_
  simp only [List.cons_append,List.nil_append]
  exact List.Perm.cons _ (List.perm_middle.symm)
 have Y:=u.tied
 obtain ⟨H,A5⟩:=List.pairwise_cons.1 Y.sep
 have An:=Y.holds _ (bZ ..)
 let J:σ→aw→Prop:=fun k A=> ∃ y,inv k y∧A=bB (lM (w.heap.size+1) (.loop (rec .ready none))::Ci k y)
 let Z:aw→Prop:=fun A=> ∃ c z,(c= .ret∨ ∃ id,c= .exit id)∧invx c z∧A=bB (lM (w.heap.size+1) (.loop (rec .done (some c)))::Cx c z)
 refine ⟨w.heap.size+1,[lT w.heap.size],W1,{target:= .fn (.func f) ca.toArray,args:=fi.toArray++ #[.func (.yield (w.heap.size+1)) #[] #[]]},W1,f,
  (fi++Value.func (.yield (w.heap.size+1)) #[] #[]::ca).toArray,W1,p,?_,fun _ _=>trivial,?_,fun h=>by simp at h,?_⟩
 ·simp only [resolve,A0]
  simp [Deferred.ofValue,Act.eval]
 ·have:fi.toArray++ #[Value.func (.yield (w.heap.size+1)) #[] #[]]++ca.toArray=(fi++Value.func (.yield (w.heap.size+1)) #[] #[]::ca).toArray:=by simp
  simp [invoke,pP hs.go]
 ·refine (qF E.r (hs.run (w.heap.size+1) J Z _ W1 ?_ ⟨y0,h0,U⟩ An ?_ ?_)).mono ?_
  ·-- a round
   rintro k x k' A W hx ⟨y,hy,rfl⟩ Av hA
   have hl:W.heap[w.heap.size+1]? =some (.loop (rec .ready none)):=hA.1 _ (bZ ..)
   have AC:=run_yield (P:=E.P) (args:=x.toArray) hl (by rw [G]; simpa using hps k x k' hx)
   rw [G] at AC
   refine ⟨fn,_,assign,body,AC,roundIn_of_wpIn trivial ?_⟩
   let A:aw:=bB (lM (w.heap.size+1) (.loop (rec .ready none))::Ci k y)
   have A1:Fr E.n [] (CY ps.toList x L0) {tmps:=(ps.zip x.toArray).foldl (fun tmps (t,a)=>tmps.setIfInBounds t a) a.tmps,defers:=[]}:=by
    have X:=JJ ps.toList x L0 a.tmps (fun t ht=>by have:=cZ.1 hpn t ht; rwa [Nat.blt_eq] at this) ⟨rfl,hf.size,fun t v hv=>hf.at_ t v (hL t v hv)⟩
    rw [← Array.foldl_toList]
    simpa using X
   have o: ∀ (c:Option Code) (b:Bool),({rec .busy none with state:=if b then .ready else .done,pending:=c}:Loop)=rec (if b then .ready else .done) c:=fun c b=>by rw [G]
   have T: ∀ (c:Option Code) (N:World) (C':List aw) (S:BS),St S W (lM (w.heap.size+1) (.loop (rec .busy none))::C') N→
    ∃ M,(Instr.endRound (w.heap.size+1) c).run E.P N= .ok (.bool c.isNone) M∧St S W (lM (w.heap.size+1) (.loop (rec (if c.isNone then .ready else .done) c))::C') M:=fun c N C' S H=>by
    have AB:N.heap[w.heap.size+1]? =some (.loop (rec .busy none)):=H.holds _ (bZ ..)
    refine ⟨_,run_endRound c AB,?_⟩
    have:=H.DV (b:=w.heap.size+1) (A':=lM (w.heap.size+1) (.loop (rec (if c.isNone then .ready else .done) c))) 0 rfl rfl rfl (jD _) (fun _ h=>h) (World.putObj_heap_same (eD AB))
    rw [o]
    exact this
   refine round k x k' y (w.heap.size+1) (rec .ready none) (rec .busy none) ⟨A.wf,A.fI⟩ W _ (roundPost E.P (w.heap.size+1) (fun e w'=>(e= .returned (.bool true)∧ ∃ B,J k' B∧Mv A B W w')∨(e= .returned (.bool false)∧ ∃ B,Z B∧Mv A B W w'))) (Nat.le_trans (Nat.le_trans q.keeps.size (by rw [← R]; simp; omega)) Av) hx hy ?_ ?_ ?_ ?_ _ _ A1 (St.G1 hA)
   ·intro L' C' hW a1 N i H
    have AB:N.heap[w.heap.size+1]? =some (.loop (rec .ready none)):=H.holds _ (bZ ..)
    refine ⟨_,run_beginRound AB (by rw [G]),hW _ _ i ?_⟩
    have:=H.DV (b:=w.heap.size+1) (A':=lM (w.heap.size+1) (.loop (rec .busy none))) 0 rfl rfl rfl (jD _) (fun _ h=>h) (World.putObj_heap_same (eD AB))
    have e:({rec .ready none with state:= .busy}:Loop)=rec .busy none:=by rw [G]
    rw [e]; exact this
   ·intro y' L' C' hy' hC' a1 N i H
    obtain ⟨M,V,O⟩:=T none N _ _ (hC' _ H)
    exact ⟨_,M,V,.inl ⟨U,_,⟨y',hy',U⟩,Mv.of O⟩⟩
   ·intro id z L' C' hz hC' a1 N i H
    obtain ⟨M,V,O⟩:=T (some (.exit id)) N _ _ (hC' _ H)
    exact ⟨_,M,V,.inr ⟨U,_,⟨_,z,.inr ⟨id,U⟩,hz,U⟩,Mv.of O⟩⟩
   ·intro z L' C' hz hC' a1 N i H
    obtain ⟨M,V,O⟩:=T (some .ret) N _ _ (hC' _ H)
    exact ⟨_,M,V,.inr ⟨U,_,⟨_,z,.inl U,hz,U⟩,Mv.of O⟩⟩
  ·intro A hA
   obtain ⟨B,hB,hc⟩:=hCp A hA
   exact hc.holds _ (Y.holds B (c_ _ (c_ _ hB)))
  ·intro A hA b hb hb'
   obtain ⟨B,hB,hc⟩:=hCp A hA
   exact ⟨(H B (c_ _ hB) b hb (hc.fI b hb')).1,fun h=>h⟩
  ·rintro e w' ⟨v,rfl,hh⟩
   have AA:Fr E.n (lT w.heap.size::D) L0 {a with defers:=[lT w.heap.size]++a.defers}:=⟨by simp [hf.defers],hf.size,fun t v hv=>hf.at_ t v (hL t v hv)⟩
   have hleave: ∀ (st:LoopState) (c:Option Code) (C':List aw),st≠ .busy→Mv (bB (lM (w.heap.size+1) (.loop (rec .ready none))::Ci s0 y0)) (bB (lM (w.heap.size+1) (.loop (rec st c))::C')) W1 w'→
    ∃ M,(Instr.endLoop (w.heap.size+1)).run E.P w'= .ok c M∧St E.S E.w0 (lM w.heap.size (.deferred (some []))::(F++C')) M:=fun st c C' A3 m=>by
    have X:=(Y.mv 0 rfl m).iz
    have h1':St E.S E.w0 ((lM (w.heap.size+1) (.loop (rec st c))::C')++(lM w.heap.size (.deferred (some []))::F)) w':=X
    have AB:w'.heap[w.heap.size+1]? =some (.loop (rec st c)):=h1'.holds (lM (w.heap.size+1) (.loop (rec st c))) sm
    refine ⟨_,by have:=run_endLoop (P:=E.P) AB (by rw [G]; exact A3); rw [this,G],?_⟩
    have j:=h1'.DV (b:=w.heap.size+1) (A':=lM (w.heap.size+1) (.loop {rec st c with state:= .exhausted})) 0 rfl rfl rfl (jD _) (fun _ h=>h) (World.putObj_heap_same (eD AB))
    have h3:St E.S E.w0 (C'++(lM w.heap.size (.deferred (some []))::F)) _:=j.take (List.sublist_cons_self _ _)
    rw [G] at h3
    refine h3.perm ?_
    exact (List.perm_append_comm).trans sm
   rcases hh with ⟨s,B,A2,⟨y,hy,rfl⟩,m⟩|⟨B,⟨c,z,hc,hz,rfl⟩,m⟩
   ·obtain ⟨M,V,O⟩:=hleave .ready none _ sm m
    exact ⟨none,M,V,fin w.heap.size s y A2 hy _ _ AA O⟩
   ·obtain ⟨M,V,O⟩:=hleave .done (some c) _ sm m
    refine ⟨some c,M,V,?_⟩
    rcases hc with rfl|⟨id,rfl⟩
    ·exact wpIn_ret (finr w.heap.size z hz _ _ AA O)
    ·exact wpIn_exit (finx w.heap.size id z hz _ _ AA O)
end
section
open Go.RowKit
/-- where a row lies, and its capacity -/
abbrev RA:=OA×Nat
/-- what is asked of memory by all elements -/
def aU {M A:Type} (f:M→A→List aw):List M→List A→List aw
 |m::ms,a::asl=>f m a++aU f ms asl
 |_,_=>[]
theorem bH {M A:Type} {f:M→A→List aw}: ∀ {ms:List M} {asl:List A} {k:Nat} {m:M} {a:A} {X:aw},ms[k]? =some m→asl[k]? =some a→X∈f m a→X∈aU f ms asl
 |[],_,k,m,a,X,h,_,_=>by simp at h
 |_::_,[],k,m,a,X,_,h,_=>by simp at h
 |x::ms,y::asl,0,m,a,X,h,h2,hX=>by
  simp at h h2; subst h h2
  exact List.mem_append_left _ hX
 |x::ms,y::asl,k+1,m,a,X,h,h2,hX=>List.mem_append_right _ (bH (ms:=ms) (asl:=asl) (k:=k) (by simpa using h) (by simpa using h2) hX)
theorem jX {M A:Type} {f:M→A→List aw}: ∀ {ms:List M} {asl:List A} {X:aw},X∈aU f ms asl→ ∃ (k:Nat) (m:M) (a:A),ms[k]? =some m∧asl[k]? =some a∧X∈f m a
 |[],_,X,h=>by cases h
 |_::_,[],X,h=>by cases h
 |x::ms,y::asl,X,h=>by
  rcases dQ.1 h with h|h
  ·exact ⟨0,x,y,U,U,h⟩
  ·obtain ⟨k,m,a,B,C,D⟩:=jX h
   exact ⟨k+1,m,a,by simpa using B,by simpa using C,D⟩
theorem jt {M A:Type} {f:M→A→List aw}: ∀ {ms:List M} {asl:List A} {ns:List M} {bs:List A},ms.length=asl.length→aU f (ms++ns) (asl++bs)=aU f ms asl++aU f ns bs
 |[],[],ns,bs,_=>rfl
 |[],_::_,ns,bs,h=>by simp at h
 |_::_,[],ns,bs,h=>by simp at h
 |x::ms,y::asl,ns,bs,h=>by
  simp only [List.cons_append,aU,List.append_assoc]
  rw [jt (by simpa using h)]
theorem cT {M A β:Type} {f:M→A→β} {ms:List M} {asl:List A} {k:Nat} {m:M} {a:A} (h:ms[k]? =some m) (h2:asl[k]? =some a):(List.zipWith f ms asl)[k]? =some (f m a):=by
 rw [List.getElem?_zipWith,h,h2]
theorem cw {C L:List aw} {A:aw} (i:Nat) (hC:C[i]? =some (eX L).ro) (hm:A∈L):g9 C A.holds:=fun w hw=>hw _ (aS hC) A hm
theorem dG {M A:Type} {f g:M→A→List aw} {ms:List M} {asl:List A} {C:List aw} (i:Nat) (hC:C[i]? =some (bB (aU g ms asl))) (h: ∀ m a w,(∀ X∈g m a,X.holds w)→ ∀ X∈f m a,X.holds w):g9 C (eX (aU f ms asl)).holds:=fun w hw X hX=>by
 have hb:=hw _ (aS hC)
 obtain ⟨k,m,a,B,D,E⟩:=jX hX
 exact h m a w (fun Y hY=>hb.1 Y (bH B D hY)) X E
/-- a row that is part of another one -/
theorem OH {C:List aw} {A:OA} {n k sz:Nat} {es:List (List Value)} (hR:g9 C (rd A n sz es).holds) (hk:k≤n):g9 C (rd A k sz (es.take k)).holds:=fun w hw=>by
 obtain ⟨D,E,F⟩:=hR w hw
 refine ⟨by rw [List.length_take,D]; omega,fun x hx=>E x (List.mem_of_mem_take hx),fun hp=>?_⟩
 have G:0<k:=Nat.pos_of_mul_pos_right hp
 have hs:0<sz:=Nat.pos_of_mul_pos_left hp
 obtain ⟨ad,hA,B⟩:=F (Nat.mul_pos I hs)
 refine ⟨ad,hA,fun i e j v he hv=>B i e j v ?_ hv⟩
 rw [List.getElem?_take] at he
 split at he
 ·exact he
 ·cases he
section
variable {E:fq} {ops:Array Oper} {Q:dk} {rest:List Oper} {D:List Deferred} {L:List (Nat×Value)} {C:List aw}
variable {d:Nat} {ty:TypeId} {ps:String} {af:Array Edge} {g:Option (Nat×Bool)}
/-- an element of a slice that is the head of a row -/
theorem Tf (k:Nat) {x ix:Operand} {A:OA} {n n' c sz e t:Nat} {es:List (List Value)} {j:Int} (h:bF E.n ops L d g x ix=some (.slice A n' c,.int .i64 j)) (hR:g9 C (rd A n sz es).holds)
 (ht:tE E.P t=some (e,sz)) (hz:0<sz) (hj:j=(k:Int)) (hk:k<n') (hn:n'≤n):SE E ops ⟨some d,.indexAddr t x ix,ty,ps,af,g⟩ D L C (.pointer (ml A (k*sz))) d:=IA k h (OH hR hn) ht hz hj hk
end
theorem St.tie {S:BS} {w0 w:World} {C:List aw} {A:aw} {L L':List aw} (h:St S w0 (A::bB L::C) w) (e:L++[A]=L'):St S w0 (bB L'::C) w:=by
 subst e
 have B:St S w0 (bB L::A::C) w:=h.perm (List.Perm.swap _ _ _)
 have D:St S w0 (L++(A::C)) w:=B.iz
 have E:St S w0 ((L++[A])++C) w:=by simpa using D
 exact E.tied
theorem St.Rk {S:BS} {w0 w:World} {C:List aw} (h:St S w0 C w):St S w0 (bB []::C) w:=St.tied (C1:=[]) h
section
variable {E:fq} {Q:dk} {D:List Deferred} {L:List (Nat×Value)} {C:List aw}
theorem lY {c:Code} (h:WJ E c Q D L (bB []::C)):WJ E c Q D L C:=fun a w hf hs=>h a w hf hs.Rk
theorem yf {ops:Array Oper} {rest:List Oper} (h:RJ E ops Q rest D L (bB []::C)):RJ E ops Q rest D L C:=fun a w hf hs=>h a w hf hs.Rk
theorem Ai {K:Act→World→Prop} {C1:List aw} {A:aw} {X X':List aw} (i j:Nat) (hn:decide (j::i::(List.range C.length).filter fun k=>k != i&&k != j).Nodup=true) (hC:kF C (j::i::(List.range C.length).filter fun k=>k != i&&k != j)=A::bB X::C1) (e:X++[A]=X')
 (h:KJ E K D L (bB X'::C1)):KJ E K D L C:=fun a w hf hs=>h a w hf ((St.kF _ hn hC hs).tie e)
theorem PI {ops:Array Oper} {rest:List Oper} {C1:List aw} {A:aw} {X X':List aw} (i j:Nat) (hn:decide (j::i::(List.range C.length).filter fun k=>k != i&&k != j).Nodup=true) (hC:kF C (j::i::(List.range C.length).filter fun k=>k != i&&k != j)=A::bB X::C1) (e:X++[A]=X')
 (h:RJ E ops Q rest D L (bB X'::C1)):RJ E ops Q rest D L C:=fun a w hf hs=>h a w hf ((St.kF _ hn hC hs).tie e)
end
end
section
open Go.RowKit
abbrev dE:aa→Value:=fun s=>vA (aa.cells s)
abbrev eG:aF→Value:=fun s=>vA (aF.cells s)
abbrev TM:=List (Int×aa)
abbrev FM:=List (aF×Int)
def gS {α:Type} (m:α) (b:Nat):List Value:=[Value.map (some b)]
def sB (m:TM) (b:Nat):List aw:=[im iV b (bS dE m)]
def oq (m:FM) (b:Nat):List aw:=[im eG b (bS iV m)]
theorem yM {M A:Type} {f:M→A→List aw}: ∀ (m:M) (a:A) (w:World),(∀ X∈f m a,X.holds w)→ ∀ X∈f m a,X.holds w:=fun _ _ _ h=>h
/-- untied -/
theorem Na {E:fq} {ops:Array Oper} {Q:dk} {rest:List Oper} {D:g3} {L:dw} {C X C1:List aw} (i:Nat) (hn:decide (i::(List.range C.length).filter fun k=>k != i).Nodup=true) (hC:kF C (i::(List.range C.length).filter fun k=>k != i)=bB X::C1)
 (h:RJ E ops Q rest D L (X++C1)):RJ E ops Q rest D L C:=fun a w hf hs=>h a w hf (St.iz (St.kF _ hn hC hs))
end
section
def cQ (ln:bV) (rd:dL) (e:List Int) (tms:List TM):bT:=⟨rd.Start,rd.fZ,e,tms,ln.cD,ln.dM,(rd.ai.n:Int)⟩
def PJ (o:Int×aa):List Value:=[.int .i64 o.1,.agg (aa.cells o.2).toArray]
structure It (w:bT):Prop where
 n:w.n≤6
 times:w.vV.length=w.n
 now:0≤w.Start∧w.Start≤w.fZ∧w.fZ≤86400000
 least: ∀ x∈w.qp,1≤x∧x≤500000000
 Ge: ∀ t∈w.vV,∀ p∈t,(0≤p.1∧p.1≤10)∧0≤p.2.Lo∧p.2.Lo≤p.2.Hi∧p.2.Hi≤86400000
theorem It.opt {w:bT} (h:It w) {b:Nat} {o:Int×aa} (ho:o∈iM w b):(-1≤o.1∧o.1≤10)∧0≤o.2.Lo∧o.2.Lo≤o.2.Hi∧o.2.Hi≤86400000:=by
 unfold iM tM at ho
 rcases bE.1 ho with rfl|ho
 ·have:=h.now; simp only; omega
 ·cases ht:w.vV[b]? with
  |none=>simp [ht] at ho
  |some t=>
   rw [ht] at ho
   have:=h.Ge t (aS ht) o ho
   omega
theorem It.bX {w:bT} (h:It w) (b:Nat):0≤bX w b∧bX w b≤500000000:=by
 unfold Go.Proofs.YtadjgjnicdcjbaaGreatDoor.bX
 cases ht:w.qp[b]? with
 |none=>simp
 |some x=>have:=h.least x (aS ht); simp only [Option.getD_some]; omega
theorem uX (s:Int):(0≤(fy s).right∧0≤(fy s).e9)∧(fy s).right+(fy s).e9=1:=by unfold fy; split<;>simp
theorem Kk {w:bT} (h:It w): ∀ (b:Nat) p,p∈fwd w b→(0≤p.2∧p.2≤86400000)∧(0≤p.1.right∧0≤p.1.e9)∧p.1.right+p.1.e9=(b:Int):=by
 intro b
 induction b with
 |zero=>
  intro p hp
  simp only [fwd,bP] at hp
  subst hp
  have:=h.now; simp only; omega
 |succ b ih=>
  intro q hq
  obtain ⟨p,hp,o,ho,e⟩:=fY.1 hq
  have A:=ih p hp
  have B:=h.opt ho
  have C:=h.bX b
  have D:=h.now
  have E:=uX o.1
  unfold kX at e
  split at e
  ·simp only [Option.some.injEq] at e
   subst e
   simp only [dC]
   omega
  ·cases e
theorem Sl {w:bT} (h:It w): ∀ (k:Nat) p,p∈bwd w k→(-(500000000*(k:Int))≤p.2∧p.2≤86400000)∧(0≤p.1.right∧0≤p.1.e9)∧p.1.right+p.1.e9≤(k:Int):=by
 intro k
 induction k with
 |zero=>
  intro p hp
  simp only [bwd,bP] at hp
  subst hp
  have:=h.now; simp only; omega
 |succ k ih=>
  intro q hq
  simp only [bwd,bE,List.mem_flatMap,List.mem_filterMap] at hq
  rcases hq with rfl|⟨p,hp,o,ho,e⟩
  ·have:=h.now; simp only; omega
  ·have A:=ih p hp
   have B:=h.opt ho
   have C:=h.bX (w.n-(k+1))
   have D:=h.now
   have E:=uX o.1
   unfold ot at e
   split at e
   ·simp only [Option.some.injEq] at e
    subst e
    simp only [dC]
    omega
   ·cases e
theorem Le {w:bT} (h:It w) {b:Nat} {p:aF×Int} (hp:p∈back w b):(-3000000000≤p.2∧p.2≤86400000)∧(0≤p.1.right∧0≤p.1.e9)∧p.1.right+p.1.e9≤6:=by
 have:=Sl h _ _ hp
 have:=h.n
 omega
theorem x9 {w:bT} {b:Nat} {t:TM} (ht:w.vV[b]? =some t) {o:Int×aa}:o∈iM w b↔o=(-1,⟨w.Start,w.fZ⟩)∨o∈t:=by
 unfold iM tM; rw [ht]; simp
theorem l9 {K β:Type} [DecidableEq K] {l:List (K×β)} {x:K} {y:β} (hn:(l.map (·.1)).Nodup) (hm:(x,y)∈l) {o:K×β} (h:o∈l):o∈cJ l x∨o=(x,y):=by
 by_cases e:o.1=x
 ·right
  obtain ⟨k,v⟩:=o
  simp only at e
  subst e
  have B:=(jZ hn).1 h
  have A:=(jZ hn).1 hm
  rw [B] at A
  cases A; rfl
 ·exact .inl (ko.2 ⟨h,e⟩)
theorem IG {K β:Type} [DecidableEq K] {t l ys:List (K×β)} {x:K} {y:β} (hn:(l.map (·.1)).Nodup) (hm:(x,y)∈l) (h: ∀ o∈t,o∈l∨o∈ys): ∀ o∈t,o∈cJ l x∨o∈ys++[(x,y)]:=fun o ho=>by
 rcases h o ho with h|h
 ·rcases l9 hn hm h with h|h
  ·exact .inl h
  ·exact .inr (by simp [h])
 ·exact .inr (by simp [h])
theorem mI {K β:Type} [DecidableEq K] {t l:List (K×β)} {x:K} (h: ∀ o∈l,o∈t): ∀ o∈cJ l x,o∈t:=fun o ho=>h o (ko.1 ho).1
theorem Mp {w:bT} {m left:List (aF×Int)} (h: ∀ p∈m,p∈left∨kQ w p.1=false) (h0:left=[]):jC w m=false:=by
 unfold jC
 rw [List.any_eq_false]
 intro p hp
 rcases h p hp with q|q
 ·rw [h0] at q; cases q
 ·simp [q]
theorem M6 {w:bT} {m:List (aF×Int)} {p:aF×Int} (hp:p∈m) (h:kQ w p.1=true):jC w m=true:=List.any_eq_true.2 ⟨p,hp,h⟩
theorem LR {w:bT} {m left:List (aF×Int)} {t:aF} {v:Int} (hn:(left.map (·.1)).Nodup) (hm:(t,v)∈left) (h: ∀ p∈m,p∈left∨kQ w p.1=false) (hf:kQ w t=false): ∀ p∈m,p∈cJ left t∨kQ w p.1=false:=fun p hp=>by
 rcases h p hp with q|q
 ·rcases l9 hn hm q with q|q
  ·exact .inl q
  ·right; rw [q]; exact hf
 ·exact .inr q
/-- what the maps of a watch are -/
structure xR (w:bT) (fs:List (List (aF×Int))):Prop where
 len:fs.length=w.n+1
 min: ∀ (b:Nat) m,fs[b]? =some m→tO m (fwd w b)
 keys: ∀ (b:Nat) m,fs[b]? =some m→(m.map (·.1)).Nodup
structure uT (w:bT) (bs:List (List (aF×Int))):Prop where
 len:bs.length=w.n+1
 max: ∀ (b:Nat) m,bs[b]? =some m→vQ m (back w b)
 keys: ∀ (b:Nat) m,bs[b]? =some m→(m.map (·.1)).Nodup
theorem xR.mem {w:bT} {fs:List (List (aF×Int))} (h:xR w fs) {b:Nat} {m:List (aF×Int)} (hm:fs[b]? =some m) {p:aF×Int} (hp:p∈m):p∈fwd w b:=(h.min b m hm).1 _ _ ((fH (h.keys b m hm)).1 hp)
theorem uT.mem {w:bT} {fs:List (List (aF×Int))} (h:uT w fs) {b:Nat} {m:List (aF×Int)} (hm:fs[b]? =some m) {p:aF×Int} (hp:p∈m):p∈back w b:=(h.max b m hm).1 _ _ ((fH (h.keys b m hm)).1 hp)
theorem Hu {w:bT} {b:Nat} {t l ys:List (Int×aa)} (ht:w.vV[b]? =some t) (h: ∀ o∈t,o∈l∨o∈ys) (h0:l=[]) (hs:(-1,(⟨w.Start,w.fZ⟩:aa))∈ys): ∀ o∈iM w b,o∈ys:=fun o ho=>by
 rcases (x9 ht).1 ho with rfl|ho
 ·exact hs
 ·rcases h o ho with q|q
  ·rw [h0] at q; cases q
  ·exact q
end
section
/-- by these options all is yielded -/
def lX (w:bT) (b:Nat) (mf mb:List (aF×Int)) (os ys:List (Int×aa)):Prop:= ∀ o∈os,∀ p∈mf,∀ u∈mb,∀ q,mU w b p u o=some q→q∈ys
def nQ (w:bT) (b:Nat) (mf mb:List (aF×Int)) (o:Int×aa) (left:List (aF×Int)) (ys:List (Int×aa)):Prop:= ∀ p∈mf,p∈left∨ ∀ u∈mb,∀ q,mU w b p u o=some q→q∈ys
def nU (w:bT) (b:Nat) (mb:List (aF×Int)) (o:Int×aa) (p:aF×Int) (left:List (aF×Int)) (ys:List (Int×aa)):Prop:= ∀ u∈mb,u∈left∨ ∀ q,mU w b p u o=some q→q∈ys
variable {w:bT} {b:Nat} {mf mb left:List (aF×Int)} {o x:Int×aa} {os ys:List (Int×aa)} {p u:aF×Int}
theorem lX.nil:lX w b mf mb [] ys:=fun o ho=>by cases ho
theorem lX.app (h:lX w b mf mb os ys):lX w b mf mb os (ys++[x]):=fun o ho p hp u hu q e=>List.mem_append_left _ (h o ho p hp u hu q e)
theorem nQ.app (h:nQ w b mf mb o left ys):nQ w b mf mb o left (ys++[x]):=fun p hp=>(h p hp).imp id fun h u hu q e=>List.mem_append_left _ (h u hu q e)
theorem nQ.start:nQ w b mf mb o mf ys:=fun p hp=> .inl hp
theorem nU.start:nU w b mb o p mb ys:=fun p hp=> .inl hp
theorem nU.skip {t:aF} {v:Int} (hn:(left.map (·.1)).Nodup) (hm:(t,v)∈left) (h:nU w b mb o p left ys) (he:mU w b p (t,v) o=none):nU w b mb o p (cJ left t) ys:=fun u hu=>by
 rcases h u hu with q|q
 ·rcases l9 hn hm q with q|q
  ·exact .inl q
  ·right; intro z hz; rw [q,he] at hz; cases hz
 ·exact .inr q
theorem nU.U3 {t:aF} {v:Int} (hn:(left.map (·.1)).Nodup) (hm:(t,v)∈left) (h:nU w b mb o p left ys) (he:mU w b p (t,v) o=some x):nU w b mb o p (cJ left t) (ys++[x]):=fun u hu=>by
 rcases h u hu with q|q
 ·rcases l9 hn hm q with q|q
  ·exact .inl q
  ·right; intro z hz; rw [q,he] at hz; cases hz; simp
 ·right; intro z hz; exact List.mem_append_left _ (q z hz)
theorem nQ.next {t:aF} {v:Int} {l2:List (aF×Int)} (hn:(left.map (·.1)).Nodup) (hm:(t,v)∈left) (h:nQ w b mf mb o left ys) (hq:nU w b mb o (t,v) l2 ys) (h0:l2=[]):nQ w b mf mb o (cJ left t) ys:=fun p hp=>by
 rcases h p hp with q|q
 ·rcases l9 hn hm q with q|q
  ·exact .inl q
  ·right; intro u hu z hz; subst q
   rcases hq u hu with q|q
   ·rw [h0] at q; cases q
   ·exact q z hz
 ·exact .inr q
theorem lX.next (h:lX w b mf mb os ys) (hp:nQ w b mf mb o left ys) (h0:left=[]):lX w b mf mb (os++[o]) ys:=fun o' ho p hp' u hu q e=>by
 rcases dQ.1 ho with ho|ho
 ·exact h o' ho p hp' u hu q e
 ·simp only [bP] at ho; subst ho
  rcases hp p hp' with z|z
  ·rw [h0] at z; cases z
  ·exact z u hu q e
theorem lX.fin (h:lX w b mf mb os ys) (ho: ∀ o∈iM w b,o∈os): ∀ q∈qm w b mf mb,q∈ys:=fun q hq=>by
 obtain ⟨o,A,p,B,u,C,e⟩:=ir.1 hq
 exact h o (ho o A) p B u C q e
theorem Hs (h:max (p.2+bX w b) o.2.Lo≤min u.2 o.2.Hi) (h2:kQ w (dC (dC p.1 u.1) (fy o.1))=true):mU w b p u o=some (o.1,⟨max (p.2+bX w b) o.2.Lo,min u.2 o.2.Hi⟩):=by
 unfold mU jJ xI; rw [if_pos ⟨h,h2⟩]
theorem Me (h: ¬ max (p.2+bX w b) o.2.Lo≤min u.2 o.2.Hi):mU w b p u o=none:=by
 unfold mU jJ; rw [if_neg (fun q=>h q.1)]
theorem Iv (h2:kQ w (dC (dC p.1 u.1) (fy o.1))=false):mU w b p u o=none:=by
 unfold mU xI; rw [if_neg (fun q=>by rw [h2] at q; exact absurd q.2 dc)]
theorem nN {v:Int} (h:w.qp[b]? =some v):bX w b=v:=by unfold bX; rw [h]; rfl
theorem C9 {t q:aF} {v z y:Int} (hy:w.qp[b]? =some y) (h:max (v+y) o.2.Lo≤min z o.2.Hi) (h2:kQ w (dC (dC t q) (fy o.1))=true):mU w b (t,v) (q,z) o=some (o.1,⟨max (v+y) o.2.Lo,min z o.2.Hi⟩):=by
 have e:=nN hy
 subst e
 exact Hs h h2
theorem Hw {t q:aF} {v z y:Int} (hy:w.qp[b]? =some y) (h: ¬ max (v+y) o.2.Lo≤min z o.2.Hi):mU w b (t,v) (q,z) o=none:=by
 have e:=nN hy
 subst e
 exact Me h
theorem oG {m:List (aF×Int)} {k:aF} {y:Int} (h:(m.map (·.1)).Nodup):((eP m k y).map (·.1)).Nodup:=by
 unfold eP
 by_cases hx:(m.lookup k).isSome
 ·rw [if_pos hx,List.map_map]
  have e:m.map ((fun p=>p.1)∘fun p=>if p.1=k then (k,y) else p)=m.map (·.1):=by
   apply List.map_congr_left
   intro p _
   simp only [Function.comp]
   split
   ·rename_i e; exact e.symm
   ·rfl
  rw [e]; exact h
 ·rw [if_neg hx,List.map_append,List.nodup_append]
  refine ⟨h,sm,?_⟩
  intro a ha c hc
  simp only [List.map_cons,List.map_nil,bP] at hc
  rw [hc]
  obtain ⟨p,hp,rfl⟩:=bW.1 ha
  have hn:m.lookup k=none:=by cases h0:m.lookup k with
   |none=>rfl
   |some v=>exact absurd (by rw [h0]; rfl) hx
  exact ik.1 hn p hp
theorem Cu {m:List (aF×Int)} {q:aF×Int} (h:(m.map (·.1)).Nodup):((pG m q).map (·.1)).Nodup:=by
 unfold pG; split
 ·exact oG h
 ·split
  ·exact oG h
  ·exact h
theorem Ch {m:List (aF×Int)} {q:aF×Int} (h:(m.map (·.1)).Nodup):((pA m q).map (·.1)).Nodup:=by
 unfold pA; split
 ·exact oG h
 ·split
  ·exact oG h
  ·exact h
/-- a map of the first times, on its way -/
structure xC (w:bT) (b:Nat) (m:List (aF×Int)):Prop where
 snd:v8 m (fwd w (b+1))
 keys:(m.map (·.1)).Nodup
structure wu (w:bT) (b:Nat) (m:List (aF×Int)):Prop where
 snd:v8 m (back w b)
 keys:(m.map (·.1)).Nodup
 zero: ∃ v,m.lookup ⟨0,0⟩=some v∧w.fZ≤v
theorem I0 (h:max (p.2+bX w b) o.2.Lo≤min o.2.Hi w.fZ):kX w b p o=some (dC p.1 (fy o.1),max (p.2+bX w b) o.2.Lo):=by unfold kX; rw [if_pos h]
theorem O6 (h: ¬ max (p.2+bX w b) o.2.Lo≤min o.2.Hi w.fZ):kX w b p o=none:=by unfold kX; rw [if_neg h]
theorem Lh (h:o.2.Lo≤min p.2 o.2.Hi):ot w b p o=some (dC p.1 (fy o.1),min p.2 o.2.Hi-bX w b):=by unfold ot; rw [if_pos h]
theorem Oe (h: ¬ o.2.Lo≤min p.2 o.2.Hi):ot w b p o=none:=by unfold ot; rw [if_neg h]
theorem xC.start:xC w b []:=⟨fun t v h=>by simp at h,List.nodup_nil⟩
theorem xC.add {m:List (aF×Int)} {q:aF×Int} (h:xC w b m) (hp:p∈fwd w b) (ho:o∈iM w b) (he:kX w b p o=some q):xC w b (pG m q):=⟨HJ h.snd (fY.2 ⟨p,hp,o,ho,he⟩),Cu h.keys⟩
theorem wu.start (hb:b<w.n):wu w b [(⟨0,0⟩,w.fZ)]:=⟨fun t v h=>by
 obtain ⟨rfl,rfl⟩:=pC.1 h
 exact (pf hb).2 (.inl U),sm,w.fZ,pC.2 ⟨U,U⟩,Int.le_refl _⟩
theorem wu.add {m:List (aF×Int)} {q:aF×Int} (hb:b<w.n) (h:wu w b m) (hp:p∈back w (b+1)) (ho:o∈iM w b) (he:ot w b p o=some q):wu w b (pA m q):=⟨Ig h.snd ((pf hb).2 (.inr ⟨p,hp,o,ho,he⟩)),Ch h.keys,by
 obtain ⟨v,A,C⟩:=h.zero
 obtain ⟨v',B,D⟩:=q9 (q:=q) _ _ A
 exact ⟨v',B,I⟩⟩
theorem jk.none_ {m:List (aF×Int)} (h:jk w b m p os) (he:kX w b p o=none):jk w b m p (os++[o]):=h.add (yN.refl _) fun q hq=>by rw [he] at hq; cases hq
theorem jk.Lf {m:List (aF×Int)} {q:aF×Int} (h:jk w b m p os) (he:kX w b p o=some q):jk w b (pG m q) p (os++[o]):=h.add vL fun q' hq=>by rw [he] at hq; cases hq; exact HN
theorem jq.none_ {m:List (aF×Int)} (h:jq w b m p os) (he:ot w b p o=none):jq w b m p (os++[o]):=h.add (xO.refl _) fun q hq=>by rw [he] at hq; cases hq
theorem jq.Lf {m:List (aF×Int)} {q:aF×Int} (h:jq w b m p os) (he:ot w b p o=some q):jq w b (pA m q) p (os++[o]):=h.add q9 fun q' hq=>by rw [he] at hq; cases hq; exact G6
/-- what of a map of the beam before is used already -/
def ke (w:bT) (b:Nat) (mb m left:List (aF×Int)):Prop:= ∀ p∈mb,p∈left∨jk w b m p (iM w b)
def jO (w:bT) (b:Nat) (mb m left:List (aF×Int)):Prop:= ∀ p∈mb,p∈left∨jq w b m p (iM w b)
theorem ke.start {m:List (aF×Int)}:ke w b mb m mb:=fun p hp=> .inl hp
theorem jO.start {m:List (aF×Int)}:jO w b mb m mb:=fun p hp=> .inl hp
theorem ke.lower {m m':List (aF×Int)} (h:ke w b mb m left) (hl:yN m m'):ke w b mb m' left:=fun p hp=>(h p hp).imp id fun h=>h.lower hl
theorem jO.upper {m m':List (aF×Int)} (h:jO w b mb m left) (hl:xO m m'):jO w b mb m' left:=fun p hp=>(h p hp).imp id fun h=>h.upper hl
theorem ke.next {m:List (aF×Int)} {t:aF} {v:Int} (hn:(left.map (·.1)).Nodup) (hm:(t,v)∈left) (h:ke w b mb m left) (hd:jk w b m (t,v) os) (ho: ∀ o∈iM w b,o∈os):ke w b mb m (cJ left t):=fun p hp=>by
 rcases h p hp with q|q
 ·rcases l9 hn hm q with q|q
  ·exact .inl q
  ·right; rw [q]; exact hd.sub ho
 ·exact .inr q
theorem jO.next {m:List (aF×Int)} {t:aF} {v:Int} (hn:(left.map (·.1)).Nodup) (hm:(t,v)∈left) (h:jO w b mb m left) (hd:jq w b m (t,v) os) (ho: ∀ o∈iM w b,o∈os):jO w b mb m (cJ left t):=fun p hp=>by
 rcases h p hp with q|q
 ·rcases l9 hn hm q with q|q
  ·exact .inl q
  ·right; rw [q]; exact hd.sub ho
 ·exact .inr q
theorem ke.fin {m:List (aF×Int)} (h:ke w b mb m left) (h0:left=[]): ∀ p∈mb,jk w b m p (iM w b):=fun p hp=>by
 rcases h p hp with q|q
 ·rw [h0] at q; cases q
 ·exact q
theorem jO.fin {m:List (aF×Int)} (h:jO w b mb m left) (h0:left=[]): ∀ p∈mb,jq w b m p (iM w b):=fun p hp=>by
 rcases h p hp with q|q
 ·rw [h0] at q; cases q
 ·exact q
end
section
def mR (a b:aa):aa:=⟨a.Lo+b.Lo,a.Hi+b.Hi⟩
def dN:aa:=⟨0,0⟩
def kP (a:aa) (l:List aa):aa:=l.foldl mR a
def lR (z:aa):Prop:=(-1000000000≤z.Lo∧z.Lo≤1000000000)∧ -1000000000≤z.Hi∧z.Hi≤1000000000
theorem zV {a:aa} {l:List aa} {i:Nat} {z:aa} (h:l[i]? =some z):kP a (l.take (i+1))=mR (kP a (l.take i)) z:=by
 rw [List.take_add_one,h]; unfold kP; simp
theorem Qi {a:aa} {l:List aa} (ha:lR a) (hl: ∀ z∈l,lR z): ∀ i:Nat,(-1000000000-1000000000*(i:Int)≤(kP a (l.take i)).Lo∧(kP a (l.take i)).Lo≤1000000000+1000000000*(i:Int))∧ -1000000000-1000000000*(i:Int)≤(kP a (l.take i)).Hi∧(kP a (l.take i)).Hi≤1000000000+1000000000*(i:Int):=by
 intro i
 induction i with
 |zero=>unfold lR at ha; simp [kP]; omega
 |succ i ih=>
  cases h:l[i]? with
  |none=>rw [List.take_add_one,h]; simp only [Option.toList_none,List.append_nil]; omega
  |some z=>
   have hz:=hl z (aS h)
   unfold lR at hz
   rw [zV h]
   simp only [mR]
   omega
theorem IY {a:aa} {l:List aa} {i:Nat} (h:l.length≤i):kP a (l.take i)=kP a l:=by rw [List.take_of_length_le h]
theorem nT {a z:aa}:vA (aa.cells (kP a [z]))=vA (aa.cells (mR a z)):=rfl
theorem DG {a y z:aa}:vA (aa.cells (kP a [y,z]))=vA (aa.cells (mR (mR a y) z)):=rfl
/-- how long the run is from one mark, over so many stretches; by how much it falls -/
def eQ (ts:List ak) (f:Nat):Nat→aa
 |0=>dN
 |k+1=>match ts[f+k]? with
  |some x=>mR (eQ ts f k) x.jL
  |none=>eQ ts f k
def gD (ts:List ak) (f:Nat):Nat→aa
 |0=>dN
 |k+1=>match ts[f+k]? with
  |some x=>mR (gD ts f k) x.ky
  |none=>gD ts f k
theorem qd {ts:List ak} {f k:Nat} {x:ak} (h:ts[f+k]? =some x):eQ ts f (k+1)=mR (eQ ts f k) x.jL:=by simp [eQ,h]
theorem pR {ts:List ak} {f k:Nat} {x:ak} (h:ts[f+k]? =some x):gD ts f (k+1)=mR (gD ts f k) x.ky:=by simp [gD,h]
theorem mA {ts:List ak} (ht: ∀ x∈ts,bR x) (f:Nat): ∀ k:Nat,(0≤(eQ ts f k).Lo∧(eQ ts f k).Lo≤(eQ ts f k).Hi)∧(eQ ts f k).Hi≤30000*(k:Int):=by
 intro k
 induction k with
 |zero=>simp [eQ,dN]
 |succ k ih=>
  simp only [eQ]
  cases h:ts[f+k]? with
  |none=>simp only; omega
  |some x=>
   have hx:=(ht x (aS h)).2.1
   simp only [eh] at hx
   simp only [mR]
   omega
theorem Gu {ts:List ak} (ht: ∀ x∈ts,bR x) (f:Nat): ∀ k:Nat,(0≤(gD ts f k).Lo∧(gD ts f k).Lo≤(gD ts f k).Hi)∧(gD ts f k).Hi≤5000*(k:Int):=by
 intro k
 induction k with
 |zero=>simp [gD,dN]
 |succ k ih=>
  simp only [gD]
  cases h:ts[f+k]? with
  |none=>simp only; omega
  |some x=>
   have hx:=(ht x (aS h)).2.2.1
   simp only [eh] at hx
   simp only [mR]
   omega
theorem qX {ts:List ak} (ht: ∀ x∈ts,bR x) {f k:Nat} (hk:k≤13):lR (eQ ts f k):=by
 have:=mA ht f k; unfold lR; omega
theorem yP {ts:List ak} (ht: ∀ x∈ts,bR x) {f k:Nat} (hk:k≤13):lR (gD ts f k):=by
 have:=Gu ht f k; unfold lR; omega
theorem ve {x:ak} (h:bR x):lR x.jL:=by have:=h.2.1; simp only [eh] at this; unfold lR; omega
theorem vc {x:ak} (h:bR x):lR x.ky:=by have:=h.2.2.1; simp only [eh] at this; unfold lR; omega
theorem zU {ts:List ak} (h: ¬ (if di ts=true then (0:Int) else 10)=0):di ts=false∧(if di ts=true then (0:Int) else 10)=10:=by
 cases ht:di ts with
 |true=>rw [ht] at h; exact absurd rfl h
 |false=>exact ⟨rfl,rfl⟩
theorem D2 {ts:List ak} (h:(if di ts=true then (0:Int) else 10)=0):di ts=true:=by
 cases ht:di ts with
 |true=>rfl
 |false=>rw [ht] at h; exact absurd h dc
/-- what the iterator of marks yields -/
def uI (ts:List ak) (f:Nat):List (List Value):=(List.range (ts.length-f+1)).map fun (k:Nat)=>[.agg (eQ ts f k).cells.toArray,.agg (gD ts f k).cells.toArray]
theorem uj {ts:List ak} {f:Nat}:(uI ts f).length=ts.length-f+1:=by simp [uI]
theorem zI {ts:List ak} {f k:Nat} (h:k≤ts.length-f):(uI ts f)[k]? =some [.agg (eQ ts f k).cells.toArray,.agg (gD ts f k).cells.toArray]:=by
 simp [uI,List.getElem?_range (show k<ts.length-f+1 by omega)]
theorem HF {ts:List ak} {f k:Nat} {x:List Value} (h:(uI ts f)[k]? =some x):k≤ts.length-f∧x=[.agg (eQ ts f k).cells.toArray,.agg (gD ts f k).cells.toArray]:=by
 have hi:k<ts.length-f+1:=by
  have:=(aX.1 h).1
  simpa [uI] using this
 rw [zI I] at h
 exact ⟨I,(Option.some.inj h).symm⟩
theorem E_ {ts:List ak} {f:Nat}: ∀ x∈uI ts f,x.length=2:=fun x hx=>by
 obtain ⟨k,_,rfl⟩:=bW.1 hx; rfl
end
section
def fE (ts:List ak) (s:cK):Prop:=(0≤s.bj∧s.bj<(ts.length:Int))∧ ∃ x,ts[s.bj.toNat]? =some x∧eh s.lO 0 (x.jL.Lo-1)
noncomputable instance (ts:List ak) (s:cK):Decidable (fE ts s):=Classical.propDecidable _
theorem CB {ts:List ak} {s:cK} {x:ak} (h:0≤s.bj∧s.bj<(ts.length:Int)) (hx:ts[s.bj.toNat]? =some x):fE ts s↔eh s.lO 0 (x.jL.Lo-1):=
 ⟨fun A=>by obtain ⟨y,hy,B⟩:=A.2; rw [hx] at hy; cases hy; exact B,fun A=>⟨h,x,hx,A⟩⟩
theorem Dc {ts:List ak} {s:cK} (h: ¬ (0≤s.bj∧s.bj<(ts.length:Int))): ¬ fE ts s:=fun A=>h A.1
theorem Aw {ts:List ak} {s:cK} (ht: ∀ x∈ts,bR x) (h:fE ts s):(0≤s.lO.Lo∧s.lO.Lo≤s.lO.Hi)∧s.lO.Hi≤30000:=by
 obtain ⟨x,hx,A⟩:=h.2
 have:=(ht x (aS hx)).2.1
 simp only [eh] at A this
 omega
theorem EO {ts:List ak} {a:cK}:vB (decide (∀ s∈[a],fE ts s))=vB (decide (fE ts a)):=congrArg _ (gi.2 sm)
theorem EJ {ts:List ak} {a b:cK}:vB (decide (∀ s∈[a,b],fE ts s))=vB (decide (fE ts a∧fE ts b)):=congrArg _ (gi.2 sm)
def oB (z:aa):aa:=⟨-z.Hi,-z.Lo⟩
def MZ (ts:List ak) (s:cK):aa:=mR (eQ ts 0 s.bj.toNat) s.lO
noncomputable def Gb (ts:List ak) (s:cK):Int:=if di ts=true then (if fE ts s then 0 else 12) else 10
noncomputable def Rc (ts:List ak) (s:cK):aa:=if Gb ts s=0 then MZ ts s else dN
theorem Mn {ts:List ak} {s:cK} (h:di ts=false):Gb ts s=10∧Rc ts s=dN:=by
 have e:Gb ts s=10:=by unfold Gb; rw [h]; rfl
 exact ⟨e,by unfold Rc; rw [e]; rfl⟩
theorem LQ {ts:List ak} {s:cK} (h:di ts=true) (h2: ¬ fE ts s):Gb ts s=12∧Rc ts s=dN:=by
 have e:Gb ts s=12:=by unfold Gb; rw [if_pos h,if_neg h2]
 exact ⟨e,by unfold Rc; rw [e]; rfl⟩
theorem yb {ts:List ak} {s:cK} (h:di ts=true) (h2:fE ts s):Gb ts s=0∧Rc ts s=MZ ts s:=by
 have e:Gb ts s=0:=by unfold Gb; rw [if_pos h,if_pos h2]
 exact ⟨e,if_pos e⟩
theorem F8 {ts:List ak} {s:cK} (h:di ts=true):Gb ts s=0↔fE ts s:=by
 unfold Gb; rw [if_pos h]; split<;>simp [*]
def yB (ts:List ak) (a b:cK):aa:=eQ ts (min a.bj b.bj).toNat (max a.bj b.bj-min a.bj b.bj).toNat
def j6 (ts:List ak) (a b:cK):aa:=mR (mR (if b.bj<a.bj then oB (yB ts a b) else yB ts a b) b.lO) (oB a.lO)
noncomputable def mq (ts:List ak) (a b:cK):Int:=if di ts=true then (if fE ts a∧fE ts b then 0 else 12) else 10
noncomputable def kS (ts:List ak) (a b:cK):aa:=if mq ts a b=0 then j6 ts a b else dN
theorem vz {ts:List ak} {a b:cK} (h:di ts=false):mq ts a b=10∧kS ts a b=dN:=by
 have e:mq ts a b=10:=by unfold mq; rw [h]; rfl
 exact ⟨e,by unfold kS; rw [e]; rfl⟩
theorem pn {ts:List ak} {a b:cK} (h:di ts=true) (h2: ¬ (fE ts a∧fE ts b)):mq ts a b=12∧kS ts a b=dN:=by
 have e:mq ts a b=12:=by unfold mq; rw [if_pos h,if_neg h2]
 exact ⟨e,by unfold kS; rw [e]; rfl⟩
theorem lH {ts:List ak} {a b:cK} (h:di ts=true) (h2:fE ts a∧fE ts b):mq ts a b=0∧kS ts a b=j6 ts a b:=by
 have e:mq ts a b=0:=by unfold mq; rw [if_pos h,if_pos h2]
 exact ⟨e,if_pos e⟩
theorem Bc {z:aa} (h:lR z):lR (oB z):=by unfold lR oB at *; simp only; omega
theorem rq {ts:List ak} {s:cK} (ht: ∀ x∈ts,bR x) (h:fE ts s):lR s.lO:=by have:=Aw ht h; unfold lR; omega
theorem P4 {ts:List ak} {a b:cK} (ht: ∀ x∈ts,bR x) (hl:ts.length≤12) (ha:fE ts a) (hb:fE ts b):(0≤(yB ts a b).Lo∧(yB ts a b).Lo≤(yB ts a b).Hi)∧(yB ts a b).Hi≤360000:=by
 have h:=mA ht (min a.bj b.bj).toNat (max a.bj b.bj-min a.bj b.bj).toNat
 have A:=ha.1
 have B:=hb.1
 unfold yB
 omega
theorem xq {ts:List ak} {a b:cK} (ht: ∀ x∈ts,bR x) (hl:ts.length≤12) (ha:fE ts a) (hb:fE ts b):(-400000≤(j6 ts a b).Lo∧(j6 ts a b).Lo≤(j6 ts a b).Hi)∧(j6 ts a b).Hi≤400000:=by
 have h:=P4 ht hl ha hb
 have A:=Aw ht ha
 have B:=Aw ht hb
 unfold j6 mR oB
 split<;>simp only <;>omega
theorem Tn {ts:List ak} {s:cK} (ht: ∀ x∈ts,bR x) (hl:ts.length≤12) (h:fE ts s):(0≤(MZ ts s).Lo∧(MZ ts s).Lo≤(MZ ts s).Hi)∧(MZ ts s).Hi≤400000:=by
 have A:=mA ht 0 s.bj.toNat
 have B:=Aw ht h
 have C:=h.1
 unfold MZ mR
 simp only; omega
theorem Hn {α:Type} {p:Nat→α→Bool} {l:List α}:((l.zipIdx.filter fun q=>p q.2 q.1).map fun q=>(q.2:Int))=[]↔ ∀ (i:Nat) x,l[i]? =some x→p i x=false:=by
 rw [List.map_eq_nil_iff,List.filter_eq_nil_iff]
 constructor
 ·intro h i x hx
  have:=h (x,i) (by rw [List.mem_zipIdx_iff_getElem?]; simpa using hx)
  simpa using this
 ·rintro h ⟨x,i⟩ hm
  rw [List.mem_zipIdx_iff_getElem?] at hm
  simpa using h i x (by simpa using hm)
/-- the places of a list at which something is so -/
def s8 {α:Type} (p:Nat→α→Bool) (l:List α) (n:Nat):List Int:=(((l.take n).zipIdx.filter fun q=>p q.2 q.1).map fun q=>(q.2:Int))
theorem K1 {α:Type} {p:Nat→α→Bool} {l:List α} {i:Nat} {x:α} (hx:l[i]? =some x) (h:p i x=true):s8 p l (i+1)=s8 p l i++[(i:Int)]:=by
 have hi:=(aX.1 hx).1
 unfold s8
 rw [List.take_add_one,hx,List.zipIdx_append,List.filter_append,List.map_append]
 simp [Nat.min_eq_left (Nat.le_of_lt hi),h]
theorem Ox {α:Type} {p:Nat→α→Bool} {l:List α} {i:Nat} {x:α} (hx:l[i]? =some x) (h:p i x=false):s8 p l (i+1)=s8 p l i:=by
 have hi:=(aX.1 hx).1
 unfold s8
 rw [List.take_add_one,hx,List.zipIdx_append,List.filter_append,List.map_append]
 simp [Nat.min_eq_left (Nat.le_of_lt hi),h]
theorem CJ {α:Type} {p:Nat→α→Bool} {l:List α} {n:Nat}:(s8 p l n).length≤n:=by
 unfold s8
 rw [List.length_map]
 refine Nat.le_trans (List.length_filter_le _ _) ?_
 rw [List.length_zipIdx,List.length_take]; omega
def Je {α:Type} (p:Nat→α→Bool) (l:List α):List Int:=s8 p l l.length
theorem NN {α:Type} {p:Nat→α→Bool} {l:List α} {n:Nat} (h:n=l.length):s8 p l n=Je p l:=by rw [h]; rfl
theorem Hv {α:Type} {p:Nat→α→Bool} {l:List α}:(Je p l).length=0↔ ∀ (i:Nat) x,l[i]? =some x→p i x=false:=by
 unfold Je s8
 rw [List.length_eq_zero_iff,List.take_length]
 exact Hn
end
section
theorem zC (p:Int→Bool) (n:Nat): ∃ r:Int,r=((List.range n).findIdx fun (k:Nat)=>p (k:Int):Nat):=⟨_,rfl⟩
noncomputable def fF (p:Int→Bool) (n:Nat):Int:=Classical.choose (zC p n)
theorem te (p:Int→Bool) (n:Nat):fF p n=((List.range n).findIdx fun (k:Nat)=>p (k:Int):Nat):=Classical.choose_spec (zC p n)
theorem iF {p:Int→Bool} {n:Nat}:0≤fF p n∧fF p n≤n:=by
 rw [te]
 have:=List.findIdx_le_length (xs:=List.range n) (p:=fun (k:Nat)=>p (k:Int))
 rw [List.length_range] at this
 omega
theorem vC {p:Int→Bool} {n:Nat} {x:Int} (h0:0≤x) (h:x<fF p n):p x=false:=by
 have hb:=iF (p:=p) (n:=n)
 rw [te] at h
 have B:x.toNat<(List.range n).findIdx fun (k:Nat)=>p (k:Int):=by omega
 have A:=List.not_of_lt_findIdx B
 simp only [List.getElem_range] at A
 rw [show (x.toNat:Int)=x by omega] at A
 simpa using A
theorem zQ {p:Int→Bool} {n:Nat} (h:fF p n<n):p (fF p n)=true:=by
 rw [te] at h ⊢
 have A:((List.range n).findIdx fun (k:Nat)=>p (k:Int))<(List.range n).length:=by rw [List.length_range]; omega
 have:=List.findIdx_getElem (w:=A)
 simpa using this
theorem zk {p:Int→Bool} {n:Nat} {r:Int} (h0:0≤r) (hn:r<n) (hr:p r=true) (hb: ∀ x,0≤x→x<r→p x=false):fF p n=r:=by
 have A:=iF (p:=p) (n:=n)
 rcases Int.lt_trichotomy (fF p n) r with h|h|h
 ·have:=hb _ A.1 h
  have e:=zQ (p:=p) (n:=n) I
  rw [e] at this; cases this
 ·exact h
 ·have:=vC h0 h
  rw [hr] at this; cases this
end
section
def pI (n by_:Int):Int:=(n+by_-1)/by_
/-- by how much a sync may be off -/
def sY (c:aq) (at_:Int) (x:cd):Int:=pI (c.dv*max (at_-x.At) (x.At-at_)) 1000000
def l0 (c:aq) (at_:Int) (s:aa) (x:cd):aa:=⟨max s.Lo (x.d_.Lo-sY c at_ x),min s.Hi (x.d_.Hi+sY c at_ x)⟩
def gI (c:aq) (at_:Int) (k:Nat):aa:=(c.aV.take k).foldl (l0 c at_) ⟨-1099511627776,1099511627776⟩
def iI (c:aq) (at_:Int):aa:=c.aV.foldl (l0 c at_) ⟨-1099511627776,1099511627776⟩
theorem kf {c:aq} {at_:Int} {k:Nat} {x:cd} (h:c.aV[k]? =some x):gI c at_ (k+1)=l0 c at_ (gI c at_ k) x:=by
 unfold gI; rw [List.take_add_one,h,List.foldl_append]; rfl
theorem nK {c:aq} {at_:Int} {k:Nat} (h:c.aV.length≤k):gI c at_ k=iI c at_:=by unfold gI iI; rw [List.take_of_length_le h]
def kE (c:aq) (i:Nat):Int:=if i=0 then-1 else ((c.aV[i-1]?).map (·.At)).getD 0
def fD (c:aq) (i:Nat) (x:cd):Prop:=(kE c i<x.At∧x.At≤86400000)∧ -10000≤x.d_.Lo∧x.d_.Lo≤x.d_.Hi∧x.d_.Hi≤10000
def oa (c:aq) (x o:cd):Prop:=x.d_.Lo-o.d_.Hi≤pI (c.dv*(x.At-o.At)) 1000000∧o.d_.Lo-x.d_.Hi≤pI (c.dv*(x.At-o.At)) 1000000
structure fj (c:aq):Prop where
 sT:0≤c.dv∧c.dv≤1000
 len:1≤c.aV.length∧c.aV.length≤5
 sync: ∀ (i:Nat) x,c.aV[i]? =some x→fD c i x
 pair: ∀ (i k:Nat) x o,c.aV[i]? =some x→k<i→c.aV[k]? =some o→oa c x o
noncomputable instance (c:aq):Decidable (fj c):=Classical.propDecidable _
theorem gK {c:aq} {i:Nat} (h:i=0):kE c i= -1:=if_pos h
theorem yl {c:aq} {i:Nat} {y:cd} (h:0<i) (hy:c.aV[i-1]? =some y):kE c i=y.At:=by unfold kE; rw [if_neg I,hy]; rfl
theorem oL {c:aq} {i:Nat} {y:cd} (hy:c.aV[i]? =some y):kE c (i+1)=y.At:=by unfold kE; rw [if_neg I,Nat.add_sub_cancel,hy]; rfl
/-- the times of the syncs -/
theorem OR {c:aq} (h: ∀ (i:Nat) x,c.aV[i]? =some x→fD c i x): ∀ (i:Nat) x,c.aV[i]? =some x→0≤x.At∧ ∀ (k:Nat) o,k<i→c.aV[k]? =some o→o.At<x.At:=by
 intro i
 induction i with
 |zero=>
  intro x hx
  have:=(h 0 x hx).1.1
  rw [gK rfl] at this
  exact ⟨I,fun k o hk=>by omega⟩
 |succ i ih=>
  intro x hx
  have hi:=(aX.1 hx).1
  have hy:c.aV[i]? =some (c.aV[i]'I):=e7 I
  have B:=ih _ hy
  have A:=(h (i+1) x hx).1.1
  rw [oL hy] at A
  refine ⟨I,fun k o hk ho=>?_⟩
  by_cases e:k=i
  ·subst e; rw [hy] at ho; cases ho; exact A
  ·have:=B.2 k o I ho; omega
theorem fj.vy {c:aq} (h:fj c) {i:Nat} {x:cd} (hx:c.aV[i]? =some x):(0≤x.At∧x.At≤86400000)∧ -10000≤x.d_.Lo∧x.d_.Lo≤x.d_.Hi∧x.d_.Hi≤10000:=by
 have A:=h.sync i x hx
 exact ⟨⟨(OR h.sync i x hx).1,A.1.2⟩,A.2⟩
theorem FZ {d a b:Int} (hd:0≤d∧d≤1000) (ha:0≤a∧a≤90000000) (hb:0≤b∧b≤90000000):0≤d*max (a-b) (b-a)∧d*max (a-b) (b-a)≤90000000000:=by
 have:=Rw (a:=d) (b:=max (a-b) (b-a)) (A:=1000) (B:=90000000) hd.1 hd.2 I I
 omega
theorem vr {c:aq} {at_:Int} {x:cd} (hd:0≤c.dv∧c.dv≤1000) (ha:0≤at_∧at_≤90000000) (hx:0≤x.At∧x.At≤86400000):0≤sY c at_ x∧sY c at_ x≤90001:=by
 have h:=FZ hd ha (show 0≤x.At∧x.At≤90000000 by omega)
 unfold sY pI; omega
theorem Dn {c:aq} {at_:Int} (h:fj c) (ha:0≤at_∧at_≤90000000): ∀ k:Nat,(-1099511627776≤(gI c at_ k).Lo∧(gI c at_ k).Lo≤10000)∧ -10000≤(gI c at_ k).Hi∧(gI c at_ k).Hi≤1099511627776:=by
 intro k
 induction k with
 |zero=>simp [gI]
 |succ k ih=>
  cases hx:c.aV[k]? with
  |none=>unfold gI at ih ⊢; rw [List.take_add_one,hx]; simpa using ih
  |some x=>
   have hb:=h.vy hx
   have ho:=vr h.sT ha hb.1
   rw [kf hx]
   unfold l0
   simp only
   omega
theorem rj {c:aq} {at_:Int} (h:fj c) (ha:0≤at_∧at_≤90000000):(-110000≤(iI c at_).Lo∧(iI c at_).Lo≤10000)∧ -10000≤(iI c at_).Hi∧(iI c at_).Hi≤110000:=by
 obtain ⟨n,hn⟩: ∃ n,c.aV.length=n+1:=⟨c.aV.length-1,by have:=h.len; omega⟩
 have hx:c.aV[n]? =some (c.aV[n]'I):=e7 I
 have hb:=h.vy hx
 have ho:=vr h.sT ha hb.1
 have A:=Dn h ha n
 rw [← nK (k:=n+1) I,kf hx]
 unfold l0
 simp only
 omega
/-- as time goes on, time and what a clock may be ahead, together, never go back -/
theorem Ez {c:aq} (h:fj c) {a b:Int} (ha:0≤a) (hab:a≤b) (hb:b≤90000000): ∀ k:Nat,(a+(gI c a k).Lo≤b+(gI c b k).Lo∨(gI c a k).Lo= -1099511627776)∧a+(gI c a k).Hi≤b+(gI c b k).Hi:=by
 have step: ∀ (x:cd),0≤x.At∧x.At≤86400000→ ∀ a b:Int,0≤a→a≤b→b≤90000000→sY c a x≤sY c b x+(b-a)∧sY c b x≤sY c a x+(b-a):=by
  intro x hx a b ha hab hb
  have hd:=h.sT
  have e: ∀ u v:Int,u≤v+1000000*(b-a)→pI u 1000000≤pI v 1000000+(b-a):=by intro u v C; unfold pI; omega
  have m: ∀ p q:Int,p≤q+(b-a)→c.dv*p≤c.dv*q+1000000*(b-a):=by
   intro p q A
   have D:c.dv*p≤c.dv*(q+(b-a)):=Int.mul_le_mul_of_nonneg_left A hd.1
   have E:c.dv*(q+(b-a))=c.dv*q+c.dv*(b-a):=Int.mul_add _ _ _
   have F:c.dv*(b-a)≤1000*(b-a):=Int.mul_le_mul_of_nonneg_right hd.2 I
   omega
  exact ⟨e _ _ (m _ _ I),e _ _ (m _ _ I)⟩
 intro k
 induction k with
 |zero=>simp [gI]; omega
 |succ k ih=>
  cases hx:c.aV[k]? with
  |none=>
   have e: ∀ t,gI c t (k+1)=gI c t k:=fun t=>by unfold gI; rw [List.take_add_one,hx]; simp
   rw [e,e]; exact ih
  |some x=>
   have hs:=h.vy hx
   have:=step x hs.1 a b ha hab hb
   have B:=vr (at_:=a) h.sT ⟨ha,I⟩ hs.1
   rw [kf hx,kf hx]
   unfold l0
   simp only
   omega
theorem oF {c:aq} (h:fj c) {a b:Int} (ha:0≤a) (hab:a≤b) (hb:b≤90000000):a+(iI c a).Lo≤b+(iI c b).Lo∧a+(iI c a).Hi≤b+(iI c b).Hi:=by
 have A:=Ez h ha hab hb c.aV.length
 have B:=rj h (at_:=a) ⟨ha,I⟩
 rw [nK (Nat.le_refl _),nK (Nat.le_refl _)] at A
 omega
noncomputable def my (l:bf) (i:Nat):Int:=match l.ae[i]? with
 |some b=>if i=0 then (MZ l.aL b.kZ).Lo else (match l.ae[i-1]? with
  |some a=>(j6 l.aL a.kZ b.kZ).Lo
  |none=>0)
 |none=>0
theorem zz {l:bf} {b:bG} (h:l.ae[0]? =some b):my l 0=(MZ l.aL b.kZ).Lo:=by unfold my; rw [h]; rfl
theorem Dw {l:bf} {i:Nat} {a b:bG} (hi:0<i) (h:l.ae[i]? =some b) (ha:l.ae[i-1]? =some a):my l i=(j6 l.aL a.kZ b.kZ).Lo:=by unfold my; rw [h,ha]; simp only; rw [if_neg I]
def j9 (l:bf) (b:bG):Prop:=fE l.aL b.kZ∧0≤b.jH∧b.jH<(l.ah.length:Int)
def gJ (l:bf):Prop:=(1≤l.f_∧l.f_≤5000)∧(1≤(l.ah.length:Int)∧(l.ah.length:Int)≤4)∧(1≤(l.ae.length:Int)∧(l.ae.length:Int)≤6)∧(0≤l.cq∧l.cq≤(l.ae.length:Int)-1)∧(0≤l.dM∧l.dM≤3)∧0≤l.cD∧l.cD≤3
structure lB (l:bf):Prop where
 head:gJ l
 clock: ∀ c∈l.ah,fj c
 wx: ∀ b∈l.ae,j9 l b
 RS: ∀ i,i<l.ae.length→1≤my l i
noncomputable instance (l:bf):Decidable (lB l):=Classical.propDecidable _
noncomputable def dH (l:bf):Int:=if di l.aL=true then (if lB l then 0 else 50) else 10
theorem zm {l:bf} (h:di l.aL=false):dH l=10:=by unfold dH; rw [h]; rfl
theorem rv {l:bf} (h:di l.aL=true) (h2: ¬ lB l):dH l=50:=by unfold dH; rw [if_pos h,if_neg h2]
theorem yg {l:bf} (h:di l.aL=true) (h2:lB l):dH l=0:=by unfold dH; rw [if_pos h,if_pos h2]
theorem gT {l:bf} (h:dH l=0):di l.aL=true∧lB l:=by
 unfold dH at h
 split at h
 ·split at h
  ·exact ⟨asm,asm⟩
  ·omega
 ·omega
theorem F1 {l:bf} (ht:di l.aL=true) (hb: ∀ b∈l.ae,j9 l b) (i:Nat): -400000≤my l i∧my l i≤400000:=by
 have A:=j0 ht
 have hl:=kT ht
 unfold my
 cases h:l.ae[i]? with
 |none=>simp
 |some b=>
  have B:=(hb b (aS h)).1
  simp only
  split
  ·have:=Tn A hl B; omega
  ·cases h2:l.ae[i-1]? with
   |none=>simp
   |some a=>
    have C:=(hb a (aS h2)).1
    have:=xq A hl C B
    simp only; omega
def ql (l:bf) (s:aJ):aq:=((l.ae[s.gk.toNat]?).bind fun b=>l.ah[b.jH.toNat]?).getD ⟨0,[]⟩
def gu (c:aq) (r t:Int):Bool:=decide (r≤t+(iI c t).Hi)
def gv (c:aq) (r t:Int):Bool:=decide (r<t+(iI c t).Lo)
noncomputable def qT (c:aq) (r:Int):aa:=⟨fF (gu c r) 86400001,fF (gv c r) 86400001-1⟩
noncomputable def cP (l:bf) (s:aJ):aa:=qT (ql l s) s.Read
noncomputable def eB (l:bf) (i:Nat):Int:=pI (1000*my l i) l.f_
end
section
open Go.RowKit
def BA (n:Int):Int:=IntKind.i64.wrap n
theorem Bp {n:Int} (h:rp n):BA n=n:=oK h
theorem TR (n:Int): -9223372036854775808≤BA n∧BA n≤9223372036854775807:=by
 unfold BA
 rw [IntKind.wrap_i64]
 omega
section
variable {P:Program} {t:TypeId} {x y:Operand} {a b:Int}
theorem Rs:gL P .add t x y (.int .i64 a) (.int .i64 b) (.int .i64 (BA (a+b))):=fun w=>by simp [eqGuard_add,binOp_add,Op.intArith,BA]
theorem Lj:gL P .sub t x y (.int .i64 a) (.int .i64 b) (.int .i64 (BA (a-b))):=fun w=>by simp [eqGuard_sub,binOp_sub,Op.intArith,BA]
theorem QH:gL P .mul t x y (.int .i64 a) (.int .i64 b) (.int .i64 (BA (a*b))):=fun w=>by simp [eqGuard_mul,binOp_mul,Op.intArith,BA]
end
/-- divided, and rounded up, as it comes out -/
def Tb (n by_:Int):Int:=(BA (BA (n+by_)-1)).tdiv by_
theorem QJ {a b:Int} (ha: -9223372036854775808≤a∧a≤9223372036854775807) (hb:2≤b):rp (a.tdiv b):=by
 have A:a.tdiv b=a/b+if a % b≠0∧a<0 then 1 else 0:=by
  rcases Int.lt_or_le a 0 with h|h
  ·rw [Int.tdiv_eq_ediv]
   have:b.sign=1:=Int.sign_eq_one_of_pos I
   rw [this]
   by_cases hd:b∣a
   ·have:a % b=0:=Int.emod_eq_zero_of_dvd hd
    simp [hd,this]
   ·have:a % b≠0:=fun e=>hd (Int.dvd_of_emod_eq_zero e)
    have hn: ¬ 0≤a:=by omega
    simp [hd,this,h,hn]
  ·rw [Int.tdiv_eq_ediv_of_nonneg h]
   have: ¬ a<0:=by omega
   simp [this]
 have B:a/b*b+a % b=a:=by rw [Int.mul_comm]; exact Int.mul_ediv_add_emod a b
 have C:0≤a % b:=Int.emod_nonneg _ I
 have D:a % b<b:=Int.emod_lt_of_pos _ I
 have E: -9223372036854775808≤a/b∧a/b≤4611686018427387904:=by
  constructor
  ·refine Int.le_ediv_of_mul_le I ?_
   have:(-9223372036854775808:Int)*b≤ -9223372036854775808*1:=Int.mul_le_mul_of_nonpos_left I I
   omega
  ·refine Int.ediv_le_of_le_mul I ?_
   have:(4611686018427387904:Int)*2≤4611686018427387904*b:=Int.mul_le_mul_of_nonneg_left hb I
   omega
 rw [A]
 unfold rp
 split<;>omega
theorem Rb {n by_:Int} (h0:0≤n) (h1:n≤1000000000000000000) (hb:1≤by_∧by_≤1000000000000):Tb n by_=(n+by_-1)/by_:=by
 unfold Tb
 rw [Bp (show rp (n+by_) from ⟨I,I⟩),Bp (show rp (n+by_-1) from ⟨I,I⟩),Int.tdiv_eq_ediv_of_nonneg I]
end
section
def mC (c:aq) (i:Nat) (x:cd) (k:Nat):Prop:=fD c i x∧ ∀ (j:Nat) o,j<k→c.aV[j]? =some o→oa c x o
def tx (c:aq) (n:Nat):Prop:= ∀ (i:Nat) x,i<n→c.aV[i]? =some x→mC c i x i
noncomputable instance (c:aq) (i:Nat) (x:cd) (k:Nat):Decidable (mC c i x k):=Classical.propDecidable _
instance (c:aq) (i:Nat) (x:cd):Decidable (fD c i x):=by unfold fD; infer_instance
theorem Fh {c:aq} {i:Nat} {x:cd}:mC c i x 0↔fD c i x:=⟨fun h=>h.1,fun h=>⟨h,fun j o hj=>by omega⟩⟩
theorem tv {c:aq} {i k:Nat} {x o:cd} (h:c.aV[k]? =some o):mC c i x (k+1)↔mC c i x k∧oa c x o:=by
 constructor
 ·intro hr
  exact ⟨⟨hr.1,fun j o' hj ho=>hr.2 j o' I ho⟩,hr.2 k o I h⟩
 ·rintro ⟨hr,hp⟩
  refine ⟨hr.1,fun j o' hj ho=>?_⟩
  by_cases e:j=k
  ·subst e; rw [h] at ho; cases ho; exact hp
  ·exact hr.2 j o' I ho
theorem HT {c:aq}:tx c 0:=fun i x hi=>by omega
theorem Ip {c:aq} {i:Nat} {x:cd} (h:tx c i) (hx:c.aV[i]? =some x) (hr:mC c i x i):tx c (i+1):=fun j y hj hy=>by
 by_cases e:j=i
 ·subst e; rw [hx] at hy; cases hy; exact hr
 ·exact h j y I hy
theorem Kh {c:aq} {i:Nat} {x:cd} (hx:c.aV[i]? =some x) (h: ¬ mC c i x i): ¬ fj c:=fun hc=>h ⟨hc.sync i x hx,fun j o hj ho=>hc.pair i j x o hx hj ho⟩
theorem Hb {c:aq} (h1:0≤c.dv∧c.dv≤1000) (h2:1≤c.aV.length∧c.aV.length≤5) (h:tx c c.aV.length):fj c:=
 ⟨h1,h2,fun i x hx=>(h i x (aX.1 hx).1 hx).1,fun i k x o hx hk ho=>(h i x (aX.1 hx).1 hx).2 k o hk ho⟩
/-- syncs so far -/
theorem vq {c:aq} {n:Nat} (h: ∀ (i:Nat) x,i<n→c.aV[i]? =some x→fD c i x): ∀ (i:Nat) x,i<n→c.aV[i]? =some x→0≤x.At∧ ∀ (k:Nat) o,k<i→c.aV[k]? =some o→o.At<x.At:=by
 intro i
 induction i with
 |zero=>
  intro x hn hx
  have:=(h 0 x hn hx).1.1
  rw [gK rfl] at this
  exact ⟨I,fun k o hk=>by omega⟩
 |succ i ih=>
  intro x hn hx
  have hi:=(aX.1 hx).1
  have hy:c.aV[i]? =some (c.aV[i]'I):=e7 I
  have B:=ih _ I hy
  have A:=(h (i+1) x hn hx).1.1
  rw [oL hy] at A
  refine ⟨I,fun k o hk ho=>?_⟩
  by_cases e:k=i
  ·subst e; rw [hy] at ho; cases ho; exact A
  ·have:=B.2 k o I ho; omega
theorem Mr {c:aq} {i:Nat} (hi:i≤c.aV.length) (h: ∀ (j:Nat) y,j<i→c.aV[j]? =some y→fD c j y): -1≤kE c i∧kE c i≤86400000:=by
 cases i with
 |zero=>rw [gK rfl]; omega
 |succ i=>
  have hy:c.aV[i]? =some (c.aV[i]'I):=e7 I
  have A:=(vq (n:=i+1) h i _ I hy).1
  have B:=(h i _ I hy).1.2
  rw [oL hy]; omega
theorem QI {c:aq} {i:Nat} (hi:i≤c.aV.length) (h:tx c i): -1≤kE c i∧kE c i≤86400000:=Mr hi fun j y hj hy=>(h j y hj hy).1
theorem u3 {c:aq} {i k:Nat} {x o:cd} (hs: ∀ (j:Nat) y,j<i→c.aV[j]? =some y→fD c j y) (hx:c.aV[i]? =some x) (hok:fD c i x) (hk:k<i) (ho:c.aV[k]? =some o):
 (0≤o.At∧o.At<x.At∧x.At≤86400000)∧(-10000≤x.d_.Lo∧x.d_.Lo≤x.d_.Hi∧x.d_.Hi≤10000)∧ -10000≤o.d_.Lo∧o.d_.Lo≤o.d_.Hi∧o.d_.Hi≤10000:=by
 have h: ∀ (j:Nat) y,j<i+1→c.aV[j]? =some y→fD c j y:=fun j y hj hy=>by
  by_cases e:j=i
  ·subst e; rw [hx] at hy; cases hy; exact hok
  ·exact hs j y I hy
 have A:=(vq h i x I hx).2 k o hk ho
 have B:=(vq h k o I ho).1
 exact ⟨⟨B,A,hok.1.2⟩,hok.2,(h k o I ho).2⟩
theorem OY {d a b:Int} (hd:0≤d∧d≤1000) (h:0≤b∧b<a∧a≤86400000):Tb (BA (d*BA (a-b))) 1000000=pI (d*(a-b)) 1000000:=by
 have C:0≤d*(a-b)∧d*(a-b)≤90000000000:=by
  have:=Rw (a:=d) (b:=a-b) (A:=1000) (B:=90000000) hd.1 hd.2 I I
  omega
 rw [Bp (show rp (a-b) from ⟨I,I⟩),Bp (show rp (d*(a-b)) from ⟨I,I⟩),Rb C.1 I I]
 rfl
/-- what is asked of a line, however wrong it is -/
structure ep (l:bf) (asl:List RA):Prop where
 sx:l.aL.length≤1000000
 side: ∀ x∈l.aL,0≤x.iZ∧x.iZ≤255
 sG:l.ah.length≤1000000
 mW:asl.length=l.ah.length
 sk:l.ae.length≤1000000
 RP: ∀ (k:Nat) m (a:RA),l.ah[k]? =some m→asl[k]? =some a→m.aV.length≤a.2∧m.aV.length≤1000000
noncomputable instance (l:bf):Decidable (gJ l):=by unfold gJ; infer_instance
noncomputable instance (l:bf) (b:bG):Decidable (j9 l b):=Classical.propDecidable _
theorem z5 {l:bf} (h:gJ l) (h2: ∀ c∈l.ah,fj c) (h3: ∀ b∈l.ae,j9 l b) (h4: ∀ i,i<l.ae.length→1≤my l i):lB l:=⟨h,h2,h3,h4⟩
theorem EZ {l:bf}:((!(l.ah.any fun m=> !decide (fj m)))=true)↔ ∀ c∈l.ah,fj c:=by simp
theorem HM {l:bf}:((!(l.ae.any fun b=> !decide (j9 l b)))=true)↔ ∀ b∈l.ae,j9 l b:=by simp
theorem lf {c:aq} (h:fj c) {r x:Int} (h0:0≤x) (h1:x<86400001):
 (x<fF (gu c r) 86400001→gu c r x=false)∧(fF (gu c r) 86400001≤x→gu c r x=true)∧(x<fF (gv c r) 86400001→gv c r x=false)∧(fF (gv c r) 86400001≤x→gv c r x=true):=by
 have up: ∀ (q:Int→Bool),(∀ a b,0≤a→a≤b→b<86400001→q a=true→q b=true)→fF q 86400001≤x→q x=true:=fun q hq hx=>by
  have hb:=iF (p:=q) (n:=86400001)
  exact hq _ _ hb.1 hx h1 (zQ I)
 refine ⟨vC h0,up _ fun a b ha A hb hq=>?_,vC h0,up _ fun a b ha A hb hq=>?_⟩
 ·have:=oF h ha A I
  simp only [gu,decide_eq_true_eq] at hq ⊢; omega
 ·have:=oF h ha A I
  simp only [gv,decide_eq_true_eq] at hq ⊢; omega
theorem xY {l:bf} {s:aJ} {b:bG} {c:aq} (hb:l.ae[s.gk.toNat]? =some b) (hc:l.ah[b.jH.toNat]? =some c):ql l s=c:=by
 unfold ql; rw [hb]; simp only [Option.bind_some]; rw [hc]; rfl
end
section
def m7 (sg:List aJ) (i:Nat):aJ:=if i=0 then ⟨-1,0⟩ else (sg[i-1]?).getD ⟨-1,0⟩
theorem pS {sg:List aJ} {i:Nat} {s:aJ} (h:sg[i]? =some s):m7 sg (i+1)=s:=by unfold m7; rw [if_neg I,Nat.add_sub_cancel,h]; rfl
def lE (l:bf) (s:aJ):Prop:=(0≤s.gk∧s.gk≤(l.ae.length:Int)-1)∧0≤s.Read∧s.Read≤86400000
def kx (l:bf) (sg:List aJ) (i:Nat) (s:aJ):Prop:=lE l s∧ ¬ s.gk<(m7 sg i).gk∧ ¬ (s.gk=(m7 sg i).gk∧s.Read≤(m7 sg i).Read)
def qQ (l:bf) (sg:List aJ) (i:Nat):Prop:= ∀ (j:Nat) s,j<i→sg[j]? =some s→kx l sg j s
structure fx (l:bf) (r:cL):Prop where
 time:0≤r.Start∧r.Start≤r.fZ∧r.fZ≤86400000
 len:r.ai.length≤10
 sig: ∀ (i:Nat) s,r.ai[i]? =some s→kx l r.ai i s
noncomputable instance (l:bf) (r:cL):Decidable (fx l r):=Classical.propDecidable _
theorem z4 {l:bf} {sg:List aJ}:qQ l sg 0:=fun j s hj=>absurd hj (Nat.not_lt_zero _)
theorem mm {l:bf} {sg:List aJ} {i:Nat} {s:aJ} (h:qQ l sg i) (hs:sg[i]? =some s) (ho:kx l sg i s):qQ l sg (i+1):=fun j z hj hz=>by
 rcases Nat.lt_or_ge j i with q|q
 ·exact h j z q hz
 ·obtain rfl:j=i:=by omega
  rw [hs] at hz; cases hz; exact ho
theorem BG {l:bf} {r:cL} {i:Nat} (h1:0≤r.Start∧r.Start≤r.fZ∧r.fZ≤86400000) (h2:r.ai.length≤10) (h:qQ l r.ai i) (hi:r.ai.length≤i):fx l r:=
 ⟨h1,h2,fun j s hs=>h j s (by have:=(aX.1 hs).1; omega) hs⟩
noncomputable def nW (l:bf) (sg:List aJ) (b k:Nat):Option (Int×aa):=(sg[k]?).bind fun s=>if s.gk=(b:Int)∧(cP l s).Lo≤(cP l s).Hi then some ((k:Int),cP l s) else none
noncomputable def k6 (l:bf) (sg:List aJ) (i b:Nat):TM:=(List.range i).filterMap (nW l sg b)
noncomputable def ew (l:bf) (sg:List aJ) (i:Nat):List TM:=(List.range l.ae.length).map (k6 l sg i)
noncomputable def cS (l:bf) (n:Nat):List Int:=(List.range n).map (eB l)
theorem wb {l:bf} {n:Nat}:cS l (n+1)=cS l n++[eB l n]:=by simp [cS,List.range_succ]
theorem eH {l:bf} {n:Nat}:(cS l n).length=n:=by simp [cS]
theorem jF {l:bf} {sg:List aJ} {i:Nat}:(ew l sg i).length=l.ae.length:=by simp [ew]
theorem o5 {l:bf} {sg:List aJ} {i b:Nat} (h:b<l.ae.length):(ew l sg i)[b]? =some (k6 l sg i b):=by simp [ew,h]
theorem pY {l:bf} {sg:List aJ} {b k:Nat} {q:Int×aa}:nW l sg b k=some q↔ ∃ s,sg[k]? =some s∧(s.gk=(b:Int)∧(cP l s).Lo≤(cP l s).Hi)∧q=((k:Int),cP l s):=by
 unfold nW
 cases h:sg[k]? with
 |none=>simp
 |some s=>
  simp only [Option.bind_some,Option.some.injEq]
  by_cases e:s.gk=(b:Int)∧(cP l s).Lo≤(cP l s).Hi
  ·rw [if_pos e]
   constructor
   ·intro h; cases h; exact ⟨s,rfl,e,rfl⟩
   ·rintro ⟨s',rfl,_,rfl⟩; rfl
  ·rw [if_neg e]
   constructor
   ·intro h; cases h
   ·rintro ⟨s',rfl,e',_⟩; exact absurd e' e
theorem sX {l:bf} {sg:List aJ} {i b:Nat} {q:Int×aa}:q∈k6 l sg i b↔ ∃ k,k<i∧ ∃ s,sg[k]? =some s∧(s.gk=(b:Int)∧(cP l s).Lo≤(cP l s).Hi)∧q=((k:Int),cP l s):=by
 unfold k6
 simp only [List.mem_filterMap,List.mem_range,pY]
theorem lj {l:bf} {sg:List aJ} {i b:Nat}:k6 l sg (i+1) b=k6 l sg i b++(nW l sg b i).toList:=by
 unfold k6
 rw [List.range_succ,List.filterMap_append]
 congr 1
theorem DZ {l:bf} {sg:List aJ}:ew l sg 0=List.replicate l.ae.length []:=by
 unfold ew
 rw [List.eq_replicate_iff]
 refine ⟨sm,fun t ht=>?_⟩
 obtain ⟨b,_,rfl⟩:=bW.1 ht
 rfl
theorem xp {l:bf} {sg:List aJ} {i:Nat} {s:aJ} (hs:sg[i]? =some s) (h: ¬ (cP l s).Lo≤(cP l s).Hi):ew l sg (i+1)=ew l sg i:=by
 unfold ew
 apply List.map_congr_left
 intro b _
 rw [lj]
 have:nW l sg b i=none:=by
  cases e:nW l sg b i with
  |none=>rfl
  |some q=>obtain ⟨s',A,⟨_,B⟩,_⟩:=pY.1 e; rw [hs] at A; cases A; exact absurd B h
 rw [this]; simp
theorem zR {l:bf} {sg:List aJ} {i:Nat} {s:aJ} (hs:sg[i]? =some s) (hb:0≤s.gk∧s.gk≤(l.ae.length:Int)-1) (h:(cP l s).Lo≤(cP l s).Hi) {x:TM} (hx:(ew l sg i)[s.gk.toNat]? =some x):
 (ew l sg i).set s.gk.toNat (eP x (i:Int) (cP l s))=ew l sg (i+1):=by
 have A:s.gk.toNat<l.ae.length:=by omega
 rw [o5 A] at hx
 cases hx
 have B:eP (k6 l sg i s.gk.toNat) (i:Int) (cP l s)=k6 l sg (i+1) s.gk.toNat:=by
  have hn:(k6 l sg i s.gk.toNat).lookup (i:Int)=none:=ik.2 fun p hp e=>by
   obtain ⟨k,hk,_,_,_,rfl⟩:=sX.1 hp
   simp only at e; omega
  have ho:nW l sg s.gk.toNat i=some ((i:Int),cP l s):=pY.2 ⟨s,hs,⟨I,h⟩,rfl⟩
  rw [lj,ho]
  unfold eP; rw [hn]; rfl
 rw [B]
 apply List.ext_getElem?
 intro b
 rw [List.getElem?_set]
 by_cases e:s.gk.toNat=b
 ·rw [if_pos e,jF,← e,if_pos A,o5 A]
 ·rw [if_neg e]
  by_cases hb':b<l.ae.length
  ·rw [o5 hb',o5 hb',lj]
   have:nW l sg b i=none:=by
    cases e2:nW l sg b i with
    |none=>rfl
    |some q=>obtain ⟨s',C,⟨D,_⟩,_⟩:=pY.1 e2; rw [hs] at C; cases C; exact absurd I e
   rw [this]; simp
  ·rw [List.getElem?_eq_none (by rw [jF]; omega),List.getElem?_eq_none (by rw [jF]; omega)]
noncomputable def cy (l:bf) (r:cL):bT:=⟨r.Start,r.fZ,cS l l.ae.length,ew l r.ai r.ai.length,l.cD,l.dM,(r.ai.length:Int)⟩
theorem Ks {l:bf} (ht:di l.aL=true) (h:lB l) {i:Nat} (hi:i<l.ae.length):1≤eB l i∧eB l i≤500000000:=by
 have A:=F1 ht h.wx i
 have B:=h.RS i hi
 have C:=h.head.1
 unfold eB pI
 refine ⟨(Int.le_ediv_iff_mul_le I).2 I,?_⟩
 have:(1000*my l i+l.f_-1)/l.f_≤1000*my l i+l.f_-1:=Int.ediv_le_self _ I
 omega
theorem Nq (l:bf) (s:aJ):0≤(cP l s).Lo∧(cP l s).Hi≤86400000:=by
 have A:=iF (p:=gu (ql l s) s.Read) (n:=86400001)
 have B:=iF (p:=gv (ql l s) s.Read) (n:=86400001)
 unfold cP qT
 simp only
 omega
theorem o8 {l:bf} {r:cL} (ht:di l.aL=true) (h:lB l) (hr:fx l r):It (cy l r):=by
 have hh:=h.head
 unfold gJ at hh
 refine ⟨?_,by simp [cy,jF,bT.n,eH],hr.time,fun x hx=>?_,fun t A p hp=>?_⟩
 ·show (cS l l.ae.length).length≤6
  rw [eH]; omega
 ·obtain ⟨i,hi,rfl⟩:=bW.1 hx
  exact Ks ht h (List.mem_range.1 hi)
 ·obtain ⟨b,hb,rfl⟩:=bW.1 A
  obtain ⟨k,hk,s,hs,⟨_,B⟩,rfl⟩:=sX.1 hp
  have C:=Nq l s
  have D:=hr.len
  simp only
  omega
noncomputable def eO (l:bf) (r:cL) (me:Int):Int:=if dH l=0 then (if fx l r then (if me=0 then (if jU (cy l r)=[] then 8 else 0) else me) else 51) else dH l
theorem oy {l:bf} {r:cL} {me:Int} (h: ¬ dH l=0):eO l r me=dH l:=if_neg h
theorem ju {l:bf} {r:cL} {me:Int} (h:dH l=0) (h2: ¬ fx l r):eO l r me=51:=by unfold eO; rw [if_pos h,if_neg h2]
theorem qY {l:bf} {r:cL} {me:Int} (h:dH l=0) (h2:fx l r) (h3: ¬ me=0):eO l r me=me:=by unfold eO; rw [if_pos h,if_pos h2,if_neg h3]
theorem p7 {l:bf} {r:cL} {me:Int} (h:dH l=0) (h2:fx l r) (h3:me=0) (h4:jU (cy l r)=[]):eO l r me=8:=by unfold eO; rw [if_pos h,if_pos h2,if_pos h3,if_pos h4]
theorem l3 {l:bf} {r:cL} {me:Int} (h:dH l=0) (h2:fx l r) (h3:me=0) (h4: ¬ jU (cy l r)=[]):eO l r me=0:=by unfold eO; rw [if_pos h,if_pos h2,if_pos h3,if_neg h4]
theorem kg {l:bf} {r:cL} {me:Int} (h:eO l r me=0):dH l=0∧fx l r∧me=0∧ ¬ jU (cy l r)=[]:=by
 unfold eO at h
 split at h
 ·split at h
  ·split at h
   ·split at h
    ·omega
    ·exact ⟨asm,asm,asm,asm⟩
   ·omega
  ·omega
 ·omega
end
section
def yG (l:List Int):Int:=(l.drop 1).foldl min (l.headD 0)
def Fi (l:List Int):Int:=(l.drop 1).foldl max (l.headD 0)
theorem CR: ∀ (l:List Int) (a:Int),(l.foldl min a=a∨l.foldl min a∈l)∧l.foldl min a≤a∧ ∀ x∈l,l.foldl min a≤x
 |[],a=>⟨.inl rfl,sm,sm⟩
 |y::l,a=>by
  obtain ⟨A,C,B⟩:=CR l (min a y)
  simp only [List.foldl_cons]
  refine ⟨?_,I,?_⟩
  ·rcases A with A|A
   ·rw [A]
    rcases Int.le_total a y with q|q
    ·left; omega
    ·right; rw [show min a y=y by omega]; simp
   ·right; exact c_ _ A
  ·intro x hx
   rcases bE.1 hx with rfl|hx
   ·omega
   ·exact B x hx
theorem B4: ∀ (l:List Int) (a:Int),(l.foldl max a=a∨l.foldl max a∈l)∧a≤l.foldl max a∧ ∀ x∈l,x≤l.foldl max a
 |[],a=>⟨.inl rfl,sm,sm⟩
 |y::l,a=>by
  obtain ⟨A,C,B⟩:=B4 l (max a y)
  simp only [List.foldl_cons]
  refine ⟨?_,I,?_⟩
  ·rcases A with A|A
   ·rw [A]
    rcases Int.le_total a y with q|q
    ·right; rw [show max a y=y by omega]; simp
    ·left; omega
   ·right; exact c_ _ A
  ·intro x hx
   rcases bE.1 hx with rfl|hx
   ·omega
   ·exact B x hx
theorem G4 {l:List Int} (h:l≠[]):yG l∈l∧ ∀ x∈l,yG l≤x:=by
 cases l with
 |nil=>exact absurd rfl h
 |cons y ys=>
  obtain ⟨A,B,C⟩:=CR ys y
  refine ⟨?_,fun x hx=>?_⟩
  ·rcases A with A|A
   ·simp [yG,A]
   ·exact c_ _ (by simpa [yG] using A)
  ·rcases bE.1 hx with rfl|hx
   ·simpa [yG] using B
   ·simpa [yG] using C x hx
theorem O9 {l:List Int} (h:l≠[]):Fi l∈l∧ ∀ x∈l,x≤Fi l:=by
 cases l with
 |nil=>exact absurd rfl h
 |cons y ys=>
  obtain ⟨A,B,C⟩:=B4 ys y
  refine ⟨?_,fun x hx=>?_⟩
  ·rcases A with A|A
   ·simp [Fi,A]
   ·exact c_ _ (by simpa [Fi] using A)
  ·rcases bE.1 hx with rfl|hx
   ·simpa [Fi] using B
   ·simpa [Fi] using C x hx
noncomputable def lJ (l:bf) (r:cL):List Int:=if eO l r 0=0 then jU (cy l r) else []
theorem lZ {l:bf} {r:cL} (h:eO l r 0=0):lJ l r=jU (cy l r):=if_pos h
theorem vl {l:bf} {r:cL} (h: ¬ eO l r 0=0):lJ l r=[]:=if_neg h
theorem u9 {l:bf} {r:cL} (h:eO l r 0=0):lJ l r≠[]:=by rw [lZ h]; exact (kg h).2.2.2
noncomputable def Fx (l:bf) (r:cL):Int:=if eO l r 0=0 then (if l.cq<yG (lJ l r) then 2 else if Fi (lJ l r)≤l.cq then 0 else 1) else 0
noncomputable def jW (l:bf) (b:Int):Int:=if 0≤b∧b≤(l.ae.length:Int)-1 then 0 else 2
theorem ym {l:bf} {b:Int} (h:0≤b∧b≤(l.ae.length:Int)-1):jW l b=0:=if_pos h
theorem Eo {l:bf} {b:Int} (h:jW l b=0):0≤b∧b≤(l.ae.length:Int)-1:=by
 unfold jW at h
 split at h
 ·assumption
 ·omega
noncomputable def mT (l:bf) (r:cL) (b:Nat):aa:=wc (mF (cy l r) b)
noncomputable def e8 (l:bf) (r:cL) (b:Int):Int:=if eO l r (jW l b)=0 then (if mT l r b.toNat=mN then 6 else 0) else eO l r (jW l b)
noncomputable def fh (l:bf) (r:cL) (b:Int):aa:=if e8 l r b=0 then mT l r b.toNat else dN
theorem oe {l:bf} {r:cL} {b:Int} (h: ¬ eO l r (jW l b)=0):e8 l r b=eO l r (jW l b)∧fh l r b=dN:=by
 have e:e8 l r b=eO l r (jW l b):=if_neg h
 exact ⟨e,by unfold fh; rw [if_neg (by rw [e]; exact h)]⟩
theorem rh {l:bf} {r:cL} {b:Nat} (h:eO l r (jW l b)=0) (h2:mT l r b=mN):e8 l r b=6∧fh l r b=dN:=by
 have e:e8 l r b=6:=by unfold e8; rw [if_pos h,Int.toNat_natCast,if_pos h2]
 exact ⟨e,by unfold fh; rw [if_neg (by rw [e]; omega)]⟩
theorem ox {l:bf} {r:cL} {b:Nat} (h:eO l r (jW l b)=0) (h2: ¬ mT l r b=mN):e8 l r b=0∧fh l r b=mT l r b:=by
 have e:e8 l r b=0:=by unfold e8; rw [if_pos h,Int.toNat_natCast,if_neg h2]
 exact ⟨e,by unfold fh; rw [if_pos e,Int.toNat_natCast]⟩
theorem My {w:bT} (h:It w) {b:Nat} {q:Int×aa} (hq:q∈mF w b):0≤q.2.Lo∧q.2.Lo≤q.2.Hi∧q.2.Hi≤86400000:=by
 have A:=nq hq
 obtain ⟨o,ho,p,hp,u,hu,e⟩:=ir.1 hq
 obtain ⟨_,_,rfl⟩:=jE.1 e
 have B:=h.opt ho
 simp only [jJ] at A ⊢
 omega
theorem w8 {l:bf} {r:cL} {b:Int} (h:e8 l r b=0):0≤(fh l r b).Lo∧(fh l r b).Lo≤(fh l r b).Hi∧(fh l r b).Hi≤86400000:=by
 have ho:eO l r (jW l b)=0:=by
  by_cases e:eO l r (jW l b)=0
  ·exact e
  ·rw [(oe e).1] at h; exact absurd h e
 obtain ⟨B,C,_⟩:=kg ho
 obtain ⟨ht,A⟩:=gT B
 have hw:=o8 ht A C
 have hv:fh l r b=mT l r b.toNat:=by unfold fh; rw [if_pos h]
 have hn:mT l r b.toNat≠mN:=fun e=>by unfold e8 at h; rw [if_pos ho,if_pos e] at h; omega
 have hh:=uO (l:=mF (cy l r) b.toNat) fun q hq=>nq hq
 rw [hv]
 unfold mT at hn ⊢
 rcases hh with ⟨_,e⟩|hh
 ·exact absurd e hn
 ·obtain ⟨x,hx,ex⟩:=hh.lo
  obtain ⟨y,hy,ey⟩:=hh.hi
  have:=My hw hx
  have:=My hw hy
  have:=hh.le
  omega
noncomputable def AA (l:bf) (r:cL):aa:=if e8 l r l.cq=0 then ⟨(fh l r l.cq).Lo-r.Start,(fh l r l.cq).Hi-r.Start⟩ else dN
theorem Bi {l:bf} {r:cL} (h:e8 l r l.cq=0):AA l r=⟨(fh l r l.cq).Lo-r.Start,(fh l r l.cq).Hi-r.Start⟩:=if_pos h
theorem E0 {l:bf} {r:cL} (h: ¬ e8 l r l.cq=0):AA l r=dN:=if_neg h
theorem we {l:bf} {r:cL} {b:Int} (h:e8 l r b=0):fx l r:=by
 by_cases e:eO l r (jW l b)=0
 ·exact (kg e).2.1
 ·rw [(oe e).1] at h; exact absurd h e
theorem zy {k:List (Int×aa)} {h:aa} {q:Int×aa} {z:aa} (hh:kD k h) (hq:q.2.Lo≤q.2.Hi) (hz:mL h q.2=z):kD (k++[q]) z:=by subst hz; exact vt hh hq
end
section
set_option maxRecDepth 20000
def Tx:ak:=⟨1,⟨10000,10200⟩,⟨0,100⟩,⟨0,0⟩,0,0⟩
def yW:aq:=⟨100,[⟨0,⟨0,2⟩⟩,⟨100000,⟨5,6⟩⟩]⟩
def RR (o:Int):bG:=⟨⟨0,⟨o,o⟩⟩,0⟩
def ov (f:Int):bf:=⟨[Tx],2000,[yW],[RR 1000,RR 4000,RR 9000],1,f,1⟩
def mY:cL:=⟨10000,20000,[⟨0,10600⟩,⟨0,11000⟩,⟨1,12600⟩]⟩
theorem LO:di [Tx]=true:=by decide
theorem xA:fj yW:=by
 have hi: ∀ (i:Nat) (x:cd),yW.aV[i]? =some x→i=0∧x=⟨0,⟨0,2⟩⟩∨i=1∧x=⟨100000,⟨5,6⟩⟩:=fun i x h=>by
  match i with
  |0=>left; simp [yW] at h; exact ⟨rfl,h.symm⟩
  |1=>right; simp [yW] at h; exact ⟨rfl,h.symm⟩
  |n+2=>simp [yW] at h
 refine ⟨dc,dc,fun i x hx=>?_,fun i k x o hx hk ho=>?_⟩
 ·rcases hi i x hx with ⟨rfl,rfl⟩|⟨rfl,rfl⟩<;>(unfold fD; decide)
 ·rcases hi i x hx with ⟨rfl,rfl⟩|⟨rfl,rfl⟩
  ·omega
  ·rcases hi k o ho with ⟨rfl,rfl⟩|⟨rfl,rfl⟩
   ·unfold oa; decide
   ·omega
theorem AS {o:Int} (h:0≤o∧o<10000):fE [Tx] ⟨0,⟨o,o⟩⟩:=⟨sm,Tx,rfl,by show o≤o∧0≤o∧o≤10000-1; omega⟩
theorem Ni {f:Int} (hf:0≤f∧f≤3):lB (ov f):=by
 refine ⟨?_,fun c hc=>?_,fun b hb=>?_,fun i hi=>?_⟩
 ·unfold gJ; simp [ov]; omega
 ·simp [ov] at hc; subst hc; exact xA
 ·simp [ov] at hb
  rcases hb with rfl|rfl|rfl
  ·exact ⟨AS I,by simp [RR,ov]⟩
  ·exact ⟨AS I,by simp [RR,ov]⟩
  ·exact ⟨AS I,by simp [RR,ov]⟩
 ·have A:i<3:=hi
  have:i=0∨i=1∨i=2:=by omega
  rcases this with rfl|rfl|rfl
  ·show (1:Int)≤my (ov 0) 0; decide
  ·show (1:Int)≤my (ov 0) 1; decide
  ·show (1:Int)≤my (ov 0) 2; decide
def nj:bf:=ov 1
theorem Pa:dH nj=0:=yg LO (Ni I)
theorem Ap {r x:Int} (h0:0<x) (h1:x≤86400000) (hy:gu yW r x=true) (hn:gu yW r (x-1)=false):fF (gu yW r) 86400001=x:=
 zk I I hy fun z hz A=>by
  cases e:gu yW r z with
  |false=>rfl
  |true=>
   unfold gu at e hn
   have:=(oF xA hz (show z≤x-1 by omega) I).2
   have B:=of_decide_eq_true e
   have C:=of_decide_eq_false hn
   omega
theorem AR {r x:Int} (h0:0<x) (h1:x≤86400000) (hy:gv yW r x=true) (hn:gv yW r (x-1)=false):fF (gv yW r) 86400001=x:=
 zk I I hy fun z hz A=>by
  cases e:gv yW r z with
  |false=>rfl
  |true=>
   unfold gv at e hn
   have:=(oF xA hz (show z≤x-1 by omega) I).1
   have B:=of_decide_eq_true e
   have C:=of_decide_eq_false hn
   omega
theorem To:qT yW 10600=⟨10596,10602⟩:=by unfold qT; rw [Ap (x:=10596) I I dc dc,AR (x:=10603) I I dc dc]; rfl
theorem SW:qT yW 11000=⟨10996,11002⟩:=by unfold qT; rw [Ap (x:=10996) I I dc dc,AR (x:=11003) I I dc dc]; rfl
theorem TP:qT yW 12600=⟨12596,12602⟩:=by unfold qT; rw [Ap (x:=12596) I I dc dc,AR (x:=12603) I I dc dc]; rfl
def Si (f:Int):bT:=⟨10000,20000,[500,1500,2500],[[(0,⟨10596,10602⟩),(1,⟨10996,11002⟩)],[(2,⟨12596,12602⟩)],[]],1,f,3⟩
theorem Sw (f:Int):cP (ov f) ⟨0,10600⟩=⟨10596,10602⟩:=To
theorem TY (f:Int):cP (ov f) ⟨0,11000⟩=⟨10996,11002⟩:=SW
theorem Ta (f:Int):cP (ov f) ⟨1,12600⟩=⟨12596,12602⟩:=TP
theorem J1 (f:Int):ew (ov f) mY.ai 3=[[(0,⟨10596,10602⟩),(1,⟨10996,11002⟩)],[(2,⟨12596,12602⟩)],[]]:=by
 have o: ∀ b:Nat,k6 (ov f) mY.ai 3 b=(nW (ov f) mY.ai b 0).toList++((nW (ov f) mY.ai b 1).toList++(nW (ov f) mY.ai b 2).toList):=fun b=>by
  rw [lj,lj,lj]; simp [k6]
 have A: ∀ b:Nat,nW (ov f) mY.ai b 0=if (0:Int)=(b:Int) then some (0,⟨10596,10602⟩) else none:=fun b=>by
  show (if (0:Int)=(b:Int)∧(cP (ov f) ⟨0,10600⟩).Lo≤(cP (ov f) ⟨0,10600⟩).Hi then some ((0:Int),cP (ov f) ⟨0,10600⟩) else none)=_
  rw [Sw]; by_cases h:(0:Int)=(b:Int)
  ·rw [if_pos h,if_pos ⟨h,dc⟩]<;>rfl
  ·rw [if_neg h,if_neg fun q=>h q.1]
 have B: ∀ b:Nat,nW (ov f) mY.ai b 1=if (0:Int)=(b:Int) then some (1,⟨10996,11002⟩) else none:=fun b=>by
  show (if (0:Int)=(b:Int)∧(cP (ov f) ⟨0,11000⟩).Lo≤(cP (ov f) ⟨0,11000⟩).Hi then some ((1:Int),cP (ov f) ⟨0,11000⟩) else none)=_
  rw [TY]; by_cases h:(0:Int)=(b:Int)
  ·rw [if_pos h,if_pos ⟨h,dc⟩]<;>rfl
  ·rw [if_neg h,if_neg fun q=>h q.1]
 have C: ∀ b:Nat,nW (ov f) mY.ai b 2=if (1:Int)=(b:Int) then some (2,⟨12596,12602⟩) else none:=fun b=>by
  show (if (1:Int)=(b:Int)∧(cP (ov f) ⟨1,12600⟩).Lo≤(cP (ov f) ⟨1,12600⟩).Hi then some ((2:Int),cP (ov f) ⟨1,12600⟩) else none)=_
  rw [Ta]; by_cases h:(1:Int)=(b:Int)
  ·rw [if_pos h,if_pos ⟨h,dc⟩]<;>rfl
  ·rw [if_neg h,if_neg fun q=>h q.1]
 show [k6 (ov f) mY.ai 3 0,k6 (ov f) mY.ai 3 1,k6 (ov f) mY.ai 3 2]=_
 rw [o,o,o,A,A,A,B,B,B,C,C,C]
 rfl
theorem BO (f:Int):cy (ov f) mY=Si f:=by
 unfold cy Si
 rw [show mY.ai.length=3 from rfl,J1]
 rfl
theorem Oa (f:Int):fx (ov f) mY:=by
 refine ⟨dc,dc,fun i s hs=>?_⟩
 match i with
 |0=>simp [mY] at hs; subst hs; unfold kx lE; simp [ov,m7]
 |1=>simp [mY] at hs; subst hs; unfold kx lE; simp [ov,m7,mY]
 |2=>simp [mY] at hs; subst hs; unfold kx lE; simp [ov,m7,mY]
 |n+3=>simp [mY] at hs
theorem Mi:jU (cy nj mY)=[2,3]:=by rw [show cy nj mY=Si 1 from BO 1]; decide
theorem KG:eO nj mY 0=0:=l3 Pa (Oa 1) rfl (by rw [Mi]; decide)
theorem Js {b:Nat} (hb:b<3):eO nj mY (jW nj b)=0:=by rw [ym (by show 0≤(b:Int)∧(b:Int)≤3-1; omega)]; exact KG
theorem Ou {b:Nat} {z:aa} (hb:b<3) (hz:wc (mF (Si 1) b)=z) (hn:z≠mN):e8 nj mY b=0∧fh nj mY b=z:=by
 have e:mT nj mY b=z:=by unfold mT; rw [show cy nj mY=Si 1 from BO 1]; exact hz
 have h:=ox (Js hb) (by rw [e]; exact hn)
 exact ⟨h.1,h.2.trans e⟩
theorem wW:e8 nj mY 1=0∧fh nj mY 1=⟨12596,12602⟩:=Ou (b:=1) I dc dc
theorem Ec:e8 nj mY nj.cq=0∧AA nj mY=⟨2596,2602⟩:=by
 refine ⟨wW.1,?_⟩
 rw [Bi (l:=nj) (r:=mY) wW.1]
 rw [show fh nj mY nj.cq=⟨12596,12602⟩ from wW.2]
 rfl
theorem Tr (f:Int) {a:OA} {c:Nat} (hc:2≤c):ep (ov f) [(a,c)]:=by
 refine ⟨by simp [ov],?_,by simp [ov],U,by simp [ov],fun k m a' hm ha=>?_⟩
 ·intro x hx; simp [ov] at hx; subst hx; simp [Tx]
 ·match k with
  |0=>simp [ov] at hm ha; subst hm; subst ha; simp [yW]; exact hc
  |n+1=>simp at ha
end
section
def k8 (l:bf):Prop:=(20<(l.aL.length:Int)∨8<(l.ah.length:Int)∨10<(l.ae.length:Int))∨ ∃ c∈l.ah,10<(c.aV.length:Int)
noncomputable instance (l:bf):Decidable (k8 l):=Classical.propDecidable _
/-- what is asked of a line that comes in -/
structure uq (l:bf) (az:List RA):Prop where
 sx:l.aL.length≤9223372036854775807
 side: ∀ x∈l.aL,0≤x.iZ∧x.iZ≤255
 sG:l.ah.length≤9223372036854775807
 mW:az.length=l.ah.length
 sk:l.ae.length≤9223372036854775807
 RP: ∀ (k:Nat) m (a:RA),l.ah[k]? =some m→az[k]? =some a→m.aV.length≤a.2∧m.aV.length≤9223372036854775807
def AV (l:bf) (i:Nat):Prop:= ∀ (j:Nat) c,j<i→l.ah[j]? =some c→(c.aV.length:Int)≤10
theorem L8 {l:bf} {i:Nat} (h: ¬ (20<(l.aL.length:Int))∧ ¬ (8<(l.ah.length:Int))∧ ¬ (10<(l.ae.length:Int))) (hi:l.ah.length≤i) (hs:AV l i): ¬ k8 l:=by
 rintro (A|⟨c,hc,B⟩)
 ·omega
 ·obtain ⟨k,hk⟩:=List.getElem?_of_mem hc
  have:=hs k c (by have:=(aX.1 hk).1; omega) hk
  omega
theorem KB {l:bf} {i:Nat} {c:aq} (hc:l.ah[i]? =some c) (h:10<(c.aV.length:Int)):k8 l:= .inr ⟨c,aS hc,h⟩
theorem l_ {α:Type} {l:List α} {P:Nat→α→Prop} {i:Nat} {x:α} (h: ∀ (j:Nat) y,j<i→l[j]? =some y→P j y) (hx:l[i]? =some x) (hp:P i x): ∀ (j:Nat) y,j<i+1→l[j]? =some y→P j y:=fun j y hj hy=>by
 by_cases e:j=i
 ·subst e; rw [hx] at hy; cases hy; exact hp
 ·exact h j y I hy
theorem yK {α:Type} {l:List α} {P:Nat→α→Prop} {i:Nat} (hi:l.length≤i) (h: ∀ (j:Nat) y,j<i→l[j]? =some y→P j y): ∀ (j:Nat) y,l[j]? =some y→P j y:=fun j y hy=>h j y (by have:=(aX.1 hy).1; omega) hy
theorem xj {α:Type} {l:List α} {P:α→Prop} {i:Nat} (hi:l.length≤i) (h: ∀ (j:Nat) y,j<i→l[j]? =some y→P y): ∀ y∈l,P y:=fun y hy=>by
 obtain ⟨k,hk⟩:=List.getElem?_of_mem hy
 exact yK (P:=fun _ y=>P y) hi h k y hk
theorem tU {l:bf} (h: ¬ k8 l):(l.aL.length:Int)≤20∧(l.ah.length:Int)≤8∧(l.ae.length:Int)≤10∧ ∀ c∈l.ah,(c.aV.length:Int)≤10:=by
 unfold k8 at h
 rw [not_or] at h
 refine ⟨I,I,I,fun c hc=>?_⟩
 have:=h.2
 rcases Int.lt_or_le 10 (c.aV.length:Int) with q|q
 ·exact absurd ⟨c,hc,q⟩ this
 ·exact q
theorem uq.small {l:bf} {az:List RA} (h:uq l az) (hg: ¬ k8 l):ep l az:=by
 have A:=tU hg
 exact ⟨I,h.side,I,h.mW,I,fun k m a hm ha=>⟨(h.RP k m a hm ha).1,by have:=A.2.2.2 m (aS hm); omega⟩⟩
def Gc (c:aq) (x:cd) (k:Nat):Prop:= ∀ (j:Nat) o,j<k→c.aV[j]? =some o→oa c x o
def ub (c:aq) (m:Nat):Prop:= ∀ (i:Nat) x,i<m→c.aV[i]? =some x→Gc c x i
theorem JZ {c:aq} {m:Nat} (h1:0≤c.dv∧c.dv≤1000) (h2:1≤c.aV.length∧c.aV.length≤5) (hs: ∀ (i:Nat) x,c.aV[i]? =some x→fD c i x) (hm:c.aV.length≤m) (hp:ub c m):fj c:=
 ⟨h1,h2,hs,fun i k x o hx hk ho=>hp i x (by have:=(aX.1 hx).1; omega) hx k o hk ho⟩
theorem EE {c:aq} {m k:Nat} (h:ub c m) (hk: ∀ y,c.aV[m]? =some y→Gc c y k) (e:k=m):ub c (m+1):=by
 subst e
 intro i x hi hx
 by_cases e:i=k
 ·subst e; exact hk x hx
 ·exact h i x I hx
noncomputable def kY (c:aq) (at_:Int) (i:Nat):aa:=if i=0 then dN else gI c at_ i
theorem ES {c:aq} {at_:Int} {i:Nat} (h:fj c) (hi:c.aV.length≤i):kY c at_ i=iI c at_:=by
 have:=h.len
 unfold kY; rw [if_neg I,nK hi]
theorem Au {c:aq} {at_:Int} {i:Nat} {x:cd} (h:fj c) (ha:0≤at_∧at_≤90000000) (hx:c.aV[i]? =some x) (hi:i=0):
 kY c at_ (i+1)=⟨max (x.d_.Lo-sY c at_ x) (x.d_.Lo-sY c at_ x),min (x.d_.Hi+sY c at_ x) (x.d_.Hi+sY c at_ x)⟩:=by
 subst hi
 have hb:=h.vy hx
 have ho:=vr h.sT ha hb.1
 unfold kY
 rw [if_neg I,kf hx]
 unfold l0 gI
 simp only [List.take_zero,List.foldl_nil,aa.mk.injEq]
 omega
theorem Dk {c:aq} {at_:Int} {i:Nat} {x:cd} (hx:c.aV[i]? =some x) (hi: ¬ i=0):kY c at_ (i+1)=⟨max (kY c at_ i).Lo (x.d_.Lo-sY c at_ x),min (kY c at_ i).Hi (x.d_.Hi+sY c at_ x)⟩:=by
 unfold kY
 rw [if_neg I,if_neg hi,kf hx]; rfl
def ij (ts:List ak) (n:Nat):List aa:=(List.range n).map fun k=>eQ ts 0 k
theorem CP {ts:List ak} {n:Nat}:ij ts (n+1)=ij ts n++[eQ ts 0 n]:=by simp [ij,List.range_succ]
theorem oU {ts:List ak} {n:Nat}:(ij ts n).length=n:=by simp [ij]
theorem pK {ts:List ak} {n k:Nat} {x:aa} (h:(ij ts n)[k]? =some x):x=eQ ts 0 k:=by
 unfold ij at h
 rw [fP] at h
 cases hk:(List.range n)[k]? with
 |none=>simp [hk] at h
 |some v=>
  have:=aX.1 hk
  simp at this
  simp [hk] at h
  rw [← h,← this.2]
theorem Fk {ts:List ak} {a b:cK} (h:b.bj<a.bj):j6 ts a b=oB (j6 ts b a):=by
 unfold j6
 rw [if_pos h,if_neg I]
 unfold yB
 rw [Int.min_comm b.bj a.bj,Int.max_comm b.bj a.bj]
 unfold oB mR
 simp only [aa.mk.injEq]
 omega
theorem rl {ts:List ak} {a b:cK} (h: ¬ b.bj<a.bj):j6 ts a b=mR (mR (eQ ts a.bj.toNat (b.bj-a.bj).toNat) b.lO) (oB a.lO):=by
 unfold j6 yB
 rw [if_neg h,Int.min_eq_left I,Int.max_eq_right I]
end
section
def hO (m:List au) (a:cG):List aw:=rd a.1.1 m.length 7 (List.zipWith au.cells m a.2)::aU au.gE m a.2
structure Qy (h:List au) (a:cG):Prop where
 len:h.length≤1000000
 mW:a.2.length=h.length
 sig: ∀ d∈h,d.b_.ai.length≤1000000
structure ej (r:bY) (az:List RA) (ha:List cG):Prop where
 line:ep r.an az
 iA:r.aK.length≤1000000
 draw:r.bL.length≤12
 iv:r.ao.length≤1000000
 has:ha.length=r.ao.length
 kb: ∀ (k:Nat) h (a:cG),r.ao[k]? =some h→ha[k]? =some a→Qy h a
structure r8 (r:bY) (az:List RA) (ha:List cG):Prop where
 line:uq r.an az
 iA:r.aK.length≤9223372036854775807
 draw:r.bL.length≤9223372036854775807
 iv:r.ao.length≤9223372036854775807
 has:ha.length=r.ao.length
 kb: ∀ (k:Nat) h (a:cG),r.ao[k]? =some h→ha[k]? =some a→h.length≤9223372036854775807∧a.2.length=h.length∧ ∀ d∈h,d.b_.ai.length≤9223372036854775807
def py (h:List au):Prop:=8<(h.length:Int)∨ ∃ d∈h,15<(d.b_.ai.length:Int)
def kW (r:bY):Prop:=(k8 r.an∨8<(r.aK.length:Int)∨8<(r.bL.length:Int)∨5<(r.ao.length:Int))∨ ∃ h∈r.ao,py h
noncomputable instance (r:bY):Decidable (kW r):=Classical.propDecidable _
theorem uC {r:bY} (h: ¬ kW r): ¬ k8 r.an∧(r.aK.length:Int)≤8∧(r.bL.length:Int)≤8∧(r.ao.length:Int)≤5∧ ∀ h∈r.ao,(h.length:Int)≤8∧ ∀ d∈h,(d.b_.ai.length:Int)≤15:=by
 unfold kW at h
 obtain ⟨A,B⟩:=not_or.1 h
 obtain ⟨C,E⟩:=not_or.1 A
 refine ⟨C,I,I,I,fun x hx=>?_⟩
 have hn: ¬ py x:=fun q=>B ⟨x,hx,q⟩
 obtain ⟨F,D⟩:=not_or.1 hn
 refine ⟨I,fun d hd=>?_⟩
 rcases Int.lt_or_le 15 (d.b_.ai.length:Int) with q|q
 ·exact absurd ⟨d,hd,q⟩ D
 ·exact q
theorem r8.small {r:bY} {az:List RA} {ha:List cG} (h:r8 r az ha) (hg: ¬ kW r):ej r az ha:=by
 have B:=uC hg
 refine ⟨h.line.small B.1,I,I,I,h.has,fun k x a hx A=>?_⟩
 have C:=B.2.2.2.2 x (aS hx)
 have D:=h.kb k x a hx A
 exact ⟨I,D.2.1,fun d hd=>by have:=C.2 d hd; omega⟩
def mG (r:cL):Prop:=r.Start=0∧r.fZ=0∧(r.ai.length:Int)=0
instance (r:cL):Decidable (mG r):=by unfold mG; infer_instance
def iP (s:aa):Prop:=1≤s.Lo∧s.Lo≤s.Hi∧s.Hi≤600000
instance (s:aa):Decidable (iP s):=by unfold iP; infer_instance
def iy (l:bf) (d:au):Prop:=if d.Out=true then d.dZ=false∧d.Time=dN∧mG d.b_ else if d.dZ=true then iP d.Time∧mG d.b_ else e8 l d.b_ l.cq=0∧d.Time=dN
noncomputable instance (l:bf) (d:au):Decidable (iy l d):=Classical.propDecidable _
noncomputable def dF (l:bf) (d:au):aa:=if d.Out=true∨d.dZ=true then d.Time else AA l d.b_
/-- which kind a descent is of -/
def oZ (d:au):Int:=if d.Out=true then 0 else if d.dZ=true then 1 else 2
theorem OU {w:bT} (h:It w): ∀ (b:Nat) (p:aF×Int),p∈fwd w b→w.Start≤p.2:=by
 have hl: ∀ b,0≤bX w b:=fun b=>by
  unfold bX
  cases e:w.qp[b]? with
  |none=>simp
  |some x=>have:=h.least x (aS e); simp; omega
 intro b
 induction b with
 |zero=>intro p hp; simp only [fwd,bP] at hp; subst hp; exact Int.le_refl _
 |succ b ih=>
  intro q hq
  obtain ⟨p,hp,o,ho,e⟩:=fY.1 hq
  unfold kX at e
  split at e
  ·simp only [Option.some.injEq] at e
   subst e
   have:=ih p hp
   have:=hl b
   simp only; omega
  ·cases e
theorem OB {l:bf} {r:cL} {b:Int} (h:e8 l r b=0):r.Start≤(fh l r b).Lo:=by
 have ho:eO l r (jW l b)=0:=by
  by_cases e:eO l r (jW l b)=0
  ·exact e
  ·rw [(oe e).1] at h; exact absurd h e
 obtain ⟨B,C,_⟩:=kg ho
 obtain ⟨ht,A⟩:=gT B
 have hw:=o8 ht A C
 have hv:fh l r b=mT l r b.toNat:=by unfold fh; rw [if_pos h]
 have hn:mT l r b.toNat≠mN:=fun e=>by unfold e8 at h; rw [if_pos ho,if_pos e] at h; omega
 have hh:=uO (l:=mF (cy l r) b.toNat) fun q hq=>nq hq
 rw [hv]
 unfold mT at hn ⊢
 rcases hh with ⟨_,e⟩|hh
 ·exact absurd e hn
 ·obtain ⟨x,hx,ex⟩:=hh.lo
  obtain ⟨o,ho,p,hp,u,hu,e⟩:=ir.1 hx
  obtain ⟨_,_,rfl⟩:=jE.1 e
  have D:r.Start≤p.2:=OU hw _ p hp
  have E:0≤bX (cy l r) b.toNat:=by
   unfold bX
   cases e:(cy l r).qp[b.toNat]? with
   |none=>simp
   |some x=>have:=hw.least x (aS e); simp; omega
  simp only [jJ] at ex
  omega
theorem GL {l:bf} {d:au} (h:iy l d):0≤(dF l d).Lo∧(dF l d).Lo≤(dF l d).Hi∧(dF l d).Hi≤86400000:=by
 unfold iy at h
 unfold dF
 split at h
 ·rename_i q; rw [if_pos (Or.inl q),h.2.1]; simp [dN]
 ·rename_i q
  split at h
  ·rename_i A
   rw [if_pos (Or.inr A)]
   obtain ⟨⟨B,C,D⟩,_⟩:=h
   omega
  ·rename_i A
   rw [if_neg (fun z=>z.elim q A),Bi h.1]
   have B:=w8 h.1
   have C:=(we h.1).time
   have D:=OB h.1
   simp only
   omega
theorem FR {l:bf} {d:au} (h:d.Out=true):dF l d=d.Time:=if_pos (Or.inl h)
theorem Bg {l:bf} {d:au} (h:d.Out=false∧d.dZ=true):dF l d=d.Time:=if_pos (Or.inr h.2)
theorem wG {l:bf} {d:au} (h:d.Out=false∧d.dZ=false):dF l d=AA l d.b_:=if_neg (by simp [h])
theorem q_ {l:bf} {d:au} (h:d.Out=true):iy l d=(d.dZ=false∧d.Time=dN∧mG d.b_):=if_pos h
theorem tT {l:bf} {d:au} (h:d.Out=false∧d.dZ=true):iy l d=(iP d.Time∧mG d.b_):=by unfold iy; rw [if_neg (by simp [h]),if_pos h.2]
theorem uH {l:bf} {d:au} (h:d.Out=false∧d.dZ=false):iy l d=(e8 l d.b_ l.cq=0∧d.Time=dN):=by unfold iy; rw [if_neg (by simp [h]),if_neg (by simp [h])]
structure fc (r:bY):Prop where
 num:1≤(r.aK.length:Int)∧(r.aK.length:Int)≤5
 wZ:0≤r.gZ∧r.gZ≤5
 nh:1≤(r.ao.length:Int)∧(r.ao.length:Int)≤3
 ids: ∀ (i:Nat) x,r.aK[i]? =some x→(0≤x∧x≤9999)∧ ∀ y,0<i→r.aK[i-1]? =some y→y<x
 draw:r.bL.Perm ((List.range r.aK.length).map fun (k:Nat)=>(k:Int))
 kb: ∀ h∈r.ao,h.length=r.aK.length∧ ∀ d∈h,iy r.an d
noncomputable instance (r:bY):Decidable (fc r):=Classical.propDecidable _
noncomputable def cV (r:bY):Int:=if dH r.an=0 then (if fc r then 0 else 60) else dH r.an
end
section
theorem l8 {α β:Type} {f g:α→Option β}: ∀ {l:List α},(∀ x∈l,f x=g x)→l.filterMap f=l.filterMap g
 |[],_=>rfl
 |x::l,h=>by simp only [List.filterMap_cons,h x bZ,l8 (l:=l) (fun y hy=>h y (c_ _ hy))]
abbrev g0:=List (Int×aa)
/-- the sum of a sled in some heats, the first ones -/
noncomputable def fm (l:bf) (hs:List (List au)) (i:Nat):Nat→Option aa
 |0=>some ⟨0,0⟩
 |k+1=>match fm l hs i k,(hs[k]?).bind (·[i]?) with
  |some s,some d=>if d.Out=true then none else some ⟨s.Lo+(dF l d).Lo/10,s.Hi+(dF l d).Hi/10⟩
  |_,_=>none
noncomputable def eE (l:bf) (hs:List (List au)) (n h i:Nat):g0:=(List.range n).filterMap fun q=>(fm l hs q (if q<i then h+1 else h)).map fun s=>((q:Int),s)
noncomputable def eL (r:bY) (k:Nat):g0:=(List.range r.aK.length).filterMap fun q=>(fm r.an r.ao q k).map fun s=>((q:Int),s)
noncomputable def ax (r:bY):g0:=eL r r.ao.length
section
variable {l:bf} {hs:List (List au)} {n h i q:Nat} {s:aa} {d:au}
theorem Cc:eE l hs n h 0=(List.range n).filterMap fun q=>(fm l hs q h).map fun s=>((q:Int),s):=by
 unfold eE
 apply l8
 intro q _
 rw [if_neg (Nat.not_lt_zero _)]
theorem Oo:eE l hs n h n=eE l hs n (h+1) 0:=by
 rw [Cc]
 unfold eE
 apply l8
 intro q hq
 rw [if_pos (List.mem_range.1 hq)]
theorem Hf {x:List au} (hx:hs[h]? =some x) (hd:x[i]? =some d) (ho:d.Out=true):fm l hs i (h+1)=none:=by
 unfold fm
 rw [hx]
 simp only [Option.bind_some,hd]
 cases fm l hs i h with
 |none=>rfl
 |some s=>simp [ho]
theorem D6 (h0:fm l hs i h=none):fm l hs i (h+1)=none:=by unfold fm; rw [h0]
theorem Ea {x:List au} (hx:hs[h]? =some x) (hd:x[i]? =some d) (ho: ¬ d.Out=true) (hs0:fm l hs i h=some s):fm l hs i (h+1)=some ⟨s.Lo+(dF l d).Lo/10,s.Hi+(dF l d).Hi/10⟩:=by
 unfold fm
 rw [hx,hs0]
 simp only [Option.bind_some,hd,if_neg ho]
end
section
variable {l:bf} {hs:List (List au)} {n h i q:Nat} {s t:aa}
theorem RM {K β:Type} [DecidableEq K] {L Y:List (K×β)} {t:K}:(L++Y).lookup t=match L.lookup t with |some v=>some v|none=>Y.lookup t:=by
 induction L with
 |nil=>rfl
 |cons p L ih=>
  obtain ⟨k,u⟩:=p
  by_cases e:t==k
  ·simp [List.lookup,e]
  ·have:(t==k)=false:=by simpa using e
   simp only [List.cons_append,List.lookup,this,ih]
theorem pt {f:Nat→Option aa}: ∀ (n i:Nat),((List.range n).filterMap fun q=>(f q).map fun s=>((q:Int),s)).lookup (i:Int)=if i<n then f i else none
 |0,i=>by simp
 |n+1,i=>by
  rw [List.range_succ,List.filterMap_append,RM,pt n i]
  by_cases c:i<n
  ·rw [if_pos c,if_pos I]
   cases e:f i with
   |some s=>rfl
   |none=>
    simp only
    cases e2:f n with
    |none=>simp [e2]
    |some u=>
     have:((i:Int)==(n:Int))=false:=by simp only [beq_eq_false_iff_ne,ne_eq]; omega
     simp [e2,List.lookup,this]
  ·rw [if_neg c]
   simp only
   by_cases A:i=n
   ·subst A
    rw [if_pos I]
    cases e2:f i with
    |none=>simp [e2]
    |some u=>simp [e2]
   ·rw [if_neg I]
    have:((i:Int)==(n:Int))=false:=by simp only [beq_eq_false_iff_ne,ne_eq]; omega
    cases e2:f n with
    |none=>simp [e2]
    |some u=>simp [e2,List.lookup,this]
theorem xP:(eE l hs n h i).lookup (q:Int)=if q<n then fm l hs q (if q<i then h+1 else h) else none:=pt n q
theorem QB {f g:Nat→Option aa} {n i:Nat} (hi:i<n) {s:aa} (hf:(f i).isSome=true) (hg:g i=some s) (hfg: ∀ q,q≠i→f q=g q):eP ((List.range n).filterMap fun q=>(f q).map fun s=>((q:Int),s)) (i:Int) s=(List.range n).filterMap fun q=>(g q).map fun s=>((q:Int),s):=by
 unfold eP
 rw [if_pos (by rw [pt,if_pos hi]; exact hf),List.map_filterMap]
 apply l8
 intro q _
 by_cases e:q=i
 ·subst e
  obtain ⟨u,hu⟩:=Option.isSome_iff_exists.1 hf
  rw [hu,hg]; simp
 ·rw [hfg q e]
  cases g q with
  |none=>rfl
  |some u=>
   have: ¬ ((q:Int)=(i:Int)):=by omega
   simp [this]
theorem Q3 {f g:Nat→Option aa} {n i:Nat} (hg:g i=none) (hfg: ∀ q,q≠i→f q=g q):cJ ((List.range n).filterMap fun q=>(f q).map fun s=>((q:Int),s)) (i:Int)=(List.range n).filterMap fun q=>(g q).map fun s=>((q:Int),s):=by
 unfold cJ
 rw [List.filter_filterMap]
 apply l8
 intro q _
 by_cases e:q=i
 ·subst e
  rw [hg]
  cases f q with
  |none=>rfl
  |some u=>simp
 ·rw [hfg q e]
  cases g q with
  |none=>rfl
  |some u=>
   have: ¬ ((q:Int)=(i:Int)):=by omega
   simp [this]
theorem Om (hi:i<n) (h0:(fm l hs i h).isSome=true) (h1:fm l hs i (h+1)=some s):eP (eE l hs n h i) (i:Int) s=eE l hs n h (i+1):=by
 unfold eE
 refine QB hi (by rw [if_neg (Nat.lt_irrefl i)]; exact h0) (by rw [if_pos (Nat.lt_succ_self i)]; exact h1) fun q hq=>?_
 by_cases c:q<i
 ·rw [if_pos c,if_pos I]
 ·rw [if_neg c,if_neg I]
theorem FT (h1:fm l hs i (h+1)=none):cJ (eE l hs n h i) (i:Int)=eE l hs n h (i+1):=by
 unfold eE
 refine Q3 (by rw [if_pos (Nat.lt_succ_self i)]; exact h1) fun q hq=>?_
 by_cases c:q<i
 ·rw [if_pos c,if_pos I]
 ·rw [if_neg c,if_neg I]
end
theorem wh {r:bY} {k i:Nat}:(eL r k).lookup (i:Int)=if i<r.aK.length then fm r.an r.ao i k else none:=pt _ _
def nc (m:g0) (i:Int):g0:=m.filter fun p=> !decide (p.1=i)
def iK (m:g0) (i n:Int):Nat:=(nc m i).countP fun p=>decide (p.2.Hi<n)
def j5 (m:g0) (i n:Int):Nat:=(nc m i).countP fun p=>decide (p.2.Lo<n)
def jQ (m:g0) (i:Int) (own:aa):List Int:=own.Lo::((nc m i).flatMap fun p=>[p.2.Lo+1,p.2.Hi+1]).filter fun n=>decide (own.Lo≤n∧n≤own.Hi)
def sV (m:g0) (i:Int) (own:aa) (k:Int):Prop:= ∃ n∈jQ m i own,(iK m i n:Int)+1≤k∧k≤(j5 m i n:Int)+1
noncomputable instance (m:g0) (i:Int) (own:aa) (k:Int):Decidable (sV m i own k):=Classical.propDecidable _
noncomputable def cY (m:g0) (i:Int) (own:aa):List Int:=((List.range m.length).map fun (k:Nat)=>(k:Int)+1).filter fun k=>decide (sV m i own k)
section
variable {m:g0} {i:Int} {own:aa}
/-- what a point stands for -/
theorem Jb {x:Int} (h1:own.Lo≤x) (h2:x≤own.Hi): ∃ n∈jQ m i own,n≤x∧iK m i n=iK m i x∧j5 m i n=j5 m i x:=by
 -- the greatest point that is no greater
 have key: ∀ (d:Nat) (x:Int),own.Lo≤x→x≤own.Hi→(x-own.Lo).toNat=d→ ∃ n∈jQ m i own,n≤x∧iK m i n=iK m i x∧j5 m i n=j5 m i x:=by
  intro d
  induction d with
  |zero=>
   intro x h1 h2 hd
   have:x=own.Lo:=by omega
   exact ⟨own.Lo,bZ ..,I,by rw [this],by rw [this]⟩
  |succ d ih=>
   intro x h1 h2 hd
   by_cases c:x∈jQ m i own
   ·exact ⟨x,c,Int.le_refl _,U,U⟩
   ·obtain ⟨n,hn,D,B,C⟩:=ih (x-1) I I I
    have A: ∀ p∈nc m i,p.2.Lo+1≠x∧p.2.Hi+1≠x:=fun p hp=>by
     constructor<;>intro e<;>apply c<;>refine c_ _ (List.mem_filter.2 ⟨List.mem_flatMap.2 ⟨p,hp,by rw [← e]; simp⟩,dK ⟨h1,h2⟩⟩)
    refine ⟨n,hn,I,?_,?_⟩
    ·rw [B]
     unfold iK
     apply List.countP_congr
     intro p hp
     have:=(A p hp).2
     rw [decide_eq_true_eq,decide_eq_true_eq]
     omega
    ·rw [C]
     unfold j5
     apply List.countP_congr
     intro p hp
     have:=(A p hp).1
     rw [decide_eq_true_eq,decide_eq_true_eq]
     omega
 exact key _ x h1 h2 U
theorem Md {n:Int} (ho:own.Lo≤own.Hi) (h:n∈jQ m i own):own.Lo≤n∧n≤own.Hi:=by
 rcases bE.1 h with rfl|h
 ·omega
 ·exact of_decide_eq_true (List.mem_filter.1 h).2
/-- a rank comes about at some sum -/
theorem uv (ho:own.Lo≤own.Hi) {k:Int}:sV m i own k↔ ∃ x,own.Lo≤x∧x≤own.Hi∧(iK m i x:Int)+1≤k∧k≤(j5 m i x:Int)+1:=by
 constructor
 ·rintro ⟨n,hn,A,B⟩
  have:=Md ho hn
  exact ⟨n,this.1,this.2,A,B⟩
 ·rintro ⟨x,A,B,E,F⟩
  obtain ⟨n,hn,_,C,D⟩:=Jb (m:=m) (i:=i) A B
  exact ⟨n,hn,by rw [C]; exact E,by rw [D]; exact F⟩
theorem IZ (hi:m.lookup i≠none) {x:Int}:j5 m i x+1≤m.length:=by
 unfold j5
 refine Nat.lt_of_le_of_lt List.countP_le_length ?_
 unfold nc
 obtain ⟨v,hv⟩:=Option.ne_none_iff_exists'.1 hi
 have hm: ∃ p∈m,p.1=i:=by
  clear hi
  induction m with
  |nil=>simp at hv
  |cons p m ih=>
   obtain ⟨a,b⟩:=p
   by_cases e:i=a
   ·exact ⟨_,bZ ..,e.symm⟩
   ·have:(i==a)=false:=by simpa using e
    simp only [List.lookup,this] at hv
    obtain ⟨p,hp,e⟩:=ih hv
    exact ⟨p,c_ _ hp,e⟩
 obtain ⟨p,hp,e⟩:=hm
 refine Nat.lt_of_le_of_ne (List.length_filter_le _ _) fun q=>?_
 have:=(List.filter_eq_self (p:=fun p:Int×aa=> !decide (p.1=i))).1 (List.filter_sublist.eq_of_length q) p hp
 simp [e] at this
theorem Ic (hi:m.lookup i≠none) {k:Int}:k∈cY m i own↔sV m i own k:=by
 unfold cY
 rw [List.mem_filter,bW,decide_eq_true_eq]
 constructor
 ·rintro ⟨_,h⟩; exact h
 ·intro h
  refine ⟨?_,h⟩
  obtain ⟨n,_,A,B⟩:=h
  have:=IZ hi (x:=n)
  exact ⟨(k-1).toNat,List.mem_range.2 I,I⟩
end
end
section
def qG (l:List Int):List (List Value):=l.map fun x=>[vI x]
theorem tW {l:List Int}:(qG l).length=l.length:=by simp [qG]
theorem IJ {l:List Int} {k:Nat} {x:Int} (h:l[k]? =some x):(qG l)[k]? =some [vI x]:=by simp [qG,h]
theorem Hp {l:List Int} {k:Nat} {x:List Value} (h:(qG l)[k]? =some x): ∃ y,l[k]? =some y∧x=[vI y]:=by
 simp only [qG,fP,Option.map_eq_some_iff] at h
 obtain ⟨y,hy,rfl⟩:=h
 exact ⟨y,hy,U⟩
theorem EI {l:List Int}: ∀ x∈qG l,x.length=1:=fun x hx=>by
 simp only [qG,bW] at hx
 obtain ⟨y,_,rfl⟩:=hx
 rfl
theorem yY {l:List Int}:l.take (qG l).length=l:=by rw [tW,List.take_of_length_le (Nat.le_refl _)]
theorem mx {l:List Int} {k:Nat} {x:Int} (h:l[k]? =some x):l.take (k+1)=l.take k++[x]:=by
 rw [List.take_add_one,h]; rfl
def dA (l:List Int):List Int:=l.mergeSort fun a b=>decide (a≤b)
theorem fp {l:List Int}:(dA l).Perm l:=List.mergeSort_perm _ _
theorem ks {l:List Int}:(dA l).Pairwise (· ≤ ·):=by
 have:=List.pairwise_mergeSort (le:=fun (a b:Int)=>decide (a≤b)) (fun a b c A B=>by simp at A B ⊢; omega) (fun a b=>by simp; omega) l
 exact this.imp fun h=>by simpa using h
@[simp] theorem gF {l:List Int}:(dA l).length=l.length:=fp.length_eq
theorem q8 {l m:List Int} (h1:m.Perm l) (h2:m.Pairwise (· ≤ ·)):m=dA l:=sM (h1.trans fp.symm) h2 ks
end
section
open Go.RowKit
def sC (s:bq):List Value:=[vS s.a s.n s.c]
theorem zp: ∀ s,(sC s).length=1:=fun s=>rfl
theorem JT (l:List bq): ∀ v∈(l.map sC).flatten,v.oneCell'=true:=mP (fun s=>rfl) l
def CQ (l:List aa) (a:RA):bq:=⟨a.1,l.length,a.2⟩
def Ew (l:List aa) (a:RA):List Value:=[vS a.1 l.length a.2]
def M3 (l:List aa) (a:RA):List aw:=[rd a.1 l.length 2 (l.map aa.cells)]
def DU (l:List aa) (a:RA):List aw:=[own a.1 a.2 KN 2 (l.map aa.cells)]
theorem zq {ls:List (List aa)} {az:List RA}:(List.zipWith CQ ls az).map sC=List.zipWith Ew ls az:=by
 rw [List.map_zipWith]; rfl
theorem ua: ∀ (m:List aa) (a:RA) (w:World),(∀ X∈DU m a,X.holds w)→ ∀ X∈M3 m a,X.holds w:=fun m a w h X hX=>by
 simp only [M3,bP] at hX
 subst hX
 have:=ob (h _ (bP.2 rfl))
 simpa using this
theorem xN {l:List (List aa)} {bz:List RA}:(bB (aU DU l bz)).wr=true:=by
 show (aU DU l bz).all (·.wr)=true
 rw [cZ]
 intro X hX
 obtain ⟨k,m,a,_,_,h⟩:=jX hX
 simp only [DU,bP] at h
 subst h; rfl
theorem nm {ls:List (List aa)} {az:List RA} (h:az.length=ls.length):(List.zipWith Ew ls az).length=ls.length:=by simp [h]
noncomputable def gN (r:bY) (i:Nat):List (List aa):=(r.ao.take i).map fun h=>h.map (dF r.an)
noncomputable def cU (r:bY):List (List aa):=gN r r.ao.length
section
variable {r:bY} {i:Nat} {h:List au} {tz:List RA} {a:RA}
theorem v9 (hh:r.ao[i]? =some h):gN r (i+1)=gN r i++[h.map (dF r.an)]:=by unfold gN; rw [List.take_add_one,hh,List.map_append]; rfl
theorem kU (hi:i≤r.ao.length):(gN r i).length=i:=by unfold gN; rw [List.length_map,List.length_take]; omega
theorem dB:(cU r).length=r.ao.length:=kU (Nat.le_refl _)
theorem E2 (hh:r.ao[i]? =some h):(cU r)[i]? =some (h.map (dF r.an)):=by
 unfold cU gN
 rw [List.take_length,fP,hh]; rfl
theorem zA {m:List aa} (hh:r.ao[i]? =some h) (hm:(cU r)[i]? =some m):m=h.map (dF r.an):=by
 rw [E2 hh] at hm
 exact (Option.some.inj hm).symm
theorem uL (hh:r.ao[i]? =some h) (hl:tz.length=i):List.zipWith CQ (gN r (i+1)) (tz++[a])=List.zipWith CQ (gN r i) tz++[CQ (h.map (dF r.an)) a]:=by
 have hi:=(aX.1 hh).1
 rw [v9 hh,List.zipWith_append (by rw [kU I,hl])]
 rfl
theorem CK (hh:r.ao[i]? =some h) (hl:tz.length=i):aU DU (gN r i) tz++[own a.1 a.2 KN 2 ((h.map (dF r.an)).map aa.cells)]=aU DU (gN r (i+1)) (tz++[a]):=by
 have hi:=(aX.1 hh).1
 rw [v9 hh,jt (by rw [kU I,hl])]
 simp [aU,DU]
end
theorem zD {lo hi:Int} {l:List Int}:qx lo hi l=true↔ ∀ x∈l,lo≤x∧x≤hi:=by
 unfold qx
 rw [Bool.not_eq_true',List.any_eq_false]
 constructor
 ·intro h x hx; have:=h x hx; simp only [decide_eq_true_eq] at this; omega
 ·intro h x hx; have:=h x hx; simp only [decide_eq_true_eq]; omega
abbrev HX (n:Nat):List Int:=(List.range n).map fun (k:Nat)=>(k:Int)
theorem wY (n:Nat):(HX n).Pairwise (· ≤ ·):=by
 unfold HX
 rw [List.pairwise_map]
 exact List.pairwise_lt_range.imp fun h=>by omega
theorem vE {l:List Int} {n:Nat} (h:l.Perm (HX n)):dA l=HX n:=(q8 h.symm (wY n)).symm
theorem Ih {l:List Int} {n:Nat} (hl:l.length=n) (h: ∀ j,j<n→ ∀ x,(dA l)[j]? =some x→x=(j:Int)):l.Perm (HX n):=by
 have e:dA l=HX n:=by
  apply List.ext_getElem
  ·simp [hl]
  ·intro j A B
   have C:j<n:=by simpa using B
   have:=h j C _ (e7 A)
   simpa using this
 rw [← e]; exact fp.symm
def rV (r:bY) (i:Nat):Prop:= ∀ j,j<i→(∀ x,(dA r.bL)[j]? =some x→x=(j:Int))∧ ∀ x y,r.aK[j]? =some x→0<j→r.aK[j-1]? =some y→y<x
def D3 (r:bY) (h:List au):Prop:=h.length=r.aK.length∧ ∀ d∈h,iy r.an d
def kl (r:bY) (i:Nat):Prop:= ∀ (j:Nat) h,j<i→r.ao[j]? =some h→D3 r h
def oJ (l:bf) (h:List au) (k:Nat):Prop:= ∀ (j:Nat) d,j<k→h[j]? =some d→iy l d
section
variable {r:bY} {i:Nat}
theorem Eb:rV r 0:=fun j hj=>absurd hj (Nat.not_lt_zero _)
theorem xX {x:Int} (h:rV r i) (hd:(dA r.bL)[i]? =some x) (e:x=(i:Int)) (hs: ∀ x y,r.aK[i]? =some x→0<i→r.aK[i-1]? =some y→y<x):rV r (i+1):=fun j hj=>by
 rcases Nat.lt_or_ge j i with q|q
 ·exact h j q
 ·obtain rfl:j=i:=by omega
  exact ⟨fun y hy=>by rw [hd] at hy; cases hy; exact e,hs⟩
theorem yi:kl r 0:=fun j h hj=>absurd hj (Nat.not_lt_zero _)
theorem w9 {h:List au} (hh:kl r i) (hx:r.ao[i]? =some h) (ho:D3 r h):kl r (i+1):=fun j y hj hy=>by
 rcases Nat.lt_or_ge j i with q|q
 ·exact hh j y q hy
 ·obtain rfl:j=i:=by omega
  rw [hx] at hy; cases hy; exact ho
theorem vK {l:bf} {h:List au}:oJ l h 0:=fun j d hj=>absurd hj (Nat.not_lt_zero _)
theorem vZ {l:bf} {h:List au} {d:au} (ht:oJ l h i) (hx:h[i]? =some d) (ho:iy l d):oJ l h (i+1):=fun j y hj hy=>by
 rcases Nat.lt_or_ge j i with q|q
 ·exact ht j y q hy
 ·obtain rfl:j=i:=by omega
  rw [hx] at hy; cases hy; exact ho
theorem Gq {h:List au} (hl:h.length=r.aK.length) (ht:oJ r.an h i) (hi:h.length≤i):D3 r h:=⟨hl,fun d hd=>by
 obtain ⟨j,hj⟩:=List.getElem?_of_mem hd
 exact ht j d (by have:=(aX.1 hj).1; omega) hj⟩
theorem I4 {n:Nat} (hn:n=r.aK.length) (h1:1≤(r.aK.length:Int)∧(r.aK.length:Int)≤5) (h2:r.bL.length=r.aK.length) (h3:0≤r.gZ∧r.gZ≤5) (h4:1≤(r.ao.length:Int)∧(r.ao.length:Int)≤3) (h5:qx 0 9999 r.aK=true)
 (h6:rV r n) (h7:kl r i) (hi:r.ao.length≤i):fc r:=by
 subst hn
 refine ⟨h1,h3,h4,fun k x hx=>⟨zD.1 h5 x (aS hx),fun y hk hy=>?_⟩,Ih h2 fun j hj=>(h6 j hj).1,fun h hh=>?_⟩
 ·exact (h6 k (aX.1 hx).1).2 x y hx hk hy
 ·obtain ⟨j,hj⟩:=List.getElem?_of_mem hh
  exact h7 j h (by have:=(aX.1 hj).1; omega) hj
theorem fc.yX (h:fc r):r.bL.length=r.aK.length:=by have:=h.draw.length_eq; simpa using this
theorem fc.ins (h:fc r):qx 0 9999 r.aK=true:=zD.2 fun x hx=>by
 obtain ⟨j,hj⟩:=List.getElem?_of_mem hx
 exact (h.ids j x hj).1
theorem fc.drawn (h:fc r) {x:Int} (hx:(dA r.bL)[i]? =some x):x=(i:Int):=by
 rw [vE h.draw] at hx
 have hi:=(aX.1 hx).1
 simp at hi
 rw [fP,List.getElem?_range hi] at hx
 exact (Option.some.inj hx).symm
theorem fc.Av (h:fc r):kl r i:=fun j x _ hx=>h.kb x (aS hx)
theorem zM (h: ¬ dH r.an=0):cV r=dH r.an:=if_neg h
theorem kH (h:dH r.an=0) (hn: ¬ fc r):cV r=60:=by unfold cV; rw [if_pos h,if_neg hn]
theorem CW (h:dH r.an=0) (hn:fc r):cV r=0:=by unfold cV; rw [if_pos h,if_pos hn]
theorem iw (h:cV r=0):dH r.an=0∧fc r:=by
 unfold cV at h
 split at h
 ·split at h
  ·exact ⟨asm,asm⟩
  ·cases h
 ·exact absurd h asm
end
section
variable {r:bY} {k i n h:Nat} {s:aa} {l:bf} {hs:List (List au)}
theorem AP: ∀ {k:Nat} {s:aa},kl r k→k≤r.ao.length→fm r.an r.ao i k=some s→0≤s.Lo∧s.Lo≤s.Hi∧s.Hi≤8640000*(k:Int)
 |0,s,_,_,h=>by
  simp only [fm,Option.some.injEq] at h
  subst h; simp
 |k+1,s,hh,hk,h=>by
  unfold fm at h
  split at h
  ·rename_i u d hu hd
   split at h
   ·cases h
   ·cases h
    have A:=AP (fun j x hj hx=>hh j x I hx) I hu
    obtain ⟨x,hx,hd⟩:=Option.bind_eq_some_iff.1 hd
    have B:=GL ((hh k x I hx).2 d (aS hd))
    simp only
    push_cast
    omega
  ·cases h
theorem NU:eP (eE l hs i 0 0) (i:Int) ⟨0,0⟩=eE l hs (i+1) 0 0:=by
 have A:(eE l hs i 0 0).lookup (i:Int)=none:=by rw [xP,if_neg (Nat.lt_irrefl i)]
 unfold eP
 rw [A]
 simp only [Option.isSome_none,Bool.false_eq_true,if_false]
 unfold eE
 rw [List.range_succ,List.filterMap_append]
 simp [fm]
theorem Kw (hi:i<n):(eE l hs n h i).lookup (i:Int)=fm l hs i h:=by rw [xP,if_pos hi,if_neg (Nat.lt_irrefl i)]
theorem ME {α β:Type} {f:α→β} {tr:List β} {ht:List α} {x:β} {d:α} (e:tr=ht.map f) (hx:tr[i]? =some x) (hd:ht[i]? =some d):x=f d:=by
 rw [e,fP,hd] at hx
 exact (Option.some.inj hx).symm
theorem Ow:eE r.an r.ao r.aK.length h 0=eL r h:=Cc
end
end
section
def wB (key:Int→Int) (l:List Int) (x:Int):List Int:=l.takeWhile (fun y=>decide (key y≤key x))++x::l.dropWhile (fun y=>decide (key y≤key x))
def eN (key:Int→Int) (l:List Int):List Int:=l.foldl (wB key) []
def En (key:Int→Int) (l:List Int):Prop:=l.Pairwise fun a b=>key a≤key b
section
variable {key:Int→Int} {l A B D:List Int} {x u v:Int} {i j:Nat}
theorem HQ:(wB key l x).Perm (x::l):=by
 unfold wB
 refine List.perm_middle.trans ?_
 rw [List.takeWhile_append_dropWhile]
theorem P1 (hA: ∀ y∈A,key y≤key x) (hB: ∀ y∈B,key x<key y):(A++B).takeWhile (fun y=>decide (key y≤key x))=A∧(A++B).dropWhile (fun y=>decide (key y≤key x))=B:=by
 induction A with
 |nil=>
  cases B with
  |nil=>simp
  |cons b B=>
   have h:=hB b bZ
   have:decide (key b≤key x)=false:=bx I
   rw [List.nil_append,List.takeWhile_cons,List.dropWhile_cons,this]
   exact ⟨U,U⟩
 |cons a A ih=>
  have h:=ih fun y hy=>hA y (c_ _ hy)
  have:decide (key a≤key x)=true:=dK (hA a bZ)
  simp only [List.cons_append,List.takeWhile,List.dropWhile,this]
  exact ⟨by rw [h.1],h.2⟩
theorem yv (hA: ∀ y∈A,key y≤key x) (hB: ∀ y∈B,key x<key y):wB key (A++B) x=A++x::B:=by
 unfold wB
 rw [(P1 hA hB).1,(P1 hA hB).2]
theorem CU (x:Int): ∀ {l:List Int},En key l→ ∃ A B,l=A++B∧(∀ y∈A,key y≤key x)∧ ∀ y∈B,key x<key y
 |[],_=>⟨[],[],rfl,(fun y h=>by cases h),fun y h=>by cases h⟩
 |a::l,h=>by
  unfold En at h
  rw [List.pairwise_cons] at h
  by_cases c:key a≤key x
  ·obtain ⟨A,B,e,hA,hB⟩:=CU x (l:=l) h.2
   refine ⟨a::A,B,by rw [e]; rfl,fun y hy=>?_,hB⟩
   rcases bE.1 hy with rfl|hy
   ·exact c
   ·exact hA y hy
  ·refine ⟨[],a::l,rfl,fun y hy=>(by cases hy),fun y hy=>?_⟩
   rcases bE.1 hy with rfl|hy
   ·omega
   ·have:=h.1 y hy; omega
theorem N4 (h:En key l):En key (wB key l x):=by
 obtain ⟨A,B,rfl,hA,hB⟩:=CU x h
 rw [yv hA hB]
 unfold En at h ⊢
 rw [List.pairwise_append] at h ⊢
 refine ⟨h.1,List.pairwise_cons.2 ⟨fun y hy=>by have:=hB y hy; omega,h.2.1⟩,fun y hy z hz=>?_⟩
 rcases bE.1 hz with rfl|hz
 ·exact hA y hy
 ·exact h.2.2 y hy z hz
theorem B_:eN key (l++[x])=wB key (eN key l) x:=by unfold eN; rw [List.foldl_append]; rfl
theorem Dp (h:l[i]? =some x):eN key (l.take (i+1))=wB key (eN key (l.take i)) x:=by rw [mx h,B_]
theorem xJ: ∀ {l m:List Int},(l.foldl (wB key) m).Perm (m++l)
 |[],m=>by simp
 |x::l,m=>(xJ (l:=l) (m:=wB key m x)).trans (((HQ).append_right l).trans (by
  rw [List.cons_append]
  exact List.perm_middle.symm))
theorem qS:(eN key l).Perm l:=by simpa [eN] using xJ (key:=key) (l:=l) (m:=[])
theorem BH: ∀ {l m:List Int},En key m→En key (l.foldl (wB key) m)
 |[],m,h=>h
 |x::l,m,h=>BH (l:=l) (N4 h)
theorem u0:En key (eN key l):=BH List.Pairwise.nil
theorem kK:(eN key l).length=l.length:=qS.length_eq
def DD (key:Int→Int) (l:List Int) (i j:Nat) (D:List Int):Prop:= ∃ A B x,l[i]? =some x∧A.length=j∧eN key (l.take i)=A++B∧(∀ y∈B,key x<key y)∧D=A++x::(B++l.drop (i+1))
def tJ (key:Int→Int) (l:List Int) (i:Nat) (D:List Int):Prop:=D=eN key (l.take i)++l.drop i
theorem KU (h:0<l.length):tJ key l 1 l:=by
 cases l with
 |nil=>simp at h
 |cons a l=>simp [tJ,eN,wB]
theorem Kg (hi:l.length≤i) (h:tJ key l i D):D=eN key l:=by
 subst h; rw [List.take_of_length_le hi,List.drop_of_length_le hi,List.append_nil]
theorem Er (hi:i<l.length) (h:tJ key l i D):DD key l i i D:=by
 have hx:l[i]? =some l[i]:=e7 hi
 refine ⟨eN key (l.take i),[],l[i],hx,by rw [kK,List.length_take]; omega,sm,fun y hy=>(by cases hy),?_⟩
 rw [h,List.nil_append,List.drop_eq_getElem_cons hi]
theorem yC: ∀ {A:List Int},0<A.length→ ∃ A' y,A=A'++[y]:=fun {A} h=>⟨A.dropLast,A.getLast (by intro e; subst e; simp at h),(List.dropLast_concat_getLast _).symm⟩
theorem HO (hj:0<j) (h:DD key l i j D) (hu:D[j]? =some u) (hv:D[j-1]? =some v) (hlt:key u<key v):DD key l i (j-1) ((D.set j v).set (j-1) u):=by
 obtain ⟨A,B,x,hx,hl,he,hB,rfl⟩:=h
 obtain ⟨A',y,rfl⟩:=yC (A:=A) I
 simp only [List.length_append,List.length_cons,List.length_nil] at hl
 subst hl
 have C:(A'++[y]++x::(B++l.drop (i+1)))=A'++y::x::(B++l.drop (i+1)):=by simp
 rw [C] at hu hv ⊢
 rw [List.getElem?_append_right I,show A'.length+(0+1)-A'.length=1 by omega] at hu
 rw [show A'.length+(0+1)-1=A'.length by omega,List.getElem?_append_right (Nat.le_refl _),Nat.sub_self] at hv
 simp at hu hv
 subst hu hv
 refine ⟨A',y::B,x,hx,I,by rw [he]; simp,fun z hz=>?_,?_⟩
 ·rcases bE.1 hz with rfl|hz
  ·exact hlt
  ·exact hB z hz
 ·rw [show A'.length+(0+1)-1=A'.length by omega,List.set_append_right _ _ I,List.set_append_right _ _ (Nat.le_refl _),show A'.length+(0+1)-A'.length=1 by omega,Nat.sub_self]
  simp
theorem zu (h:DD key l i j D) (hc: ∀ A,A.length=j→(∃ C,D=A++C)→En key A→ ∀ x,l[i]? =some x→D[j]? =some x→ ∀ y∈A,key y≤key x):tJ key l (i+1) D:=by
 obtain ⟨A,B,x,hx,hl,he,hB,rfl⟩:=h
 unfold tJ
 have E:En key (A++B):=he▸u0
 rw [Dp hx,he,yv (hc A hl ⟨_,rfl⟩ (by unfold En at E ⊢; rw [List.pairwise_append] at E; exact E.1) x hx (by rw [List.getElem?_append_right I,← hl]; simp)) hB]
 simp
theorem zf (hj: ¬ 0<j) (h:DD key l i j D):tJ key l (i+1) D:=zu h fun A hl _ _ x _ _ y hy=>by
 have:A=[]:=jS I
 subst this; cases hy
theorem zL (hj:0<j) (h:DD key l i j D) (hu:D[j]? =some u) (hv:D[j-1]? =some v) (hlt: ¬ key u<key v):tJ key l (i+1) D:=zu h fun A hl hC hA x hx hd y hy=>by
 obtain ⟨C,hC⟩:=hC
 obtain ⟨A',z,rfl⟩:=yC (A:=A) I
 simp only [List.length_append,List.length_cons,List.length_nil] at hl
 rw [hd] at hu; cases hu
 have e:D[j-1]? =some z:=by
  rw [hC,List.append_assoc,List.getElem?_append_right I,show j-1-A'.length=0 by omega]; simp
 rw [e] at hv; cases hv
 unfold En at hA
 rw [List.pairwise_append] at hA
 rcases dQ.1 hy with hy|hy
 ·have:=hA.2.2 y hy v sm; omega
 ·rw [bP] at hy; subst hy; omega
end
end
section
def sQ (k:Nat) (l:List Int):List Int:=(l.take k).reverse++l.drop k
def He (l:List Int) (k i:Nat) (D:List Int):Prop:=D.length=l.length∧ ∀ p,p<l.length→D[p]? =l[if p<k∧(p<i∨k≤p+i) then k-1-p else p]?
section
variable {l D:List Int} {k i j:Nat} {u v:Int}
theorem ku:(sQ k l).length=l.length:=by unfold sQ; rw [List.length_append,List.length_reverse,List.length_take,List.length_drop]; omega
theorem MW:He l k 0 l:=⟨rfl,fun p hp=>by rw [if_neg I]⟩
theorem JG (hk:k≤l.length) (hij:i<j) (hj:j+i+1=k) (h:He l k i D) (hu:D[i]? =some u) (hv:D[j]? =some v):He l k (i+1) ((D.set i v).set j u):=by
 refine ⟨by rw [List.length_set,List.length_set]; exact h.1,fun p hp=>?_⟩
 have hl:=h.1
 have hi:=h.2 i I
 have A:=h.2 j I
 rw [hu,if_neg I] at hi
 rw [hv,if_neg I] at A
 by_cases B:p=j
 ·subst B
  rw [List.getElem?_set_self (by rw [List.length_set]; omega),if_pos I,show k-1-p=i by omega,hi]
 ·rw [List.getElem?_set_ne (fun e=>B e.symm)]
  by_cases C:p=i
  ·subst C
   rw [List.getElem?_set_self I,if_pos I,show k-1-p=j by omega,A]
  ·rw [List.getElem?_set_ne (fun e=>C e.symm),h.2 p hp]
   by_cases c:p<k∧(p<i∨k≤p+i)
   ·rw [if_pos c,if_pos I]
   ·rw [if_neg c,if_neg I]
theorem Nf (hk:k≤l.length) (hi:k≤2*i+1) (h:He l k i D):D=sQ k l:=by
 apply List.ext_getElem?
 intro p
 by_cases hp:p<l.length
 ·rw [h.2 p hp]
  unfold sQ
  by_cases c:p<k
  ·rw [List.getElem?_append_left (by rw [List.length_reverse,List.length_take]; omega),List.getElem?_reverse (by rw [List.length_take]; omega),List.length_take,Nat.min_eq_left hk,List.getElem?_take]
   rw [if_pos (show k-1-p<k by omega)]
   by_cases A:p<k∧(p<i∨k≤p+i)
   ·rw [if_pos A]
   ·rw [if_neg A,show k-1-p=p by omega]
  ·rw [if_neg I,List.getElem?_append_right (by rw [List.length_reverse,List.length_take]; omega),List.length_reverse,List.length_take,Nat.min_eq_left hk,List.getElem?_drop,show k+(p-k)=p by omega]
 ·rw [List.getElem?_eq_none (by rw [h.1]; omega),List.getElem?_eq_none (by rw [ku]; omega)]
end
end
end Go.Proofs.YtadjgjnicdcjbaaGreatDoor
