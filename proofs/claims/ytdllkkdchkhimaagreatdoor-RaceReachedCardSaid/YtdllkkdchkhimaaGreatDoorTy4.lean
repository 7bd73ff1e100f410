/-
 The statement raceReached_said, part 4 of 8: Short, Grow, Global, RunA, Tab, Run, Comp, Ret, LoopK, MapK, Watch, Passes, Keys, MapR, RangeG, Nest, WMaps, WBounds, PassG, Drop, Spot, First, Line, Wrap, Goes, OpenW, Wheres, ExL6, LineR, Race, RaceS, Vals, RaceO, Ord, Rev.
 Conditions: none.
-/
import Derived.Test.YtdllkkdchkhimaaGreatDoorTy1
import Derived.Test.YtdllkkdchkhimaaGreatDoorTy2
import Derived.Test.YtdllkkdchkhimaaGreatDoorTy3
import Derived.Test.YtdllkkdchkhimaaGreatDoorProg
import Derived.KernelRfl
import Derived.WideKeyRuns
namespace Go.Proofs.YtdllkkdchkhimaaGreatDoor
set_option maxRecDepth 100000
set_option maxHeartbeats 4000000
set_option linter.unusedVariables false
section
open Go.RowKit
/-- an operation that hands v to its slot d -/
structure SE (E:ff) (ops:Array Oper) (o:Oper) (D:List Deferred) (L:List (Nat×Value)) (C:List av) (v:Value) (d:Nat):Prop where
 h:SD E ops o D L C v
 o:o.dst=some d
 n:Nat.blt d E.n=true
theorem rS {E:ff} {ops:Array Oper} {Q:cZ} {o:Oper} {rest:List Oper} {D:List Deferred} {L:List (Nat×Value)} {C:List av} {v:Value} {d:Nat}
 (h:SE E ops o D L C v d) (k:RJ E ops Q rest D ((d,v)::L) C):RJ E ops Q (o::rest) D L C:=S0 h.h h.o h.n k
theorem dS {E:ff} {ops:Array Oper} {F:List (Nat×Value)→Prop} {o:Oper} {rest:List Oper} {D:List Deferred} {L:List (Nat×Value)} {C:List av} {v:Value} {d:Nat}
 (h:SE E ops o D L C v d) (k:DJ E ops D C F rest ((d,v)::L)):DJ E ops D C F (o::rest) L:=Tf h.h h.o h.n k
theorem eS {E:ff} {ops:Array Oper} {D:List Deferred} {C' C1:List av} {F:List (Nat×Value)→Prop} {bs:List Bool} {o:Oper} {l rest:List Oper} {L:List (Nat×Value)} {v:Value} {d:Nat}
 (hl:l=o::rest) (h:SE E ops o D L C' v d) (k:pW E ops D C' C1 F bs rest ((d,v)::L)):pW E ops D C' C1 F (false::bs) l L:=Q_ h.h hl h.o h.n k
theorem fS {E:ff} {ops:Array Oper} {D:List Deferred} {C' C1:List av} {F:List (Nat×Value)→Prop} {bs:List Bool} {o:Oper} {l rest:List Oper} {L:List (Nat×Value)} {v:Value} {d:Nat}
 (hl:l=o::rest) (h:SE E ops o D L C1 v d) (k:pW E ops D C' C1 F bs rest ((d,v)::L)):pW E ops D C' C1 F (true::bs) l L:=Re h.h hl h.o h.n k
def gB (n:Nat) (ops:Array Oper) (L:List (Nat×Value)) (d:Nat) (g:Option (Nat×Bool)):Bool:=ju ops L g&&Nat.blt d n
theorem Ov {n:Nat} {ops:Array Oper} {L:List (Nat×Value)} {d:Nat} {g:Option (Nat×Bool)} (h:gB n ops L d g=true):ju ops L g=true:=by
 unfold gB at h; rw [cR] at h; exact h.1
theorem O4 {n:Nat} {ops:Array Oper} {L:List (Nat×Value)} {d:Nat} {g:Option (Nat×Bool)} (h:gB n ops L d g=true):Nat.blt d n=true:=by
 unfold gB at h; rw [cR] at h; exact h.2
def vF (n:Nat) (ops:Array Oper) (L:List (Nat×Value)) (d:Nat) (g:Option (Nat×Bool)) (x:Operand):Option Value:=match gB n ops L d g with
 |true=>ev L x
 |false=>none
def bF (n:Nat) (ops:Array Oper) (L:List (Nat×Value)) (d:Nat) (g:Option (Nat×Bool)) (x y:Operand):Option (Value×Value):=match gB n ops L d g with
 |true=>match ev L x,ev L y with
  |some u,some v=>some (u,v)
  |_,_=>none
 |false=>none
def pF (n:Nat) (ops:Array Oper) (L:List (Nat×Value)) (d:Nat) (g:Option (Nat×Bool)) (c x y:Operand):Option Value:=match gB n ops L d g with
 |true=>match ev L c with
  |some (.bool true)=>ev L x
  |some (.bool false)=>ev L y
  |_=>none
 |false=>none
def xF (n:Nat) (ops:Array Oper) (L:List (Nat×Value)) (d:Nat) (g:Option (Nat×Bool)) (x:Operand) (i:Nat):Option Value:=match vF n ops L d g x with
 |some (.tuple vs)=>vs.toList[i]?
 |_=>none
def uF (n:Nat) (ops:Array Oper) (L:List (Nat×Value)) (d:Nat) (g:Option (Nat×Bool)) (xs ys:List Operand):Option (List Value×List Value):=match gB n ops L d g with
 |true=>match evs L xs,evs L ys with
  |some u,some v=>some (u,v)
  |_,_=>none
 |false=>none
def cF (n:Nat) (ops:Array Oper) (L:List (Nat×Value)) (d:Nat) (g:Option (Nat×Bool)) (fop:Operand) (xs:List Operand):Option (FuncId×List Value):=match gB n ops L d g with
 |true=>match ev L fop,evs L xs with
  |some (.func (.func f) fi ca),some vs=>some (f,fi.toList++vs++ca.toList)
  |_,_=>none
 |false=>none
theorem iW {n:Nat} {ops:Array Oper} {L:List (Nat×Value)} {d:Nat} {g:Option (Nat×Bool)} {x:Operand} {v:Value} (h:vF n ops L d g x=some v):ju ops L g=true∧Nat.blt d n=true∧ev L x=some v:=by
 unfold vF at h
 split at h
 ·rename_i hb; exact ⟨Ov hb,O4 hb,h⟩
 ·cases h
theorem qi {n:Nat} {ops:Array Oper} {L:List (Nat×Value)} {d:Nat} {g:Option (Nat×Bool)} {x y:Operand} {u v:Value} (h:bF n ops L d g x y=some (u,v)):ju ops L g=true∧Nat.blt d n=true∧ev L x=some u∧ev L y=some v:=by
 unfold bF at h
 split at h
 ·rename_i hb
  split at h
  ·rename_i hx hy; cases h; exact ⟨Ov hb,O4 hb,hx,hy⟩
  ·cases h
 ·cases h
theorem Qx {n:Nat} {ops:Array Oper} {L:List (Nat×Value)} {d:Nat} {g:Option (Nat×Bool)} {x y:List Operand} {u v:List Value} (h:uF n ops L d g x y=some (u,v)):ju ops L g=true∧Nat.blt d n=true∧evs L x=some u∧evs L y=some v:=by
 unfold uF at h
 split at h
 ·rename_i hb
  split at h
  ·rename_i hx hy; cases h; exact ⟨Ov hb,O4 hb,hx,hy⟩
  ·cases h
 ·cases h
section
variable {E:ff} {ops:Array Oper} {Q:cZ} {rest:List Oper} {D:List Deferred} {L:List (Nat×Value)} {C:List av}
variable {d:Nat} {ty:TypeId} {ps:String} {af:Array Edge} {g:Option (Nat×Bool)}
theorem SX {o:Oper} {v:Value} (h:SD E ops o D L C v) (ho:o.dst=some d) (hd:Nat.blt d E.n=true):SE E ops o D L C v d:=⟨h,ho,hd⟩
theorem MV {x:Operand} {v:Value} (h:vF E.n ops L d g x=some v):SE E ops ⟨some d,.move x,ty,ps,af,g⟩ D L C v d:=by
 obtain ⟨A,B,F⟩:=iW h; exact ⟨FI A F,rfl,B⟩
theorem AG {x:Operand} {v:Value} (h:vF E.n ops L d g x=some v):SE E ops ⟨some d,.assign x,ty,ps,af,g⟩ D L C v d:=by
 obtain ⟨A,B,F⟩:=iW h; exact ⟨yL A F,rfl,B⟩
theorem OX {op:Op} (h:(Db ops L g&&Nat.blt d E.n)=true):SE E ops ⟨some d,op,ty,ps,af,g⟩ D L C undef d:=by
 rw [cR] at h; exact ⟨Lf h.1,rfl,h.2⟩
theorem NT {xt:TypeId} {x:Operand} {b:Bool} (h:vF E.n ops L d g x=some (.bool b)):SE E ops ⟨some d,.unOp .not xt x,ty,ps,af,g⟩ D L C (.bool !b) d:=by
 obtain ⟨A,B,F⟩:=iW h; exact ⟨KO A F,rfl,B⟩
theorem NG {xt:TypeId} {x:Operand} {n:Int} (h:vF E.n ops L d g x=some (.int .i64 n)) (hb:ql (-n)):SE E ops ⟨some d,.unOp .neg xt x,ty,ps,af,g⟩ D L C (.int .i64 (-n)) d:=by
 obtain ⟨A,B,F⟩:=iW h; exact ⟨Qs A F hb,rfl,B⟩
theorem PK {c x y:Operand} {v:Value} (h:pF E.n ops L d g c x y=some v):SE E ops ⟨some d,.pick c x y,ty,ps,af,g⟩ D L C v d:=by
 unfold pF at h
 split at h
 ·rename_i hb
  split at h
  ·rename_i hc; exact ⟨zw (Ov hb) hc h,rfl,O4 hb⟩
  ·rename_i hc; exact ⟨yY (Ov hb) hc h,rfl,O4 hb⟩
  ·cases h
 ·cases h
theorem EX {x:Operand} {i:Nat} {v:Value} (h:xF E.n ops L d g x i=some v):SE E ops ⟨some d,.extract x i,ty,ps,af,g⟩ D L C v d:=by
 unfold xF at h
 split at h
 ·rename_i vs hv
  obtain ⟨A,B,F⟩:=iW hv
  exact ⟨xe (vs:=vs.toList) A (by simpa using F) h,U,B⟩
 ·cases h
theorem LN {x:Operand} {t e:TypeId} {A:OA} {n c:Nat} (h:vF E.n ops L d g x=some (.slice A n c)) (ht:E.P.underlying t=some (.slice e)):
 SE E ops ⟨some d,.call {callee:= .builtin .len,args:= #[x],argTypes:= #[t]},ty,ps,af,g⟩ D L C (.int .i64 n) d:=by
 obtain ⟨B,F,G⟩:=iW h; exact ⟨I1 B G ht,rfl,F⟩
theorem BI {op:BinOp} {xt yt:TypeId} {x y:Operand} {u v r:Value} (h:bF E.n ops L d g x y=some (u,v)) (hb:g3 E.P op xt x y u v r):SE E ops ⟨some d,.binOp op xt x y yt,ty,ps,af,g⟩ D L C r d:=by
 obtain ⟨A,B,F,G⟩:=qi h; exact ⟨b_ A F G hb,rfl,B⟩
theorem MN {x y:Operand} {ts:Array TypeId} {a b:Int} {k:IntKind} (h:bF E.n ops L d g x y=some (.int k a,.int k b)):
 SE E ops ⟨some d,.call {callee:= .builtin .min,args:= #[x,y],argTypes:=ts},ty,ps,af,g⟩ D L C (.int k (min a b)) d:=by
 obtain ⟨A,B,F,G⟩:=qi h; exact ⟨Pn A F G,rfl,B⟩
theorem MX {x y:Operand} {ts:Array TypeId} {a b:Int} {k:IntKind} (h:bF E.n ops L d g x y=some (.int k a,.int k b)):
 SE E ops ⟨some d,.call {callee:= .builtin .max,args:= #[x,y],argTypes:=ts},ty,ps,af,g⟩ D L C (.int k (max a b)) d:=by
 obtain ⟨A,B,F,G⟩:=qi h; exact ⟨PA A F G,rfl,B⟩
theorem FA (o':Nat) {x:Operand} {b o s f k:Nat} (h:vF E.n ops L d g x=some (.pointer (some ⟨b,o,none⟩))) (hf:sx E.P s f=some k) (ho:o+k=o'):
 SE E ops ⟨some d,.fieldAddr s x f,ty,ps,af,g⟩ D L C (.pointer (some ⟨b,o',none⟩)) d:=by
 obtain ⟨A,B,F⟩:=iW h; exact ⟨OK A F hf ho,rfl,B⟩
theorem nM (k':Nat) {x:Operand} {A:OA} {n sz:Nat} {es:List (List Value)} {k0 s f k:Nat} (h:vF E.n ops L d g x=some (.pointer (lM A k0))) (hR:jc C (rd A n sz es).holds) (hn:0<n*sz)
 (hf:sx E.P s f=some k) (ho:k0+k=k'):SE E ops ⟨some d,.fieldAddr s x f,ty,ps,af,g⟩ D L C (.pointer (lM A k')) d:=by
 obtain ⟨B,F,G⟩:=iW h; exact ⟨Kz B G hR hn hf ho,rfl,F⟩
theorem U0 (k':Nat) {x:Operand} {A:OA} {ad:Addr} {k0 s f k:Nat} (h:vF E.n ops L d g x=some (.pointer (lM A k0))) (hA:A=some ad)
 (hf:sx E.P s f=some k) (ho:k0+k=k'):SE E ops ⟨some d,.fieldAddr s x f,ty,ps,af,g⟩ D L C (.pointer (lM A k')) d:=by
 obtain ⟨B,F,G⟩:=iW h; exact ⟨Jq B G hA hf ho,rfl,F⟩
theorem IA (k:Nat) {x ix:Operand} {A:OA} {n c sz e t:Nat} {es:List (List Value)} {j:Int} (h:bF E.n ops L d g x ix=some (.slice A n c,.int .i64 j)) (hR:jc C (rd A n sz es).holds)
 (ht:tE E.P t=some (e,sz)) (hz:0<sz) (hj:j=(k:Int)) (hk:k<n):SE E ops ⟨some d,.indexAddr t x ix,ty,ps,af,g⟩ D L C (.pointer (lM A (k*sz))) d:=by
 obtain ⟨B,F,G,H⟩:=qi h; exact ⟨Ru B G H hR ht hz hj hk,rfl,F⟩
theorem Ts (k o':Nat) {x ix:Operand} {b o n c sz e t:Nat} {j:Int} (h:bF E.n ops L d g x ix=some (.slice (some ⟨b,o,none⟩) n c,.int .i64 j))
 (ht:tE E.P t=some (e,sz)) (hj:j=(k:Int)) (hk:k<n) (ho:o+k*sz=o'):SE E ops ⟨some d,.indexAddr t x ix,ty,ps,af,g⟩ D L C (.pointer (some ⟨b,o',none⟩)) d:=by
 obtain ⟨A,B,F,G⟩:=qi h; exact ⟨NM A F G ht hj hk ho,rfl,B⟩
/-- the whole of a block, a part of it, one cell -/
theorem LW (i:Nat) {x:Operand} {b t tt n:Nat} {cs:List Value} (h:vF E.n ops L d g x=some (.pointer (some ⟨b,0,none⟩))) (ht:tK E.P t=some (true,n)) (hC:C[i]? =some (bZ b tt cs)) (hn:cs.length=n):
 SE E ops ⟨some d,.load t x,ty,ps,af,g⟩ D L C (.agg cs.toArray) d:=by
 obtain ⟨A,B,F⟩:=iW h; exact ⟨wv A F ht (pn i hC sm) hn,rfl,B⟩
theorem LP (vs:List Value) (i:Nat) {x:Operand} {b o t tt n:Nat} {cs:List Value} (h:vF E.n ops L d g x=some (.pointer (some ⟨b,o,none⟩))) (ht:tK E.P t=some (true,n)) (hC:C[i]? =some (bZ b tt cs)) (hv:(cs.drop o).take vs.length=vs) (hn:vs.length=n):
 SE E ops ⟨some d,.load t x,ty,ps,af,g⟩ D L C (.agg vs.toArray) d:=by
 obtain ⟨A,B,F⟩:=iW h; exact ⟨wv A F ht (pn i hC hv) hn,rfl,B⟩
theorem Vf (vs:List Value) (i:Nat) {x:Operand} {b o t tt n:Nat} {cs:List Value} (h:vF E.n ops L d g x=some (.pointer (some ⟨b,o,none⟩))) (ht:tK E.P t=some (true,n)) (hC:C[i]? =some (bZ b tt cs).ro) (hv:(cs.drop o).take vs.length=vs) (hn:vs.length=n):
 SE E ops ⟨some d,.load t x,ty,ps,af,g⟩ D L C (.agg vs.toArray) d:=by
 obtain ⟨A,B,F⟩:=iW h; exact ⟨wv A F ht (vU i hC hv) hn,rfl,B⟩
theorem L1 (v:Value) (i:Nat) {x:Operand} {b o t tt n:Nat} {cs:List Value} (h:vF E.n ops L d g x=some (.pointer (some ⟨b,o,none⟩))) (ht:tK E.P t=some (false,n)) (hC:C[i]? =some (bZ b tt cs)) (hv:(cs.drop o).take 1=[v]):
 SE E ops ⟨some d,.load t x,ty,ps,af,g⟩ D L C v d:=by
 obtain ⟨A,B,F⟩:=iW h; exact ⟨ue A F ht (pn i hC hv),rfl,B⟩
theorem HZ (v:Value) (i:Nat) {x:Operand} {b o t tt n:Nat} {cs:List Value} (h:vF E.n ops L d g x=some (.pointer (some ⟨b,o,none⟩))) (ht:tK E.P t=some (false,n)) (hC:C[i]? =some (bZ b tt cs).ro) (hv:(cs.drop o).take 1=[v]):
 SE E ops ⟨some d,.load t x,ty,ps,af,g⟩ D L C v d:=by
 obtain ⟨A,B,F⟩:=iW h; exact ⟨ue A F ht (vU i hC hv),rfl,B⟩
theorem EP (i:Nat) {x:Operand} {b t tt n:Nat} {v:Value} (h:vF E.n ops L d g x=some (.pointer (some ⟨b,0,none⟩))) (ht:tK E.P t=some (false,n)) (hC:C[i]? =some (bZ b tt [v])):
 SE E ops ⟨some d,.load t x,ty,ps,af,g⟩ D L C v d:=by
 obtain ⟨A,B,F⟩:=iW h; exact ⟨ue A F ht (pn i hC rfl),rfl,B⟩
theorem Tw (i:Nat) {x:Operand} {b t tt n:Nat} {v:Value} (h:vF E.n ops L d g x=some (.pointer (some ⟨b,0,none⟩))) (ht:tK E.P t=some (false,n)) (hC:C[i]? =some (bZ b tt [v]).ro):
 SE E ops ⟨some d,.load t x,ty,ps,af,g⟩ D L C v d:=by
 obtain ⟨A,B,F⟩:=iW h; exact ⟨ue A F ht (vU i hC rfl),rfl,B⟩
/-- what is read of a row -/
theorem gF (k o:Nat) (v:Value) {x:Operand} {A:OA} {t m n sz:Nat} {es:List (List Value)} {e:List Value} (h:vF E.n ops L d g x=some (.pointer (lM A m))) {nn:Nat} (ht:tK E.P t=some (false,nn)) (hR:jc C (rd A n sz es).holds) (he:es[k]? =some e) (hm:m=k*sz+o) (hz:0<sz) (hv:(e.drop o).take 1=[v]):
 SE E ops ⟨some d,.load t x,ty,ps,af,g⟩ D L C v d:=by
 obtain ⟨B,F,G⟩:=iW h; exact ⟨ue B G ht (OD hR he hm hz hv),rfl,F⟩
theorem oB (k o:Nat) (vs:List Value) {x:Operand} {A:OA} {t m n sz:Nat} {es:List (List Value)} {e:List Value} (h:vF E.n ops L d g x=some (.pointer (lM A m))) {nn:Nat} (ht:tK E.P t=some (true,nn)) (hR:jc C (rd A n sz es).holds) (he:es[k]? =some e) (hm:m=k*sz+o) (hz:0<sz) (hv:(e.drop o).take vs.length=vs) (hn:vs.length=nn):
 SE E ops ⟨some d,.load t x,ty,ps,af,g⟩ D L C (.agg vs.toArray) d:=by
 obtain ⟨B,F,G⟩:=iW h; exact ⟨wv B G ht (OD hR he hm hz hv) hn,rfl,F⟩
theorem CL {fop:Operand} {xs:Array Operand} {ts:Array TypeId} {f:FuncId} {args:List Value} {Cp:List av} {v:Value} (c:ej E.P f args Cp v) (hC:kf C Cp) (h:cF E.n ops L d g fop xs.toList=some (f,args)):
 SE E ops ⟨some d,.call {callee:= .value fop,args:=xs,argTypes:=ts},ty,ps,af,g⟩ D L C v d:=by
 unfold cF at h
 split at h
 ·rename_i hb
  split at h
  ·rename_i hf hx; cases h; exact ⟨Fz (Ov hb) hf hx rfl c hC,rfl,O4 hb⟩
  ·cases h
 ·cases h
theorem FU {fn:Fn} {xs ys:Array Operand} {us vs:List Value} (h:uF E.n ops L d g xs.toList ys.toList=some (us,vs)):SE E ops ⟨some d,.makeFunc fn xs ys,ty,ps,af,g⟩ D L C (.func fn us.toArray vs.toArray) d:=by
 obtain ⟨A,B,F,G⟩:=Qx h; exact ⟨N0 A F G,rfl,B⟩
theorem cX {fop:Operand} {xs:Array Operand} {ts:Array TypeId} {f:FuncId} {args:List Value} {Cp:List av} {α:Type} {V:α→Value} {p:α→Prop} {N:α→List av} (c:lu E.P f args Cp V p N) (hC:kf C Cp)
 (h:cF E.n ops L d g fop xs.toList=some (f,args)) (k: ∀ x,p x→RJ E ops Q rest D ((d,V x)::L) (N x++C)):
 RJ E ops Q (⟨some d,.call {callee:= .value fop,args:=xs,argTypes:=ts},ty,ps,af,g⟩::rest) D L C:=by
 unfold cF at h
 split at h
 ·rename_i hb
  split at h
  ·rename_i hf hx; cases h; exact Po (Ov hb) hf hx rfl c hC (O4 hb) k
  ·cases h
 ·cases h
/-- a box of a struct, of one cell -/
theorem fV {t:TypeId} {x:Operand} {cs:List Value} (h:vF E.n ops L d g x=some (.agg cs.toArray)) (k: ∀ b,RJ E ops Q rest D ((d,.pointer (some ⟨b,0,none⟩))::L) (bZ b t cs::C)):
 RJ E ops Q (⟨some d,.box t x,ty,ps,af,g⟩::rest) D L C:=by
 obtain ⟨A,B,F⟩:=iW h; exact OV A F rfl B k
theorem uj {t:TypeId} {x:Operand} {v:Value} (h:vF E.n ops L d g x=some v) (hv:v.cells.toList=[v]) (k: ∀ b,RJ E ops Q rest D ((d,.pointer (some ⟨b,0,none⟩))::L) (bZ b t [v]::C)):
 RJ E ops Q (⟨some d,.box t x,ty,ps,af,g⟩::rest) D L C:=by
 obtain ⟨A,B,F⟩:=iW h; exact OV A F hv B k
theorem AL {t:TypeId} {cs:List Value} (h:gB E.n ops L d g=true) (hz:tZ E.P t=some cs) (k: ∀ b,RJ E ops Q rest D ((d,.pointer (some ⟨b,0,none⟩))::L) (bZ b t cs::C)):
 RJ E ops Q (⟨some d,.alloc t,ty,ps,af,g⟩::rest) D L C:=Nj (Ov h) hz (O4 h) k
/-- a store into the block at the place i of the state -/
def sF (ops:Array Oper) (L:List (Nat×Value)) (g:Option (Nat×Bool)) (x y:Operand):Option (Value×Value):=match ju ops L g with
 |true=>match ev L x,ev L y with
  |some u,some v=>some (u,v)
  |_,_=>none
 |false=>none
theorem ET {ops:Array Oper} {L:List (Nat×Value)} {g:Option (Nat×Bool)} {x y:Operand} {u v:Value} (h:sF ops L g x y=some (u,v)):ju ops L g=true∧ev L x=some u∧ev L y=some v:=by
 unfold sF at h
 split at h
 ·rename_i hb
  split at h
  ·rename_i hx hy; cases h; exact ⟨hb,hx,hy⟩
  ·cases h
 ·cases h
theorem SI {t n b o tt:Nat} {x y:Operand} {v:Value} {cs cs':List Value} {C':List av} (i:Nat) (h:sF ops L g x y=some (.pointer (some ⟨b,o,none⟩),v)) (ht:(tK E.P t).map (·.2)=some n) (hC:C[i]? =some (bZ b tt cs))
 (hk:(v.cells.toList.length==n&&v.cells.toList.all Value.oneCell'&&Nat.ble (o+n) cs.length)=true) (hcs:cs.take o++v.cells.toList++cs.drop (o+n)=cs') (hC':C.set i (bZ b tt cs')=C') (k:RJ E ops Q rest D L C'):
 RJ E ops Q (⟨none,.store t x y,ty,ps,af,g⟩::rest) D L C:=by
 obtain ⟨A,B,F⟩:=ET h
 simp only [cR,beq_iff_eq] at hk
 exact ji i A B F ht U hk.1.1 hk.1.2 hC hk.2 hcs hC' k
/-- a store of a whole block, by a struct, by one cell -/
theorem Mf {t n b tt:Nat} {x y:Operand} {cs cs':List Value} {C':List av} (i:Nat) (h:sF ops L g x y=some (.pointer (some ⟨b,0,none⟩),.agg cs'.toArray)) (ht:(tK E.P t).map (·.2)=some n) (hC:C[i]? =some (bZ b tt cs))
 (hk:(Nat.beq cs'.length n&&cs'.all Value.oneCell'&&Nat.beq n cs.length)=true) (hC':C.set i (bZ b tt cs')=C') (k:RJ E ops Q rest D L C'):
 RJ E ops Q (⟨none,.store t x y,ty,ps,af,g⟩::rest) D L C:=by
 obtain ⟨AA,J,K⟩:=ET h
 simp only [cR] at hk
 obtain ⟨⟨A,B⟩,F⟩:=hk
 have H:=Nat.eq_of_beq_eq_true A
 have G:=Nat.eq_of_beq_eq_true F
 exact ji i AA J K ht U H B hC (by rw [Nat.zero_add,G]; exact Nat.ble_self_eq_true _) (by rw [Nat.zero_add,G,List.take_zero,List.drop_length]; show []++cs'++[]=cs'; simp) hC' k
theorem Uc {t n b tt:Nat} {x y:Operand} {v u:Value} {C':List av} (i:Nat) (h:sF ops L g x y=some (.pointer (some ⟨b,0,none⟩),v)) (ht:(tK E.P t).map (·.2)=some n) (hC:C[i]? =some (bZ b tt [u]))
 (hv:v.cells.toList=[v]) (hk:(Nat.beq n 1&&v.oneCell')=true) (hC':C.set i (bZ b tt [v])=C') (k:RJ E ops Q rest D L C'):
 RJ E ops Q (⟨none,.store t x y,ty,ps,af,g⟩::rest) D L C:=by
 obtain ⟨G,H,AA⟩:=ET h
 rw [cR] at hk
 obtain ⟨A,B⟩:=hk
 have F:=Nat.eq_of_beq_eq_true A
 subst F
 exact ji i G H AA ht hv U (by simp [B]) hC U U hC' k
theorem fQ {t n b tt:Nat} {x y:Operand} {cs cs':List Value} (h:sF ops L g x y=some (.pointer (some ⟨b,0,none⟩),.agg cs'.toArray)) (ht:(tK E.P t).map (·.2)=some n) (hk:(Nat.beq cs'.length n&&cs'.all Value.oneCell'&&Nat.beq n cs.length)=true) (k:RJ E ops Q rest D L (bZ b tt cs'::C)):RJ E ops Q (⟨none,.store t x y,ty,ps,af,g⟩::rest) D L (bZ b tt cs::C):=Mf 0 h ht rfl hk rfl k
theorem Gp {t n b tt:Nat} {x y:Operand} {v u:Value} (h:sF ops L g x y=some (.pointer (some ⟨b,0,none⟩),v)) (ht:(tK E.P t).map (·.2)=some n) (hv:v.cells.toList=[v]) (hk:(Nat.beq n 1&&v.oneCell')=true) (k:RJ E ops Q rest D L (bZ b tt [v]::C)):RJ E ops Q (⟨none,.store t x y,ty,ps,af,g⟩::rest) D L (bZ b tt [u]::C):=Uc 0 h ht rfl hv hk rfl k
theorem tP {t n b tt:Nat} {x y:Operand} {cs cs':List Value} {A0:av} (h:sF ops L g x y=some (.pointer (some ⟨b,0,none⟩),.agg cs'.toArray)) (ht:(tK E.P t).map (·.2)=some n) (hk:(Nat.beq cs'.length n&&cs'.all Value.oneCell'&&Nat.beq n cs.length)=true) (k:RJ E ops Q rest D L (A0::bZ b tt cs'::C)):RJ E ops Q (⟨none,.store t x y,ty,ps,af,g⟩::rest) D L (A0::bZ b tt cs::C):=Mf 1 h ht rfl hk rfl k
theorem GC {t n b tt:Nat} {x y:Operand} {cs cs':List Value} {A0 A1:av} (h:sF ops L g x y=some (.pointer (some ⟨b,0,none⟩),.agg cs'.toArray)) (ht:(tK E.P t).map (·.2)=some n) (hk:(Nat.beq cs'.length n&&cs'.all Value.oneCell'&&Nat.beq n cs.length)=true) (k:RJ E ops Q rest D L (A0::A1::bZ b tt cs'::C)):RJ E ops Q (⟨none,.store t x y,ty,ps,af,g⟩::rest) D L (A0::A1::bZ b tt cs::C):=Mf 2 h ht rfl hk rfl k
theorem Vm (cs':List Value) {t n b o tt:Nat} {x y:Operand} {v:Value} {cs:List Value} {A0 A1:av} (h:sF ops L g x y=some (.pointer (some ⟨b,o,none⟩),v)) (ht:(tK E.P t).map (·.2)=some n) (hk:(v.cells.toList.length==n&&v.cells.toList.all Value.oneCell'&&Nat.ble (o+n) cs.length)=true) (hcs:cs.take o++v.cells.toList++cs.drop (o+n)=cs') (k:RJ E ops Q rest D L (A0::A1::bZ b tt cs'::C)):RJ E ops Q (⟨none,.store t x y,ty,ps,af,g⟩::rest) D L (A0::A1::bZ b tt cs::C):=SI 2 h ht rfl hk hcs rfl k
theorem Tx {t n b tt:Nat} {x y:Operand} {cs cs':List Value} {A0 A1 A2:av} (h:sF ops L g x y=some (.pointer (some ⟨b,0,none⟩),.agg cs'.toArray)) (ht:(tK E.P t).map (·.2)=some n) (hk:(Nat.beq cs'.length n&&cs'.all Value.oneCell'&&Nat.beq n cs.length)=true) (k:RJ E ops Q rest D L (A0::A1::A2::bZ b tt cs'::C)):RJ E ops Q (⟨none,.store t x y,ty,ps,af,g⟩::rest) D L (A0::A1::A2::bZ b tt cs::C):=Mf 3 h ht rfl hk rfl k
theorem UM {t n b tt:Nat} {x y:Operand} {v u:Value} {A0 A1 A2:av} (h:sF ops L g x y=some (.pointer (some ⟨b,0,none⟩),v)) (ht:(tK E.P t).map (·.2)=some n) (hv:v.cells.toList=[v]) (hk:(Nat.beq n 1&&v.oneCell')=true) (k:RJ E ops Q rest D L (A0::A1::A2::bZ b tt [v]::C)):RJ E ops Q (⟨none,.store t x y,ty,ps,af,g⟩::rest) D L (A0::A1::A2::bZ b tt [u]::C):=Uc 3 h ht rfl hv hk rfl k
theorem Rp (cs':List Value) {t n b o tt:Nat} {x y:Operand} {v:Value} {cs:List Value} {A0 A1 A2:av} (h:sF ops L g x y=some (.pointer (some ⟨b,o,none⟩),v)) (ht:(tK E.P t).map (·.2)=some n) (hk:(v.cells.toList.length==n&&v.cells.toList.all Value.oneCell'&&Nat.ble (o+n) cs.length)=true) (hcs:cs.take o++v.cells.toList++cs.drop (o+n)=cs') (k:RJ E ops Q rest D L (A0::A1::A2::bZ b tt cs'::C)):RJ E ops Q (⟨none,.store t x y,ty,ps,af,g⟩::rest) D L (A0::A1::A2::bZ b tt cs::C):=SI 3 h ht rfl hk hcs rfl k
theorem OY {t n b tt:Nat} {x y:Operand} {cs cs':List Value} {A0 A1 A2 A3:av} (h:sF ops L g x y=some (.pointer (some ⟨b,0,none⟩),.agg cs'.toArray)) (ht:(tK E.P t).map (·.2)=some n) (hk:(Nat.beq cs'.length n&&cs'.all Value.oneCell'&&Nat.beq n cs.length)=true) (k:RJ E ops Q rest D L (A0::A1::A2::A3::bZ b tt cs'::C)):RJ E ops Q (⟨none,.store t x y,ty,ps,af,g⟩::rest) D L (A0::A1::A2::A3::bZ b tt cs::C):=Mf 4 h ht rfl hk rfl k
theorem TL (cs':List Value) {t n b o tt:Nat} {x y:Operand} {v:Value} {cs:List Value} {A0 A1 A2 A3:av} (h:sF ops L g x y=some (.pointer (some ⟨b,o,none⟩),v)) (ht:(tK E.P t).map (·.2)=some n) (hk:(v.cells.toList.length==n&&v.cells.toList.all Value.oneCell'&&Nat.ble (o+n) cs.length)=true) (hcs:cs.take o++v.cells.toList++cs.drop (o+n)=cs') (k:RJ E ops Q rest D L (A0::A1::A2::A3::bZ b tt cs'::C)):RJ E ops Q (⟨none,.store t x y,ty,ps,af,g⟩::rest) D L (A0::A1::A2::A3::bZ b tt cs::C):=SI 4 h ht rfl hk hcs rfl k
theorem H0 {t n b tt:Nat} {x y:Operand} {cs cs':List Value} {A0 A1 A2 A3 A4:av} (h:sF ops L g x y=some (.pointer (some ⟨b,0,none⟩),.agg cs'.toArray)) (ht:(tK E.P t).map (·.2)=some n) (hk:(Nat.beq cs'.length n&&cs'.all Value.oneCell'&&Nat.beq n cs.length)=true) (k:RJ E ops Q rest D L (A0::A1::A2::A3::A4::bZ b tt cs'::C)):RJ E ops Q (⟨none,.store t x y,ty,ps,af,g⟩::rest) D L (A0::A1::A2::A3::A4::bZ b tt cs::C):=Mf 5 h ht rfl hk rfl k
theorem Ot {t n b tt:Nat} {x y:Operand} {cs cs':List Value} {A0 A1 A2 A3 A4 A5:av} (h:sF ops L g x y=some (.pointer (some ⟨b,0,none⟩),.agg cs'.toArray)) (ht:(tK E.P t).map (·.2)=some n) (hk:(Nat.beq cs'.length n&&cs'.all Value.oneCell'&&Nat.beq n cs.length)=true) (k:RJ E ops Q rest D L (A0::A1::A2::A3::A4::A5::bZ b tt cs'::C)):RJ E ops Q (⟨none,.store t x y,ty,ps,af,g⟩::rest) D L (A0::A1::A2::A3::A4::A5::bZ b tt cs::C):=Mf 6 h ht rfl hk rfl k
theorem Vp {t n b tt:Nat} {x y:Operand} {v u:Value} {A0 A1 A2 A3 A4 A5:av} (h:sF ops L g x y=some (.pointer (some ⟨b,0,none⟩),v)) (ht:(tK E.P t).map (·.2)=some n) (hv:v.cells.toList=[v]) (hk:(Nat.beq n 1&&v.oneCell')=true) (k:RJ E ops Q rest D L (A0::A1::A2::A3::A4::A5::bZ b tt [v]::C)):RJ E ops Q (⟨none,.store t x y,ty,ps,af,g⟩::rest) D L (A0::A1::A2::A3::A4::A5::bZ b tt [u]::C):=Uc 6 h ht rfl hv hk rfl k
theorem UU (cs':List Value) {t n b o tt:Nat} {x y:Operand} {v:Value} {cs:List Value} {A0 A1 A2 A3 A4 A5:av} (h:sF ops L g x y=some (.pointer (some ⟨b,o,none⟩),v)) (ht:(tK E.P t).map (·.2)=some n) (hk:(v.cells.toList.length==n&&v.cells.toList.all Value.oneCell'&&Nat.ble (o+n) cs.length)=true) (hcs:cs.take o++v.cells.toList++cs.drop (o+n)=cs') (k:RJ E ops Q rest D L (A0::A1::A2::A3::A4::A5::bZ b tt cs'::C)):RJ E ops Q (⟨none,.store t x y,ty,ps,af,g⟩::rest) D L (A0::A1::A2::A3::A4::A5::bZ b tt cs::C):=SI 6 h ht rfl hk hcs rfl k
theorem Vs {t n b tt:Nat} {x y:Operand} {cs cs':List Value} {A0 A1 A2 A3 A4 A5 A6 A7:av} (h:sF ops L g x y=some (.pointer (some ⟨b,0,none⟩),.agg cs'.toArray)) (ht:(tK E.P t).map (·.2)=some n) (hk:(Nat.beq cs'.length n&&cs'.all Value.oneCell'&&Nat.beq n cs.length)=true) (k:RJ E ops Q rest D L (A0::A1::A2::A3::A4::A5::A6::A7::bZ b tt cs'::C)):RJ E ops Q (⟨none,.store t x y,ty,ps,af,g⟩::rest) D L (A0::A1::A2::A3::A4::A5::A6::A7::bZ b tt cs::C):=Mf 8 h ht rfl hk rfl k
theorem U8 (cs':List Value) {t n b o tt:Nat} {x y:Operand} {v:Value} {cs:List Value} {A0 A1 A2 A3 A4 A5 A6 A7 A8 A9:av} (h:sF ops L g x y=some (.pointer (some ⟨b,o,none⟩),v)) (ht:(tK E.P t).map (·.2)=some n) (hk:(v.cells.toList.length==n&&v.cells.toList.all Value.oneCell'&&Nat.ble (o+n) cs.length)=true) (hcs:cs.take o++v.cells.toList++cs.drop (o+n)=cs') (k:RJ E ops Q rest D L (A0::A1::A2::A3::A4::A5::A6::A7::A8::A9::bZ b tt cs'::C)):RJ E ops Q (⟨none,.store t x y,ty,ps,af,g⟩::rest) D L (A0::A1::A2::A3::A4::A5::A6::A7::A8::A9::bZ b tt cs::C):=SI 10 h ht rfl hk hcs rfl k
theorem Uu {t n b tt:Nat} {x y:Operand} {cs cs':List Value} {A0 A1 A2 A3 A4 A5 A6 A7 A8 A9 A10:av} (h:sF ops L g x y=some (.pointer (some ⟨b,0,none⟩),.agg cs'.toArray)) (ht:(tK E.P t).map (·.2)=some n) (hk:(Nat.beq cs'.length n&&cs'.all Value.oneCell'&&Nat.beq n cs.length)=true) (k:RJ E ops Q rest D L (A0::A1::A2::A3::A4::A5::A6::A7::A8::A9::A10::bZ b tt cs'::C)):RJ E ops Q (⟨none,.store t x y,ty,ps,af,g⟩::rest) D L (A0::A1::A2::A3::A4::A5::A6::A7::A8::A9::A10::bZ b tt cs::C):=Mf 11 h ht rfl hk rfl k
end
section
variable {E:ff} {y:Code} {Q:cZ} {D:List Deferred} {L:List (Nat×Value)} {C:List av}
theorem WS {id:Nat} {ops:Array Oper} (h: ∀ K:Act→World→Prop,(∀ D L C,WJ E y Q D L C→KJ E K D L C)→RJ E ops (Exit.then K Q) ops.toList D L C):WJ E (.seq (.region id ops false) y) Q D L C:=al fun K hK=>an (h K hK)
theorem RK {ops:Array Oper} {K:Act→World→Prop} {Q':cZ} (hK: ∀ D L C,WJ E y Q D L C→KJ E K D L C) (k:WJ E y Q D L C):RJ E ops (Exit.then K Q') [] D L C:=aH (aR (hK _ _ _ k))
theorem KK {K:Act→World→Prop} {Q':cZ} (hK: ∀ D L C,WJ E y Q D L C→KJ E K D L C) (k:WJ E y Q D L C):KJ E (Exit.then K Q' .normal) D L C:=aR (hK _ _ _ k)
theorem WK {K:Act→World→Prop} {Q':cZ} (hK: ∀ D L C,WJ E y Q D L C→KJ E K D L C) (k:WJ E y Q D L C):WJ E .skip (Exit.then K Q') D L C:=bY (aR (hK _ _ _ k))
end
theorem DT {p:Prop} [Decidable p] (h:decide p=true):p:=of_decide_eq_true h
theorem DF {p:Prop} [Decidable p] (h:decide p=false): ¬ p:=of_decide_eq_false h
theorem XT {p:Prop} [Decidable p] (h:(!decide p)=true): ¬ p:=by simpa using h
theorem XF {p:Prop} [Decidable p] (h:(!decide p)=false):p:=by simpa using h
/-- what a function hands back: one result, two, three, that lie in slots -/
theorem Q1 {E:ff} {fn:Func} {K:Act→World→Prop} {L:List (Nat×Value)} {C:List av} {t:Nat} {u v:Value} (hQ: ∀ D L C,LJ E fn (BP E.w0 v) D L C→KJ E K D L C) (hS:E.S=tG) (hr:fn.results.toList=[.tmp t]) (hl:L.lookup t=some u) (e:u=v):KJ E K [] L C:=
 hQ _ _ _ (gY (vs:=[u]) (by rw [hr]; exact ⟨hl,trivial⟩) fun w hs=>DM e (by rw [hS] at hs; exact hs))
theorem Q2 {E:ff} {fn:Func} {K:Act→World→Prop} {L:List (Nat×Value)} {C:List av} {t s:Nat} {u x v:Value} (hQ: ∀ D L C,LJ E fn (BP E.w0 v) D L C→KJ E K D L C) (hS:E.S=tG) (hr:fn.results.toList=[.tmp t,.tmp s]) (hl:L.lookup t=some u) (hm:L.lookup s=some x) (e:vT [u,x]=v):KJ E K [] L C:=
 hQ _ _ _ (gY (vs:=[u,x]) (by rw [hr]; exact ⟨hl,hm,trivial⟩) fun w hs=>DM e (by rw [hS] at hs; exact hs))
theorem N1 {E:ff} {ops:Array Oper} {D:List Deferred} {C' C1:List av} {F:List (Nat×Value)→List av→Prop} {tb rem:List Nat} {n:Nat} {L:List (Nat×Value)} {C:List av} (i:Nat)
 (h:CP E ops D C' C1 F tb n (rem.filter (· != i)) i L C) (hm:rem.filter (fun i=>rem.all fun j=> !ir (pU ops) j i)=[i]:=by kernel_rfl):TN E ops D C' C1 F tb (n+1) rem L C:=iR [i] hm (eN h kT)
theorem NO {E:ff} {ops:Array Oper} {D:List Deferred} {C' C1:List av} {F:List (Nat×Value)→List av→Prop} {tb rem:List Nat} {n i:Nat} {L:List (Nat×Value)} {C:List av} {o:Oper} (ho:ops[i]? =some o) (ht:tb.contains i=false) (rem':List Nat)
 (h: ∀ K:Act→World→Prop,(∀ L' C'',(∀ w,St E.S E.w0 C'' w→St E.S E.w0 C' w)→TN E ops D C' C1 F tb n rem' L' C''→KJ E K D L' C'')→RJ E ops (NQ K) [o] D L C) (hr:rem=rem':=by kernel_rfl):CP E ops D C' C1 F tb n rem i L C:=Uw ho hr ht h
theorem RD {E:ff} {ops:Array Oper} {K:Act→World→Prop} {D:List Deferred} {L:List (Nat×Value)} {C C':List av} {X:List (Nat×Value)→List av→Prop} (hT: ∀ L' C'',(∀ w,St E.S E.w0 C'' w→St E.S E.w0 C' w)→X L' C''→KJ E K D L' C'')
 (k:Nat) (h2:C.drop k=C') (h:X L C):RJ E ops (NQ K) [] D L C:=aH (hT _ _ (fun w hs=>h2▸hs.take (List.drop_sublist k C)) h)
theorem aQ {L L':List (Nat×Value)} (h:L'.map (fun p=>L.lookup p.1)=L'.map (fun p=>some p.2)):dx L L':=by
 induction L' with
 |nil=>exact dx.nil _
 |cons p t ih=>
  simp only [List.map_cons,List.cons.injEq] at h
  exact dx.cons h.1 (ih h.2)
theorem Of {C:List av} {A A' B B' D D':av} (i j k:Nat) (h1:C[i]? =some A') (e1:A'.holds=A.holds) (h2:C[j]? =some B') (e2:B'.holds=B.holds) (h3:C[k]? =some D') (e3:D'.holds=D.holds):kf C [A,B,D]:=fH i h1 e1 (fH j h2 e2 (fH k h3 e3 aL))
theorem bR {E:ff} {c:Operand} {x y:Code} {b:Bool} {Q:cZ} {D:List Deferred} {L:List (Nat×Value)} {C:List av} (hc:ev L c=some (.bool b)) (h2:b=false→WJ E y Q D L C) (h1:b=true→WJ E x Q D L C):WJ E (.cond c x y) Q D L C:=cM hc h1 h2
theorem cb {E:ff} {ops:Array Oper} {Q:cZ} {rest:List Oper} {D:List Deferred} {L:List (Nat×Value)} {C:List av} {t:Nat} {b:Bool} (h:L.lookup t=some (.bool b)) (h2:b=false→RJ E ops Q rest D ((t,.bool false)::L) C) (h1:b=true→RJ E ops Q rest D ((t,.bool true)::L) C):RJ E ops Q rest D L C:=db h h1 h2
theorem jo {E:ff} {ops:Array Oper} {Q:cZ} {rest:List Oper} {D:List Deferred} {L:List (Nat×Value)} {C:List av} {t:Nat} {b:Bool} {os:List Oper} (h:L.lookup t=some (.bool b)) (h2:b=false→DJ E ops D C (fun L2=>RJ E ops Q rest D L2 C) os ((t,.bool false)::L)) (h1:b=true→DJ E ops D C (fun L2=>RJ E ops Q rest D L2 C) os ((t,.bool true)::L)):DJ E ops D C (fun L2=>RJ E ops Q rest D L2 C) os L:=ja h h1 h2
theorem cN {L:List (Nat×Value)}: ∀ (k:Nat) {L2:List (Nat×Value)} (q:dx L (L2.drop k)) (h:(L2.take k).map (fun p=>L.lookup p.1)=(L2.take k).map (fun p=>some p.2):=by rfl),dx L L2
 |0,_,q,_=>q
 |_+1,[],_,_=>dx.nil _
 |k+1,p::L2,q,h=>by
  obtain ⟨A,B⟩:=List.cons.inj (show L.lookup p.1::(L2.take k).map (fun p=>L.lookup p.1)=some p.2::(L2.take k).map (fun p=>some p.2) from h)
  exact dx.cons (t:=p.1) (v:=p.2) A (cN k q B)
theorem oX {E:ff} {ops:Array Oper} {Q:cZ} {rest:List Oper} {D:List Deferred} {L:List (Nat×Value)} {C:List av} {d:Nat} {ty:TypeId} {ps:String} {af:Array Edge} {g:Option (Nat×Bool)} {op:Op} (k:RJ E ops Q rest D ((d,undef)::L) C) (h:(Db ops L g&&Nat.blt d E.n)=true:=by rfl):RJ E ops Q (⟨some d,op,ty,ps,af,g⟩::rest) D L C:=rS (OX h) k
theorem dX {E:ff} {ops:Array Oper} {F:List (Nat×Value)→Prop} {rest:List Oper} {D:List Deferred} {L:List (Nat×Value)} {C:List av} {d:Nat} {ty:TypeId} {ps:String} {af:Array Edge} {g:Option (Nat×Bool)} {op:Op} (k:DJ E ops D C F rest ((d,undef)::L)) (h:(Db ops L g&&Nat.blt d E.n)=true:=by rfl):DJ E ops D C F (⟨some d,op,ty,ps,af,g⟩::rest) L:=dS (OX h) k
end
section
open Go.RowKit
/-- what of a slice is left from k on -/
def zR (A:OA) (c k sz:Nat):OA:=if c=k then A else A.map (·.add (k*sz))
section
variable {E:ff} {ops:Array Oper} {Q:cZ} {rest:List Oper} {D:List Deferred} {L:List (Nat×Value)} {C:List av}
variable {d:Nat} {ty:TypeId} {ps:String} {af:Array Edge} {g:Option (Nat×Bool)}
theorem Gb {P:Program} {t e sz:Nat} (h:tE P t=some (e,sz)) (w:World):P.underlying t=some (.slice e)∧(sizeOf e).run P w= .ok sz w:=by
 unfold tE at h
 split at h
 ·rename_i e' hu
  split at h
  ·rename_i i hi
   cases h
   exact ⟨hu,by simp [sizeOf,typeInfo,hi]⟩
  ·cases h
 ·cases h
theorem vH {P:Program} {t e:Nat} (h:P.underlying t=some (.slice e)):P.underlying t=some (.slice (P.elem t)):=by
 rw [h]; simp [Program.elem,h]
theorem Fp {P:Program} {t e:Nat} (h:P.underlying t=some (.slice e)):P.elem t=e:=by simp [Program.elem,h]
/-- s[k:] -/
theorem Vh (k:Nat) {x lo:Operand} {t e sz n c:Nat} {A:OA} {j:Int} (h:bF E.n ops L d g x lo=some (.slice A n c,.int .i64 j)) (ht:tE E.P t=some (e,sz)) (hj:j=(k:Int)) (hk:k≤n):
 SE E ops ⟨some d,.slice t x (some lo) none none,ty,ps,af,g⟩ D L C (.slice (zR A c k sz) (n-k) (c-k)) d:=by
 obtain ⟨G,H,AA,J⟩:=qi h
 subst hj
 refine ⟨dJ G sm fun a w B hs=>?_,U,H⟩
 obtain ⟨hu,hz⟩:=Gb ht w
 have hr:=run_slice_l (P:=E.P) w t A n c (vH hu) .i64 (k:Int) om om
 rw [Fp hu,hz] at hr
 simp only [Result.andThen,Int.toNat_natCast,sliced] at hr
 have F:=run_sliceAt_slice (P:=E.P) w t (.slice A n c) (some (.int .i64 (k:Int))) none none (vH hu)
 simp [execOp,B.ev AA,B.ev J,F,hr,zR]
/-- s[:k] -/
theorem Un (k:Nat) {x hi:Operand} {t e sz n c:Nat} {A:OA} {j:Int} (h:bF E.n ops L d g x hi=some (.slice A n c,.int .i64 j)) (ht:tE E.P t=some (e,sz)) (hj:j=(k:Int)) (hk:k≤c):
 SE E ops ⟨some d,.slice t x none (some hi) none,ty,ps,af,g⟩ D L C (.slice A k c) d:=by
 obtain ⟨H,AA,J,K⟩:=qi h
 subst hj
 refine ⟨dJ H sm fun a w B hs=>?_,U,AA⟩
 obtain ⟨hu,hz⟩:=Gb ht w
 have hr:=run_slice_h (P:=E.P) w t A n c (vH hu) .i64 (k:Int) om om
 rw [Fp hu,hz] at hr
 have G:(if c=0 then A else A.map (·.add (0*sz)))=A:=by
  split
  ·rfl
  ·cases A with
   |none=>rfl
   |some ad=>simp [Addr.add]
 simp only [Result.andThen,Int.toNat_natCast,sliced,G,Nat.sub_zero] at hr
 have F:=run_sliceAt_slice (P:=E.P) w t (.slice A n c) none (some (.int .i64 (k:Int))) none (vH hu)
 simp [execOp,B.ev J,B.ev K,F,hr]
/-- an element of a row whose place is known -/
theorem Vl (k:Nat) {x ix:Operand} {A:OA} {ad:Addr} {n c sz e t:Nat} {j:Int} (h:bF E.n ops L d g x ix=some (.slice A n c,.int .i64 j)) (hA:A=some ad) (ht:tE E.P t=some (e,sz)) (hj:j=(k:Int)) (hk:k<n):
 SE E ops ⟨some d,.indexAddr t x ix,ty,ps,af,g⟩ D L C (.pointer (lM A (k*sz))) d:=by
 obtain ⟨F,G,H,AA⟩:=qi h
 refine ⟨dJ F sm fun a w B hs=>?_,U,G⟩
 subst hA hj
 simp [execOp,B.ev H,B.ev AA,lM,p8 ht hk]
end
theorem FP {w:World} {a:OA} {c e sz:Nat} {es:List (List Value)} (h:(own a c e sz es).holds w):es.length≤c:=by
 rcases h.2.2 with ⟨A,B⟩|⟨g,cap,cur,hv,_,_,C,_⟩
 ·omega
 ·injection hv with _ _ hc; omega
end
section
open Go.RowKit
/-- an array's length, its elements' type and their size -/
def aE (P:Program) (t:TypeId):Option (Nat×TypeId×Nat):=
 match P.underlying t with
 |some (.array n e)=>match P.info? e with
  |some i=>some (n,e,i.size)
  |none=>none
 |_=>none
theorem Fj {P:Program} {t n e sz:Nat} (h:aE P t=some (n,e,sz)) (w:World):P.underlying t=some (.array n e)∧(sizeOf e).run P w= .ok sz w:=by
 unfold aE at h
 split at h
 ·rename_i n' e' hu
  split at h
  ·rename_i i hi
   cases h
   exact ⟨hu,by simp [sizeOf,typeInfo,hi]⟩
  ·cases h
 ·cases h
theorem vy {P:Program} {t n e sz:Nat} (h:aE P t=some (n,e,sz)) (a:Addr) (w:World):
 (Instr.sliceAt t (.pointer (some a)) none none none).run P w= .ok (.slice (some a) n n) w:=by
 obtain ⟨hu,hz⟩:=Fj h w
 have A:a.add 0=a:=by simp [Addr.add]
 simp [Instr.sliceAt,underlying,hu,Instr.sureAddr,Instr.sliceBounds,hz,A]
theorem vw {P:Program} {t n e sz:Nat} (h:aE P t=some (n,e,sz)) (a:Addr) {k:Nat} (hk:k<n) (w:World):
 (Instr.indexAt t (.pointer (some a)) (.int .i64 (k:Int))).run P w= .ok (.pointer (some (a.add (k*sz)))) w:=by
 obtain ⟨hu,hz⟩:=Fj h w
 have A: ¬ n≤k:=by omega
 simp [Instr.indexAt,underlying,hu,Instr.sureAddr,asIntOf,hz,A]
 try exact fun h=>absurd h A
 try omega
section
variable {E:ff} {ops:Array Oper} {Q:cZ} {rest:List Oper} {D:List Deferred} {L:List (Nat×Value)} {C:List av}
variable {dst:Option Nat} {ty:TypeId} {ps:String} {af:Array Edge} {g:Option (Nat×Bool)}
theorem ER {x:Operand} {a:Addr} {t n e sz:Nat} (hg:ju ops L g=true) (hx:ev L x=some (.pointer (some a))) (ht:aE E.P t=some (n,e,sz)):
 SD E ops ⟨dst,.slice t x none none none,ty,ps,af,g⟩ D L C (.slice (some a) n n):=
 dJ hg sm fun b w A hs=>by
  simp [execOp,A.ev hx,vy ht]
theorem Es {x ix:Operand} {a:Addr} {t n e sz k:Nat} {j:Int} (hg:ju ops L g=true) (hx:ev L x=some (.pointer (some a))) (hi:ev L ix=some (.int .i64 j)) (ht:aE E.P t=some (n,e,sz)) (hj:j=(k:Int)) (hk:k<n):
 SD E ops ⟨dst,.indexAddr t x ix,ty,ps,af,g⟩ D L C (.pointer (lM (some a) (k*sz))):=
 dJ hg sm fun b w A hs=>by
  subst hj
  simp [execOp,A.ev hx,A.ev hi,lM,vw ht a hk]
end
end
section
open Go.RowKit
/-- a table of facts on the program's types -/
structure Dj where
 tk:List (Nat×Bool×Nat)
 fo:List (Nat×List (Option Nat))
 sl:List Nat
def QR {α:Type}:List (Nat×α)→Nat→Option α
 |[],_=>none
 |(k,v)::l,t=>match Nat.beq k t with
  |true=>some v
  |false=>QR l t
theorem AA {α:Type}: ∀ {l:List (Nat×α)} {t:Nat} {v:α},QR l t=some v→(t,v)∈l
 |[],t,v,h=>by simp [QR] at h
 |(k,u)::l,t,v,h=>by
  unfold QR at h
  split at h
  ·rename_i hb
   cases h
   rw [Nat.eq_of_beq_eq_true hb]; exact cm
  ·exact cS _ (AA h)
def LZ:List Nat→Nat→Bool
 |[],_=>false
 |k::l,t=>match Nat.beq k t with
  |true=>true
  |false=>LZ l t
theorem Br: ∀ {l:List Nat} {t:Nat},LZ l t=true→t∈l
 |[],t,h=>by simp [LZ] at h
 |k::l,t,h=>by
  unfold LZ at h
  split at h
  ·rename_i hb
   rw [Nat.eq_of_beq_eq_true hb]; exact cm
  ·exact cS _ (Br h)
def Dj.Jc (T:Dj) (t:Nat):Option (Bool×Nat):=QR T.tk t
def Dj.foF (T:Dj) (s f:Nat):Option Nat:=match QR T.fo s with
 |some l=>match l[f]? with
  |some (some k)=>some k
  |_=>none
 |none=>none
structure ld (P:Program) (T:Dj):Prop where
 tk: ∀ p∈T.tk,tK P p.1=some p.2
 fo: ∀ p∈T.fo,∀ f k,p.2[f]? =some (some k)→sx P p.1 f=some k
 sl: ∀ t∈T.sl,∃ e,P.underlying t=some (.slice e)
theorem ld.Jc {P:Program} {T:Dj} (h:ld P T) {t:Nat} {r:Bool×Nat} (e:T.Jc t=some r):tK P t=some r:=h.tk _ (AA e)
theorem ld.foF {P:Program} {T:Dj} (h:ld P T) {s f k:Nat} (e:T.foF s f=some k):sx P s f=some k:=by
 unfold Dj.foF at e
 split at e
 ·rename_i l hl
  split at e
  ·rename_i k' hk
   cases e
   exact h.fo _ (AA hl) f k hk
  ·cases e
 ·cases e
def Tr (P:Program) (T:Dj):Bool:=(T.tk.all fun p=>decide (tK P p.1=some p.2))&&(T.fo.all fun p=>(List.range p.2.length).all fun f=>match p.2[f]? with
 |some (some k)=>decide (sx P p.1 f=some k)
 |_=>true)&&T.sl.all fun t=>match P.underlying t with
 |some (.slice _)=>true
 |_=>false
theorem Pa {P:Program} {T:Dj} (h:Tr P T=true):ld P T:=by
 unfold Tr at h
 rw [cR,cR] at h
 obtain ⟨⟨B,C⟩,D⟩:=h
 refine ⟨fun p hp=>by simpa using List.all_eq_true.1 B p hp,fun p hp f k hk=>?_,fun t ht=>?_⟩
 ·have A:=List.all_eq_true.1 (List.all_eq_true.1 C p hp) f (List.mem_range.2 (List.getElem?_eq_some_iff.1 hk).1)
  rw [hk] at A
  simpa using A
 ·have A:=List.all_eq_true.1 D t ht
  split at A
  ·rename_i e he; exact ⟨e,he⟩
  ·cases A
end
section
theorem Mh:tK Tryz.prog 3=some (false,1):=by kernel_rfl
theorem Vq:tK Tryz.prog 4=some (false,1):=by kernel_rfl
theorem U1:tK Tryz.prog 22=some (false,1):=by kernel_rfl
theorem Ud:tK Tryz.prog 25=some (false,1):=by kernel_rfl
theorem UY:tK Tryz.prog 26=some (false,1):=by kernel_rfl
theorem UL:tK Tryz.prog 28=some (true,7):=by kernel_rfl
theorem Uk:tK Tryz.prog 29=some (false,1):=by kernel_rfl
theorem TR:tK Tryz.prog 30=some (false,1):=by kernel_rfl
theorem RQ:tK Tryz.prog 32=some (true,11):=by kernel_rfl
theorem Ui:tK Tryz.prog 38=some (true,2):=by kernel_rfl
theorem UF:tK Tryz.prog 42=some (false,1):=by kernel_rfl
theorem Vb:tK Tryz.prog 44=some (true,3):=by kernel_rfl
theorem TZ:tK Tryz.prog 46=some (true,7):=by kernel_rfl
theorem Qc:tK Tryz.prog 47=some (false,1):=by kernel_rfl
theorem TI:tK Tryz.prog 58=some (false,1):=by kernel_rfl
theorem TD:tK Tryz.prog 62=some (false,1):=by kernel_rfl
theorem U3:tK Tryz.prog 80=some (false,1):=by kernel_rfl
theorem Uh:tK Tryz.prog 85=some (false,1):=by kernel_rfl
theorem Uy:tK Tryz.prog 86=some (false,1):=by kernel_rfl
theorem Q0:tK Tryz.prog 119=some (true,3):=by kernel_rfl
theorem Sp:tK Tryz.prog 122=some (true,9):=by kernel_rfl
theorem Tj:tK Tryz.prog 124=some (true,3):=by kernel_rfl
theorem Sk:tK Tryz.prog 125=some (false,1):=by kernel_rfl
theorem Q7:tK Tryz.prog 127=some (true,2):=by kernel_rfl
theorem SN:tK Tryz.prog 131=some (true,2):=by kernel_rfl
theorem SQ:tK Tryz.prog 143=some (true,1):=by kernel_rfl
theorem Sd:tK Tryz.prog 144=some (true,4):=by kernel_rfl
theorem RY:tK Tryz.prog 203=some (true,1):=by kernel_rfl
theorem Sx:tK Tryz.prog 231=some (false,1):=by kernel_rfl
theorem Sv:tK Tryz.prog 233=some (true,3):=by kernel_rfl
theorem Rj:tK Tryz.prog 268=some (false,1):=by kernel_rfl
theorem S8:tK Tryz.prog 274=some (false,1):=by kernel_rfl
theorem SG:tK Tryz.prog 276=some (true,2):=by kernel_rfl
theorem Be:(tK Tryz.prog 3).map (·.2)=some 1:=by rw [Mh]; rfl
theorem UW:(tK Tryz.prog 22).map (·.2)=some 1:=by rw [U1]; rfl
theorem Ub:(tK Tryz.prog 25).map (·.2)=some 1:=by rw [Ud]; rfl
theorem UZ:(tK Tryz.prog 26).map (·.2)=some 1:=by rw [UY]; rfl
theorem U5:(tK Tryz.prog 28).map (·.2)=some 7:=by rw [UL]; rfl
theorem Ak:(tK Tryz.prog 29).map (·.2)=some 1:=by rw [Uk]; rfl
theorem UA:(tK Tryz.prog 30).map (·.2)=some 1:=by rw [TR]; rfl
theorem tw:(tK Tryz.prog 32).map (·.2)=some 11:=by rw [RQ]; rfl
theorem cu:(tK Tryz.prog 38).map (·.2)=some 2:=by rw [Ui]; rfl
theorem UR:(tK Tryz.prog 42).map (·.2)=some 1:=by rw [UF]; rfl
theorem Ur:(tK Tryz.prog 44).map (·.2)=some 3:=by rw [Vb]; rfl
theorem QG:(tK Tryz.prog 46).map (·.2)=some 7:=by rw [TZ]; rfl
theorem UI:(tK Tryz.prog 47).map (·.2)=some 1:=by rw [Qc]; rfl
theorem NW:(tK Tryz.prog 58).map (·.2)=some 1:=by rw [TI]; rfl
theorem UG:(tK Tryz.prog 62).map (·.2)=some 1:=by rw [TD]; rfl
theorem Rb:(tK Tryz.prog 80).map (·.2)=some 1:=by rw [U3]; rfl
theorem TS:(tK Tryz.prog 85).map (·.2)=some 1:=by rw [Uh]; rfl
theorem TE:(tK Tryz.prog 86).map (·.2)=some 1:=by rw [Uy]; rfl
theorem Je:(tK Tryz.prog 119).map (·.2)=some 3:=by rw [Q0]; rfl
theorem Io:(tK Tryz.prog 122).map (·.2)=some 9:=by rw [Sp]; rfl
theorem te:(tK Tryz.prog 124).map (·.2)=some 3:=by rw [Tj]; rfl
theorem SC:(tK Tryz.prog 125).map (·.2)=some 1:=by rw [Sk]; rfl
theorem OZ:(tK Tryz.prog 127).map (·.2)=some 2:=by rw [Q7]; rfl
theorem wK:(tK Tryz.prog 131).map (·.2)=some 2:=by rw [SN]; rfl
theorem F9:(tK Tryz.prog 143).map (·.2)=some 1:=by rw [SQ]; rfl
theorem Rc:(tK Tryz.prog 144).map (·.2)=some 4:=by rw [Sd]; rfl
theorem KR:(tK Tryz.prog 203).map (·.2)=some 1:=by rw [RY]; rfl
theorem Ry:(tK Tryz.prog 231).map (·.2)=some 1:=by rw [Sx]; rfl
theorem Rw:(tK Tryz.prog 233).map (·.2)=some 3:=by rw [Sv]; rfl
theorem yI:(tK Tryz.prog 268).map (·.2)=some 1:=by rw [Rj]; rfl
theorem LU:(tK Tryz.prog 274).map (·.2)=some 1:=by rw [S8]; rfl
theorem rD:(tK Tryz.prog 276).map (·.2)=some 2:=by rw [SG]; rfl
theorem yO:aE Tryz.prog 151=some (3,150,2):=by kernel_rfl
theorem Qm:sx Tryz.prog 46 0=some 0:=by kernel_rfl
theorem U2:r9 Tryz.prog 45=true:=by kernel_rfl
theorem Ul:r9 Tryz.prog 57=true:=by kernel_rfl
theorem gU (l:List aa): ∀ v∈(l.map aa.cells).flatten,v.oneCell'=true:=my (fun _=>rfl) l
theorem sj (l:List ao): ∀ v∈(l.map ao.cells).flatten,v.oneCell'=true:=my (fun _=>rfl) l
theorem vp (l:List cG): ∀ v∈(l.map cG.cells).flatten,v.oneCell'=true:=my (fun _=>rfl) l
theorem vr (l:List bE): ∀ v∈(l.map bE.cells).flatten,v.oneCell'=true:=my (fun _=>rfl) l
theorem sY (l:List aO): ∀ v∈(l.map aO.cells).flatten,v.oneCell'=true:=my (fun _=>rfl) l
theorem Uo:tA Tryz.prog 22=some (122,9,72,(Value.agg [(vI 0),(vI 0),(vI 0),(vI 0),(vI 0),(vI 0),(vI 0),(Value.int .u8 0),(vI 0)].toArray)):=by kernel_rfl
theorem Ue:tA Tryz.prog 25=some (127,2,32,(Value.agg [(vI 0),(vS none 0 0)].toArray)):=by kernel_rfl
theorem Uz:tA Tryz.prog 26=some (129,4,32,(Value.agg [(vI 0),(vI 0),(vI 0),(vI 0)].toArray)):=by kernel_rfl
theorem ph:tA Tryz.prog 29=some (3,1,8,(vI 0)):=by kernel_rfl
theorem UQ:tA Tryz.prog 30=some (47,1,24,(vS none 0 0)):=by kernel_rfl
theorem UH:tA Tryz.prog 42=some (131,2,16,(Value.agg [(vI 0),(vI 0)].toArray)):=by kernel_rfl
theorem TF:tA Tryz.prog 47=some (46,7,64,(Value.agg [(vB false),(vB false),(vI 0),(vI 0),(vI 0),(vI 0),(vS none 0 0)].toArray)):=by kernel_rfl
theorem Uj:tA Tryz.prog 67=some (29,1,24,(vS none 0 0)):=by kernel_rfl
theorem DG:tA Tryz.prog 85=some (38,2,16,(Value.agg [(vI 0),(vI 0)].toArray)):=by kernel_rfl
theorem QV:tA Tryz.prog 86=some (85,1,24,(vS none 0 0)):=by kernel_rfl
theorem Sw:tA Tryz.prog 125=some (124,3,24,(Value.agg [(vI 0),(vI 0),(vI 0)].toArray)):=by kernel_rfl
theorem Ol:tA Tryz.prog 216=some (236,3,72,(Value.agg [(vS none 0 0),(vS none 0 0),(vS none 0 0)].toArray)):=by kernel_rfl
theorem S3:tA Tryz.prog 231=some (4,1,1,(vB false)):=by kernel_rfl
theorem Rh:tA Tryz.prog 267=some (58,1,8,(Value.map none)):=by kernel_rfl
theorem AX:tA Tryz.prog 268=some (274,1,8,(Value.map none)):=by kernel_rfl
theorem TV:tB Tryz.prog 24=some ([(vS none 0 0)],[(0,1)]):=by kernel_rfl
theorem U_:tB Tryz.prog 28=some ([(vS none 0 0),(vI 0),(vS none 0 0),(vS none 0 0),(vI 0),(vI 0),(vI 0)],[(0,1),(1,1),(2,1),(3,1),(4,1),(5,1),(6,1)]):=by kernel_rfl
theorem GW:tB Tryz.prog 32=some ([(vS none 0 0),(vI 0),(vS none 0 0),(vS none 0 0),(vI 0),(vI 0),(vI 0),(vS none 0 0),(vS none 0 0),(vI 0),(vS none 0 0)],[(0,7),(7,1),(8,1),(9,1),(10,1)]):=by kernel_rfl
theorem gu:tB Tryz.prog 38=some ([(vI 0),(vI 0)],[(0,1),(1,1)]):=by kernel_rfl
theorem U7:tB Tryz.prog 44=some ([(vI 0),(vI 0),(vS none 0 0)],[(0,1),(1,1),(2,1)]):=by kernel_rfl
theorem O_:tB Tryz.prog 46=some ([(vB false),(vB false),(vI 0),(vI 0),(vI 0),(vI 0),(vS none 0 0)],[(0,1),(1,1),(2,2),(4,3)]):=by kernel_rfl
theorem UO:tB Tryz.prog 88=some ([(vS none 0 0),(vI 0),(vS none 0 0),(vS none 0 0),(vI 0),(vI 0),(vI 0),(vS none 0 0),(vS none 0 0),(vI 0),(vS none 0 0),(vS none 0 0),(Value.map none)],[(0,11),(11,1),(12,1)]):=by kernel_rfl
theorem RV:tB Tryz.prog 119=some ([(vI 0),(vI 0),(vI 0)],[(0,1),(1,2)]):=by kernel_rfl
theorem RN:tB Tryz.prog 122=some ([(vI 0),(vI 0),(vI 0),(vI 0),(vI 0),(vI 0),(vI 0),(Value.int .u8 0),(vI 0)],[(0,1),(1,2),(3,2),(5,2),(7,1),(8,1)]):=by kernel_rfl
theorem OW:tB Tryz.prog 124=some ([(vI 0),(vI 0),(vI 0)],[(0,1),(1,2)]):=by kernel_rfl
theorem SA:tB Tryz.prog 127=some ([(vI 0),(vS none 0 0)],[(0,1),(1,1)]):=by kernel_rfl
theorem KV:tB Tryz.prog 129=some ([(vI 0),(vI 0),(vI 0),(vI 0)],[(0,3),(3,1)]):=by kernel_rfl
theorem EY:tB Tryz.prog 131=some ([(vI 0),(vI 0)],[(0,1),(1,1)]):=by kernel_rfl
theorem Fa:tB Tryz.prog 143=some ([Value.nilFunc],[(0,1)]):=by kernel_rfl
theorem Rr:tB Tryz.prog 144=some ([Value.nilFunc,Value.nilFunc,Value.nilFunc,Value.nilFunc],[(0,1),(1,1),(2,1),(3,1)]):=by kernel_rfl
theorem SW:tB Tryz.prog 156=some ([(vI 0),(vI 0)],[(0,1),(1,1)]):=by kernel_rfl
theorem Sm:tB Tryz.prog 203=some ([(vS none 0 0)],[(0,1)]):=by kernel_rfl
theorem Ra:tB Tryz.prog 236=some ([(vS none 0 0),(vS none 0 0),(vS none 0 0)],[(0,1),(1,1),(2,1)]):=by kernel_rfl
theorem R_:tB Tryz.prog 270=some ([(vS none 0 0),(vI 0),(vS none 0 0),(vS none 0 0),(vI 0),(vI 0),(vI 0),(vI 0),(vI 0),(vS none 0 0),(vS none 0 0),(vS none 0 0),(vS none 0 0),(vS none 0 0)],[(0,7),(7,3),(10,1),(11,1),(12,1),(13,1)]):=by kernel_rfl
theorem Bd:tB Tryz.prog 276=some ([(vI 0),(vI 0)],[(0,1),(1,1)]):=by kernel_rfl
theorem yj:tE Tryz.prog 22=some (122,9):=by kernel_rfl
theorem zM:tE Tryz.prog 25=some (127,2):=by kernel_rfl
theorem vx:tE Tryz.prog 26=some (129,4):=by kernel_rfl
theorem cy:tE Tryz.prog 29=some (3,1):=by kernel_rfl
theorem rj:tE Tryz.prog 30=some (47,1):=by kernel_rfl
theorem zN:tE Tryz.prog 42=some (131,2):=by kernel_rfl
theorem x4:tE Tryz.prog 47=some (46,7):=by kernel_rfl
theorem pH:tE Tryz.prog 67=some (29,1):=by kernel_rfl
theorem jL:tE Tryz.prog 85=some (38,2):=by kernel_rfl
theorem MD:tE Tryz.prog 86=some (85,1):=by kernel_rfl
theorem qg:tE Tryz.prog 125=some (124,3):=by kernel_rfl
theorem K2:tE Tryz.prog 147=some (150,2):=by kernel_rfl
theorem FF:tE Tryz.prog 216=some (236,3):=by kernel_rfl
theorem Jv:tE Tryz.prog 220=some (119,3):=by kernel_rfl
theorem Oy:tE Tryz.prog 231=some (4,1):=by kernel_rfl
theorem O6:tE Tryz.prog 266=some (262,1):=by kernel_rfl
theorem Fx:tE Tryz.prog 267=some (58,1):=by kernel_rfl
theorem nU:tE Tryz.prog 268=some (274,1):=by kernel_rfl
theorem zX:(match Tryz.prog.underlying 38 with |some (.struct fs)=>(fs[0]?).map (fun fl=>tK Tryz.prog fl.type)|_=>none)=some (some (false,1)):=by kernel_rfl
theorem zT:(match Tryz.prog.underlying 38 with |some (.struct fs)=>(fs[1]?).map (fun fl=>tK Tryz.prog fl.type)|_=>none)=some (some (false,1)):=by kernel_rfl
theorem Vc:tV Tryz.prog 3=some (vI 0):=by kernel_rfl
theorem Vr:tV Tryz.prog 4=some (vB false):=by kernel_rfl
theorem vo:tV Tryz.prog 38=some (Value.agg [(vI 0),(vI 0)].toArray):=by kernel_rfl
theorem Fg:tX Tryz.prog 144=some (4,143):=by kernel_rfl
theorem FT:tX Tryz.prog 156=some (2,3):=by kernel_rfl
theorem jd:tZ Tryz.prog 3=some [(vI 0)]:=by kernel_rfl
theorem Vn:tZ Tryz.prog 4=some [(vB false)]:=by kernel_rfl
theorem zK:tZ Tryz.prog 12=some [(Value.int .u64 0)]:=by kernel_rfl
theorem T3:tZ Tryz.prog 28=some [(vS none 0 0),(vI 0),(vS none 0 0),(vS none 0 0),(vI 0),(vI 0),(vI 0)]:=by kernel_rfl
theorem vv:tZ Tryz.prog 29=some [(vS none 0 0)]:=by kernel_rfl
theorem Bx:tZ Tryz.prog 32=some [(vS none 0 0),(vI 0),(vS none 0 0),(vS none 0 0),(vI 0),(vI 0),(vI 0),(vS none 0 0),(vS none 0 0),(vI 0),(vS none 0 0)]:=by kernel_rfl
theorem dh:tZ Tryz.prog 38=some [(vI 0),(vI 0)]:=by kernel_rfl
theorem Us:tZ Tryz.prog 44=some [(vI 0),(vI 0),(vS none 0 0)]:=by kernel_rfl
theorem No:tZ Tryz.prog 46=some [(vB false),(vB false),(vI 0),(vI 0),(vI 0),(vI 0),(vS none 0 0)]:=by kernel_rfl
theorem TX:tZ Tryz.prog 47=some [(vS none 0 0)]:=by kernel_rfl
theorem UD:tZ Tryz.prog 53=some [Value.nilFunc]:=by kernel_rfl
theorem RF:tZ Tryz.prog 58=some [(Value.map none)]:=by kernel_rfl
theorem Ut:tZ Tryz.prog 62=some [(Value.map none)]:=by kernel_rfl
theorem QU:tZ Tryz.prog 80=some [(Value.pointer none)]:=by kernel_rfl
theorem Ta:tZ Tryz.prog 85=some [(vS none 0 0)]:=by kernel_rfl
theorem Cw:tZ Tryz.prog 119=some [(vI 0),(vI 0),(vI 0)]:=by kernel_rfl
theorem E6:tZ Tryz.prog 122=some [(vI 0),(vI 0),(vI 0),(vI 0),(vI 0),(vI 0),(vI 0),(Value.int .u8 0),(vI 0)]:=by kernel_rfl
theorem rr:tZ Tryz.prog 124=some [(vI 0),(vI 0),(vI 0)]:=by kernel_rfl
theorem I6:tZ Tryz.prog 127=some [(vI 0),(vS none 0 0)]:=by kernel_rfl
theorem Tn:tZ Tryz.prog 129=some [(vI 0),(vI 0),(vI 0),(vI 0)]:=by kernel_rfl
theorem FN:tZ Tryz.prog 131=some [(vI 0),(vI 0)]:=by kernel_rfl
theorem E3:tZ Tryz.prog 143=some [Value.nilFunc]:=by kernel_rfl
theorem RO:tZ Tryz.prog 144=some [Value.nilFunc,Value.nilFunc,Value.nilFunc,Value.nilFunc]:=by kernel_rfl
theorem IJ:tZ Tryz.prog 203=some [(vS none 0 0)]:=by kernel_rfl
theorem OM:tZ Tryz.prog 233=some [(vS none 0 0),(vS none 0 0),(vS none 0 0)]:=by kernel_rfl
theorem Sg:tZ Tryz.prog 236=some [(vS none 0 0),(vS none 0 0),(vS none 0 0)]:=by kernel_rfl
theorem S9:tZ Tryz.prog 262=some [Value.nilFunc]:=by kernel_rfl
theorem tp:tZ Tryz.prog 276=some [(vI 0),(vI 0)]:=by kernel_rfl
theorem n9:Tryz.prog.underlying 3=some (.int .i64):=by kernel_rfl
theorem UB:Tryz.prog.underlying 4=some .bool:=by kernel_rfl
theorem QJ:Tryz.prog.underlying 5=some (.int .u8):=by kernel_rfl
theorem Vo:Tryz.prog.underlying 9=some .string:=by kernel_rfl
theorem P2:Tryz.prog.underlying 22=some (.slice 122):=by kernel_rfl
theorem S7:Tryz.prog.underlying 25=some (.slice 127):=by kernel_rfl
theorem P1:Tryz.prog.underlying 26=some (.slice 129):=by kernel_rfl
theorem RE:Tryz.prog.underlying 29=some (.slice 3):=by kernel_rfl
theorem Rz:Tryz.prog.underlying 30=some (.slice 47):=by kernel_rfl
theorem RG:Tryz.prog.underlying 42=some (.slice 131):=by kernel_rfl
theorem Ro:Tryz.prog.underlying 47=some (.slice 46):=by kernel_rfl
theorem lI:Tryz.prog.underlying 58=some (.map 3 38):=by kernel_rfl
theorem xY:Tryz.prog.underlying 62=some (.map 3 4):=by kernel_rfl
theorem O8:Tryz.prog.underlying 125=some (.slice 124):=by kernel_rfl
theorem Q5:Tryz.prog.underlying 135=some (.int .u64):=by kernel_rfl
theorem QW:Tryz.prog.underlying 170=some (.int .u64):=by kernel_rfl
theorem oV:Tryz.prog.underlying 274=some (.map 276 3):=by kernel_rfl
theorem PO:fL Tryz.prog 38=some [(3,0),(3,1)]:=by kernel_rfl
theorem OP (d:Nat) (s z:aa) (w:World):(Op.equalIn (d+2) 38 (.agg s.cells.toArray) (.agg z.cells.toArray)).run Tryz.prog w= .ok (decide (s=z)) w:=by
 have hc:(decide (s.Lo=z.Lo)&&(decide (s.Hi=z.Hi)&&true))=decide (s=z):=by rw [Bool.eq_iff_iff]; simp [aa.ext_iff]
 rw [← hc]
 exact xu (d+1) PO w (tx w (jZ Mh U w) (jZ Mh U w) (vO _ n9 w) (tx w (jZ Mh U w) (jZ Mh U w) (vO _ n9 w) (Fu w)))
theorem tj (x y:Operand) (s z:aa):g3 Tryz.prog .eql 38 x y (.agg s.cells.toArray) (.agg z.cells.toArray) (.bool (decide (s=z))):=Hd x y (B6 PO) fun w=>OP 9998 s z w
theorem SU (x y:Operand) (s z:aa):g3 Tryz.prog .neq 38 x y (.agg s.cells.toArray) (.agg z.cells.toArray) (.bool (!decide (s=z))):=GN x y (B6 PO) fun w=>OP 9998 s z w
theorem OO:fL Tryz.prog 276=some [(3,0),(3,1)]:=by kernel_rfl
theorem Ps (d:Nat) (s z:aC) (w:World):(Op.equalIn (d+2) 276 (.agg s.cells.toArray) (.agg z.cells.toArray)).run Tryz.prog w= .ok (decide (s=z)) w:=by
 have hc:(decide (s.right=z.right)&&(decide (s.eQ=z.eQ)&&true))=decide (s=z):=by rw [Bool.eq_iff_iff]; simp [aC.ext_iff]
 rw [← hc]
 exact xu (d+1) OO w (tx w (jZ Mh U w) (jZ Mh U w) (vO _ n9 w) (tx w (jZ Mh U w) (jZ Mh U w) (vO _ n9 w) (Fu w)))
theorem cD:Tryz.prog.follows .mixedOrders=true:=by kernel_rfl
def TT:Dj:=⟨[(1,false,1),(2,false,1),(3,false,1),(4,false,1),(5,false,1),(6,false,1),(7,true,4),(8,true,4),(12,false,1),(15,false,1),(16,false,1),(17,false,1),(18,true,1),(19,true,1),(21,false,1),(22,false,1),(23,true,1),(24,true,1),(25,false,1),(26,false,1),(27,true,7),(28,true,7),(29,false,1),(30,false,1),(31,true,11),(32,true,11),(33,false,1),(34,false,1),(35,false,1),(36,false,1),(37,true,2),(38,true,2),(39,false,1),(41,false,1),(42,false,1),(43,true,3),(44,true,3),(45,true,7),(46,true,7),(47,false,1),(48,false,1),(49,false,1),(50,false,1),(52,false,1),(53,false,1),(55,false,1),(56,false,1),(57,false,1),(58,false,1),(60,false,1),(62,false,1),(63,false,1),(64,false,1),(65,false,1),(66,false,1),(67,false,1),(69,false,1),(71,false,1),(72,false,1),(73,false,1),(74,false,1),(75,false,1),(76,false,1),(77,false,1),(78,false,1),(79,false,1),(80,false,1),(82,false,1),(83,false,1),(84,false,1),(85,false,1),(86,false,1),(87,true,13),(88,true,13),(89,false,1),(91,false,1),(92,false,1),(93,false,1),(94,false,1),(95,false,1),(96,false,1),(97,false,1),(98,false,1),(99,false,1),(100,false,1),(101,false,1),(102,false,1),(103,false,1),(104,false,1),(105,false,1),(107,false,1),(108,false,1),(109,false,1),(110,false,1),(111,false,1),(112,false,1),(113,false,1),(114,false,1),(115,false,1),(116,false,1),(117,false,1),(118,true,3),(119,true,3),(120,false,1),(121,true,9),(122,true,9),(123,true,3),(124,true,3),(125,false,1),(126,true,2),(127,true,2),(128,true,4),(129,true,4),(130,true,2),(131,true,2),(132,false,1),(133,false,1),(134,false,1),(135,false,1),(136,false,1),(137,false,1),(138,false,1),(139,false,1),(141,false,1),(142,false,1),(143,true,1),(144,true,4),(145,false,1),(146,false,1),(147,false,1),(148,false,1),(149,true,2),(150,true,2),(151,true,6),(152,false,1),(153,false,1),(154,false,1),(155,false,1),(156,true,2),(157,false,1),(158,false,1),(159,false,1),(160,false,1),(162,false,1),(163,false,1),(164,false,1),(165,false,1),(167,false,1),(168,false,1),(169,false,1),(170,false,1),(171,false,1),(172,false,1),(173,false,1),(174,false,1),(175,false,1),(176,false,1),(177,false,1),(178,false,1),(179,false,1),(180,false,1),(181,false,1),(182,false,1),(183,false,1),(184,false,1),(185,false,1),(186,false,1),(187,false,1),(188,false,1),(189,false,1),(190,false,1),(191,false,1),(192,false,1),(193,false,1),(194,false,1),(195,false,1),(196,false,1),(197,false,1),(199,false,1),(200,false,1),(201,false,1),(202,true,1),(203,true,1),(205,false,1),(206,false,1),(208,false,1),(209,false,1),(210,false,1),(211,false,1),(213,false,1),(214,false,1),(215,false,1),(216,false,1),(218,false,1),(219,false,1),(220,false,1),(221,false,1),(222,false,1),(223,false,1),(224,false,1),(225,false,1),(226,false,1),(227,false,1),(228,false,1),(229,false,1),(230,false,1),(231,false,1),(232,true,3),(233,true,3),(234,false,1),(235,true,3),(236,true,3),(237,false,1),(238,false,1),(239,false,1),(240,false,1),(241,false,1),(244,true,0),(245,true,0),(246,true,0),(247,false,1),(248,false,1),(249,false,1),(250,false,1),(251,false,1),(252,false,1),(253,false,1),(254,true,11),(255,true,11),(257,false,1),(258,false,1),(259,false,1),(261,false,1),(262,false,1),(263,false,1),(264,false,1),(265,false,1),(266,false,1),(267,false,1),(268,false,1),(269,true,14),(270,true,14),(271,false,1),(272,false,1),(273,false,1),(274,false,1),(275,true,2),(276,true,2),(277,false,1),(278,false,1),(279,false,1),(280,false,1)],[(7,[some 0,some 1,some 2,some 3]),(8,[some 0,some 1,some 2,some 3]),(18,[some 0]),(19,[some 0]),(23,[some 0]),(24,[some 0]),(27,[some 0,some 1,some 2,some 3,some 4,some 5,some 6]),(28,[some 0,some 1,some 2,some 3,some 4,some 5,some 6]),(31,[some 0,some 7,some 8,some 9,some 10]),(32,[some 0,some 7,some 8,some 9,some 10]),(37,[some 0,some 1]),(38,[some 0,some 1]),(43,[some 0,some 1,some 2]),(44,[some 0,some 1,some 2]),(45,[some 0,some 1,some 2,some 4]),(46,[some 0,some 1,some 2,some 4]),(87,[some 0,some 11,some 12]),(88,[some 0,some 11,some 12]),(118,[some 0,some 1]),(119,[some 0,some 1]),(121,[some 0,some 1,some 3,some 5,some 7,some 8]),(122,[some 0,some 1,some 3,some 5,some 7,some 8]),(123,[some 0,some 1]),(124,[some 0,some 1]),(126,[some 0,some 1]),(127,[some 0,some 1]),(128,[some 0,some 3]),(129,[some 0,some 3]),(130,[some 0,some 1]),(131,[some 0,some 1]),(143,[some 0]),(149,[some 0,some 1]),(150,[some 0,some 1]),(202,[some 0]),(203,[some 0]),(232,[some 0,some 1,some 2]),(233,[some 0,some 1,some 2]),(235,[some 0,some 1,some 2]),(236,[some 0,some 1,some 2]),(254,[some 0,some 1,some 2,some 3,some 4,some 5,some 6,some 7,some 8,some 9,some 10]),(255,[some 0,some 1,some 2,some 3,some 4,some 5,some 6,some 7,some 8,some 9,some 10]),(269,[some 0,some 7,some 10,some 11,some 12,some 13]),(270,[some 0,some 7,some 10,some 11,some 12,some 13]),(275,[some 0,some 1]),(276,[some 0,some 1])],[22,25,26,29,30,33,42,47,67,85,86,125,147,216,220,231,266,267,268]⟩
theorem pT:ld Tryz.prog TT:=Pa kr
theorem cq {t:TypeId} {x:Bool×Nat} (h:TT.Jc t=some x:=by rfl):tK Tryz.prog t=some x:=pT.Jc h
theorem fD {s f k:Nat} (h:TT.foF s f=some k:=by rfl):sx Tryz.prog s f=some k:=pT.foF h
end
section
open Go.RowKit
/-- blocks that are read -/
def MM (C:List av) (M:List (Nat×List Value)):Prop:= ∀ p∈M,∀ o vs,(p.2.drop o).take vs.length=vs→At C (some ⟨p.1,o,none⟩) vs
theorem I {C:List av}:MM C []:=fun p h=>by cases h
theorem mc {C:List av} {b t:Nat} {cs:List Value} {M:List (Nat×List Value)} (i:Nat) (hC:C[i]? =some (bZ b t cs)) (h:MM C M):MM C ((b,cs)::M):=fun p hp o vs hv=>by
 rcases List.mem_cons.1 hp with rfl|hp
 ·exact pn i hC hv
 ·exact h p hp o vs hv
theorem mr {C:List av} {b t:Nat} {cs:List Value} {M:List (Nat×List Value)} (i:Nat) (hC:C[i]? =some (bZ b t cs).ro) (h:MM C M):MM C ((b,cs)::M):=fun p hp o vs hv=>by
 rcases List.mem_cons.1 hp with rfl|hp
 ·exact vU i hC hv
 ·exact h p hp o vs hv
def pC:List Prop→Prop
 |[]=>True
 |p::l=>p∧pC l
theorem j5 {p:Prop} {l:List Prop} (h:p) (h2:pC l):pC (p::l):=⟨h,h2⟩
/-- the value of an operation, what it asks for, and what is left of the list of places -/
def pv (T:Dj) (ops:Array Oper) (M:List (Nat×List Value)) (L:List (Nat×Value)) (hs:List Nat) (g:Option (Nat×Bool)) (op:Op):Option (Value×List Prop×List Nat):=
 match Db ops L g with
 |true=>some (undef,[],hs)
 |false=>match ju ops L g with
  |false=>none
  |true=>match op with
   | .move x=>match ev L x with
    |some v=>some (v,[],hs)
    |none=>none
   | .assign x=>match ev L x with
    |some v=>some (v,[],hs)
    |none=>none
   | .pick c x y=>match ev L c with
    |some (.bool true)=>match ev L x with
     |some v=>some (v,[],hs)
     |none=>none
    |some (.bool false)=>match ev L y with
     |some v=>some (v,[],hs)
     |none=>none
    |_=>none
   | .unOp .not _ x=>match ev L x with
    |some (.bool b)=>some (.bool !b,[],hs)
    |_=>none
   | .extract x i=>match ev L x with
    |some (.tuple vs)=>match vs.toList[i]? with
     |some v=>some (v,[],hs)
     |none=>none
    |_=>none
   | .fieldAddr s x f=>match ev L x with
    |some (.pointer (some ⟨b,o,none⟩))=>match T.foF s f with
     |some k=>some (.pointer (some ⟨b,o+k,none⟩),[],hs)
     |none=>none
    |_=>none
   | .binOp op _ x y _=>match ev L x with
    |some (.int .i64 a)=>match ev L y with
     |some (.int .i64 b)=>match op with
      | .lss=>some (.bool (decide (a<b)),[],hs)
      | .leq=>some (.bool (decide (a≤b)),[],hs)
      | .gtr=>some (.bool (decide (b<a)),[],hs)
      | .geq=>some (.bool (decide (b≤a)),[],hs)
      | .eql=>some (.bool (decide (a=b)),[],hs)
      | .neq=>some (.bool (!decide (a=b)),[],hs)
      | .add=>some (.int .i64 (a+b),[-9223372036854775808≤a+b,a+b≤9223372036854775807],hs)
      | .sub=>some (.int .i64 (a-b),[-9223372036854775808≤a-b,a-b≤9223372036854775807],hs)
      |_=>none
     |_=>none
    |_=>none
   | .load t x=>match ev L x with
    |some (.pointer (some ⟨b,o,none⟩))=>match M[hs.headD 0]? with
     |some (b',cs)=>match T.Jc t with
      |some (false,_)=>match cs[o]? with
       |some v=>some (v,[b'=b],hs.tail)
       |none=>none
      |some (true,n)=>match Nat.beq o 0 with
       |true=>match Nat.beq cs.length n with
        |true=>some (.agg cs.toArray,[b'=b],hs.tail)
        |false=>none
       |false=>none
      |none=>none
     |none=>none
    |_=>none
   | .call c=>match c with
    |{callee:= .builtin .len,args:=xs,argTypes:=ts}=>match xs.toList with
     |[x]=>match ts.toList with
      |[t]=>match ev L x with
       |some (.slice A n c)=>match LZ T.sl t with
        |true=>some (.int .i64 n,[],hs)
        |false=>none
       |_=>none
      |_=>none
     |_=>none
    |_=>none
   |_=>none
section
variable {E:ff} {T:Dj} {ops:Array Oper} {M:List (Nat×List Value)} {D:List Deferred} {L:List (Nat×Value)} {C:List av} {hs hs':List Nat}
theorem uX {cs:List Value} {o:Nat} {v:Value} (h:cs[o]? =some v):(cs.drop o).take [v].length=[v]:=by
 obtain ⟨hl,rfl⟩:=List.getElem?_eq_some_iff.1 h
 rw [List.drop_eq_getElem_cons hl]; rfl
theorem RT {o:Oper} {v:Value} {S:List Prop} (hT:ld E.P T) (hM:MM C M) (h:pv T ops M L hs o.guard o.op=some (v,S,hs')) (hS:pC S):SD E ops o D L C v:=by
 obtain ⟨dst,op,ty,ps,af,g⟩:=o
 unfold pv at h
 simp only at h
 split at h
 ·rename_i hg
  cases h
  exact Lf hg
 ·split at h
  ·cases h
  ·rename_i hg
   split at h
   ·split at h
    ·rename_i hx; cases h; exact FI hg hx
    ·cases h
   ·split at h
    ·rename_i hx; cases h; exact yL hg hx
    ·cases h
   ·split at h
    ·rename_i hc
     split at h
     ·rename_i hx; cases h; exact zw hg hc hx
     ·cases h
    ·rename_i hc
     split at h
     ·rename_i hx; cases h; exact yY hg hc hx
     ·cases h
    ·cases h
   ·split at h
    ·rename_i hx; cases h; exact KO hg hx
    ·cases h
   ·split at h
    ·rename_i vs hx
     split at h
     ·rename_i v' hv; cases h; exact xe (vs:=vs.toList) hg (by simpa using hx) hv
     ·cases h
    ·cases h
   ·split at h
    ·rename_i hx
     split at h
     ·rename_i hk; cases h; exact OK hg hx (hT.foF hk) rfl
     ·cases h
    ·cases h
   ·split at h
    ·rename_i hx
     split at h
     ·rename_i hy
      split at h
      ·cases h; exact b_ hg hx hy gS
      ·cases h; exact b_ hg hx hy S5
      ·cases h; exact b_ hg hx hy SF
      ·cases h; exact b_ hg hx hy Ft
      ·cases h; exact b_ hg hx hy mj
      ·cases h; exact b_ hg hx hy nI
      ·cases h; exact b_ hg hx hy (ia ⟨hS.1,hS.2.1⟩)
      ·cases h; exact b_ hg hx hy (rz ⟨hS.1,hS.2.1⟩)
      ·cases h
     ·cases h
    ·cases h
   ·split at h
    ·rename_i hx
     split at h
     ·rename_i b' cs hm
      have A:=aX hm
      split at h
      ·rename_i hk
       split at h
       ·rename_i hv
        cases h
        obtain rfl:=hS.1
        exact ue hg hx (hT.Jc hk) (hM _ A _ _ (uX hv))
       ·cases h
      ·rename_i n hk
       split at h
       ·rename_i ho
        split at h
        ·rename_i hn
         cases h
         obtain rfl:=hS.1
         have H:=Nat.eq_of_beq_eq_true ho
         subst H
         exact wv hg hx (hT.Jc hk) (hM _ A 0 cs sm) (Nat.eq_of_beq_eq_true hn)
        ·cases h
       ·cases h
      ·cases h
     ·cases h
    ·cases h
   ·split at h
    ·rename_i xs ts
     split at h
     ·rename_i x G
      split at h
      ·rename_i t F
       split at h
       ·rename_i hx
        split at h
        ·rename_i B
         cases h
         obtain ⟨e,he⟩:=hT.sl t (Br B)
         have AA:xs= #[x]:=by apply Array.ext'; simpa using G
         have J:ts= #[t]:=by apply Array.ext'; simpa using F
         subst AA J
         exact I1 hg hx he
        ·cases h
       ·cases h
      ·cases h
     ·cases h
    ·cases h
   ·cases h
def pr (T:Dj) (n:Nat) (ops:Array Oper) (M:List (Nat×List Value)):Nat→List Nat→List (Nat×Value)→List Oper→Option (List (Nat×Value)×List Oper×List Prop)
 |0,_,L,rest=>some (L,rest,[])
 |k+1,hs,L,[]=>none
 |k+1,hs,L,o::rest=>match o.dst with
  |none=>none
  |some d=>match Nat.blt d n with
   |false=>none
   |true=>match pv T ops M L hs o.guard o.op with
    |none=>none
    |some (v,S,hs')=>match pr T n ops M k hs' ((d,v)::L) rest with
     |none=>none
     |some (L',rest',S')=>some (L',rest',S++S')
theorem x9: ∀ {S S':List Prop},pC (S++S')→pC S∧pC S'
 |[],S',h=>⟨trivial,h⟩
 |p::S,S',h=>⟨⟨h.1,(x9 h.2).1⟩,(x9 h.2).2⟩
/-- whatever is closed under single steps -/
theorem Il {J:List Oper→List (Nat×Value)→Prop} (hT:ld E.P T) (hM:MM C M) (hJ: ∀ o rest L d v,SD E ops o D L C v→o.dst=some d→Nat.blt d E.n=true→J rest ((d,v)::L)→J (o::rest) L):
 ∀ (k:Nat) (hs:List Nat) (L:List (Nat×Value)) (rest:List Oper) {L':List (Nat×Value)} {rest':List Oper} {S:List Prop},pr T E.n ops M k hs L rest=some (L',rest',S)→pC S→J rest' L'→J rest L
 |0,hs,L,rest,L',rest',S,h,hS,hj=>by
  unfold pr at h
  cases h
  exact hj
 |k+1,hs,L,[],L',rest',S,h,hS,hj=>by unfold pr at h; cases h
 |k+1,hs,L,o::rest,L',rest',S,h,hS,hj=>by
  unfold pr at h
  split at h
  ·cases h
  ·rename_i d hd
   split at h
   ·cases h
   ·rename_i hn
    split at h
    ·cases h
    ·rename_i v S1 A hv
     split at h
     ·cases h
     ·rename_i L1 G S2 hr
      cases h
      obtain ⟨B,F⟩:=x9 hS
      exact hJ o rest L d v (RT hT hM hv B) hd hn (Il hT hM hJ k A _ rest hr F hj)
variable {Q:cZ} {rest rest':List Oper} {L0 L':List (Nat×Value)} {S:List Prop} {F:List (Nat×Value)→Prop}
/-- a run of operations, one after the other -/
theorem rP (k:Nat) (hs:List Nat) (hM:MM C M) (j:RJ E ops Q rest' D L' C) (hT:ld E.P T:=by exact pT) (h:pr T E.n ops M k hs L rest=some (L0,rest',S):=by rfl) (hL:L0=L':=by (try dsimp only)<;>rfl) (hS:pC S:=by repeat' first|exact True.intro |refine j5 ?_ ?_ |exact rfl|omega|(dsimp only; omega)):RJ E ops Q rest D L C:=by
 subst hL
 exact Il (J:=fun r L=>RJ E ops Q r D L C) hT hM (fun o rest L d v A B F G=>S0 A B F G) k hs L rest h hS j
theorem dP (k:Nat) (hs:List Nat) (hM:MM C M) (j:DJ E ops D C F rest' L') (hT:ld E.P T:=by exact pT) (h:pr T E.n ops M k hs L rest=some (L0,rest',S):=by rfl) (hL:L0=L':=by (try dsimp only)<;>rfl) (hS:pC S:=by repeat' first|exact True.intro |refine j5 ?_ ?_ |exact rfl|omega):DJ E ops D C F rest L:=by
 subst hL
 exact Il (J:=fun r L=>DJ E ops D C F r L) hT hM (fun o rest L d v A B G H=>Tf A B G H) k hs L rest h hS j
end
section
variable {P:Program} {r:Option Nat} {n:Nat} {B:BS} {w0:World} {ops:Array Oper} {M:List (Nat×List Value)} {D:List Deferred} {L L':List (Nat×Value)} {C:List av} {Q:cZ} {rest rest':List Oper} {S:List Prop} {F:List (Nat×Value)→Prop}
theorem fE (k:Nat) (hs:List Nat) (hM:MM C M) (h:pr TT n ops M k hs L rest=some (L',rest',S)) (j:RJ ⟨P,r,n,B,w0⟩ ops Q rest' D L' C) (hS:pC S:=by repeat' first|exact True.intro |refine j5 ?_ ?_ |exact rfl|omega|(dsimp only; omega)) (hT:ld P TT:=by exact pT):RJ ⟨P,r,n,B,w0⟩ ops Q rest D L C:=rP k hs hM j hT h rfl hS
theorem mI (k:Nat) (hs:List Nat) (hM:MM C M) (h:pr TT n ops M k hs L rest=some (L',rest',S)) (j:DJ ⟨P,r,n,B,w0⟩ ops D C F rest' L') (hS:pC S:=by repeat' first|exact True.intro |refine j5 ?_ ?_ |exact rfl|omega|(dsimp only; omega)) (hT:ld P TT:=by exact pT):DJ ⟨P,r,n,B,w0⟩ ops D C F rest L:=dP k hs hM j hT h rfl hS
theorem bg (k:Nat) (h:pr TT n ops [] k [] L rest=some (L',rest',S)) (j:RJ ⟨P,r,n,B,w0⟩ ops Q rest' D L' C) (hS:pC S:=by repeat' first|exact True.intro |refine j5 ?_ ?_ |exact rfl|omega|(dsimp only; omega)) (hT:ld P TT:=by exact pT):RJ ⟨P,r,n,B,w0⟩ ops Q rest D L C:=rP k [] I j hT h rfl hS
theorem lB (k:Nat) (h:pr TT n ops [] k [] L rest=some (L',rest',S)) (j:DJ ⟨P,r,n,B,w0⟩ ops D C F rest' L') (hS:pC S:=by repeat' first|exact True.intro |refine j5 ?_ ?_ |exact rfl|omega|(dsimp only; omega)) (hT:ld P TT:=by exact pT):DJ ⟨P,r,n,B,w0⟩ ops D C F rest L:=dP k [] I j hT h rfl hS
end
end
section
open Go.RowKit
/-- parts of a context, reckoned to the end -/
def o4 (C:List av):List Nat→Option (List av)
 |[]=>some []
 |i::is=>match C[i]? with
  |some A=>match o4 C is with
   |some l=>some (A::l)
   |none=>none
  |none=>none
theorem jE {C:List av}: ∀ {is:List Nat} {C':List av},o4 C is=some C'→kj C is=C'
 |[],C',h=>by cases h; rfl
 |i::is,C',h=>by
  unfold o4 at h
  split at h
  ·rename_i A hA
   split at h
   ·rename_i l hl
    cases h
    show List.filterMap (C[·]?) (i::is)=A::l
    rw [List.filterMap_cons_some hA]
    exact congrArg _ (jE hl)
   ·cases h
  ·cases h
/-- a part of a context in place of the whole -/
theorem aK {S:BS} {w0:World} {C C':List av} (is:List Nat) (hn:decide is.Nodup=true:=by rfl) (hC:kj C is=C':=by rfl): ∀ w,St S w0 C w→St S w0 C' w:=fun w h=>St.kj is hn hC h
theorem S6 {S:BS} {w0:World} {C C':List av} (is:List Nat) (hC:o4 C is=some C') (hn:decide is.Nodup=true:=by rfl): ∀ w,St S w0 C w→St S w0 C' w:=fun w h=>St.kj is hn (jE hC) h
def Oj (C:List av) (i:Nat) (B:av):Option (List av):=match i,C with
 |0,_::C=>some (B::C)
 |i+1,A::C=>match Oj C i B with
  |some l=>some (A::l)
  |none=>none
 |_,[]=>none
theorem FW: ∀ {C:List av} {i:Nat} {B:av} {C':List av},Oj C i B=some C'→C.set i B=C'
 |[],0,B,C',h=>by cases h
 |[],i+1,B,C',h=>by cases h
 |A::C,0,B,C',h=>by cases h; rfl
 |A::C,i+1,B,C',h=>by
  unfold Oj at h
  split at h
  ·rename_i l hl
   cases h
   exact congrArg _ (FW hl)
  ·cases h
theorem fj {E:ff} {K:Act→World→Prop} {D:List Deferred} {L:List (Nat×Value)} {C C':List av} {A B:av} (i:Nat) (hC:C[i]? =some A) (hh:(∀ w,A.holds w→B.holds w)∧(∀ b,B.fp b→A.fp b)∧ ∀ b,B.wf b→A.wf b) (hC':Oj C i B=some C') (h:KJ E K D L C'):KJ E K D L C:=K1 i hC hh (FW hC') h
/-- the operations of a region but these; marks of some places -/
def Ug (n:Nat) (T:List Nat):List Nat:=(List.range n).filter fun i=> !T.contains i
def Vd (k:Nat) (t:List Nat):List Bool:=(List.range k).map fun i=>t.contains i
theorem dR {E:ff} {id:Nat} {ops:Array Oper} {Q:cZ} {D:List Deferred} {L:List (Nat×Value)} {C:List av} (hm:E.P.follows .mixedOrders=true) (T fe tb i1 i2:List Nat) {C' C1:List av} {free:List Nat} {QL tbb:List Bool}
 (h1:o4 C i1=some C') (h2:o4 C i2=some C1) (hf:free=Ug ops.size T) (hfe:QL=Vd free.length fe) (htb:tbb=Vd T.length tb)
 (h:pW E ops D C' C1 (fun L'=>TJ E ops D C' C1 (fun L C=>KJ E (Q .normal) D L C) tbb (eV ops T) L' C) QL (eV ops free) L)
 (hc:Mr ops free T QL tbb=true:=by kernel_rfl) (n1:decide i1.Nodup=true:=by rfl) (n2:decide i2.Nodup=true:=by rfl):WJ E (.region id ops true) Q D L C:=
 MZ hm free T QL tbb C' C1 hc (S6 i1 h1 n1) (S6 i2 h2 n2) h
end
section
open Go.RowKit
def vE (T:Dj) (M:List (Nat×List Value)) (L:List (Nat×Value)):List ResultVar→List Nat→Option (List Value×List Prop)
 |[],_=>some ([],[])
 | .tmp t::rs,hs=>match L.lookup t with
  |some v=>match vE T M L rs hs with
   |some (vs,S)=>some (v::vs,S)
   |none=>none
  |none=>none
 | .cell a t::rs,hs=>match L.lookup a with
  |some (.pointer (some ⟨b,o,none⟩))=>match M[hs.headD 0]? with
   |some (b',cs)=>match T.Jc t with
    |some (false,_)=>match cs[o]? with
     |some v=>match vE T M L rs hs.tail with
      |some (vs,S)=>some (v::vs,(b'=b)::S)
      |none=>none
     |none=>none
    |some (true,n)=>match Nat.beq o 0 with
     |true=>match Nat.beq cs.length n with
      |true=>match vE T M L rs hs.tail with
       |some (vs,S)=>some (.agg cs.toArray::vs,(b'=b)::S)
       |none=>none
      |false=>none
     |false=>match vE T M L rs hs.tail with
      |some (vs,S)=>some (.agg ((cs.drop o).take n).toArray::vs,(b'=b)::(((cs.drop o).take n).length=n)::S)
      |none=>none
    |none=>none
   |none=>none
  |_=>none
theorem oa {P:Program} {T:Dj} {M:List (Nat×List Value)} {L:List (Nat×Value)} {C:List av} (hT:ld P T) (hM:MM C M): ∀ (rs:List ResultVar) (hs:List Nat) {vs:List Value} {S:List Prop},vE T M L rs hs=some (vs,S)→pC S→Gu P L C rs vs
 |[],_,vs,S,h,hS=>by unfold vE at h; cases h; exact trivial
 | .tmp t::rs,hs,vs,S,h,hS=>by
  unfold vE at h
  split at h
  ·rename_i v hv
   split at h
   ·rename_i vs' S' hr
    cases h
    exact ⟨hv,oa hT hM rs hs hr hS⟩
   ·cases h
  ·cases h
 | .cell a t::rs,hs,vs,S,h,hS=>by
  unfold vE at h
  split at h
  ·rename_i b o hl
   split at h
   ·rename_i b' cs hm
    have A:=aX hm
    split at h
    ·rename_i hk
     split at h
     ·rename_i v hv
      split at h
      ·rename_i vs' S' hr
       cases h
       obtain ⟨rfl,hS⟩:=hS
       exact ⟨⟨_,hl,.inr ⟨_,hT.Jc hk,hM _ A _ _ (uX hv)⟩⟩,oa hT hM rs _ hr hS⟩
      ·cases h
     ·cases h
    ·rename_i n hk
     split at h
     ·rename_i ho
      split at h
      ·rename_i hn
       split at h
       ·rename_i vs' S' hr
        cases h
        obtain ⟨rfl,hS⟩:=hS
        have D:=Nat.eq_of_beq_eq_true ho
        subst D
        exact ⟨⟨_,hl,.inl ⟨_,cs,hT.Jc hk,hM _ A 0 cs sm,Nat.eq_of_beq_eq_true hn,U⟩⟩,oa hT hM rs _ hr hS⟩
       ·cases h
      ·cases h
     ·split at h
      ·rename_i vs' S' hr
       cases h
       obtain ⟨rfl,B,hS⟩:=hS
       exact ⟨⟨_,hl,.inl ⟨_,_,hT.Jc hk,hM _ A o _ (by rw [B]),B,U⟩⟩,oa hT hM rs _ hr hS⟩
      ·cases h
    ·cases h
   ·cases h
  ·cases h
section
variable {P:Program} {n:Nat} {fn:Func} {w0:World} {K:Act→World→Prop} {L:List (Nat×Value)} {C:List av} {M:List (Nat×List Value)} {vs:List Value} {S:List Prop} {u x v:Value}
theorem H2 (hQ: ∀ D L C,LJ ⟨P,none,n,tG,w0⟩ fn (BP w0 v) D L C→KJ ⟨P,none,n,tG,w0⟩ K D L C) (hs:List Nat) (hM:MM C M) (h:vE TT M L fn.results.toList hs=some ([u],S)) (e:u=v) (hS:pC S:=by repeat' first|exact True.intro |refine j5 rfl ?_) (hT:ld P TT:=by exact pT):KJ ⟨P,none,n,tG,w0⟩ K [] L C:=
 hQ _ _ _ (gY (oa hT hM _ _ h hS) fun w hs=>DM e hs)
theorem lj (hQ: ∀ D L C,LJ ⟨P,none,n,tG,w0⟩ fn (BP w0 v) D L C→KJ ⟨P,none,n,tG,w0⟩ K D L C) (hs:List Nat) (hM:MM C M) (h:vE TT M L fn.results.toList hs=some (u::x::vs,S)) (e:Value.tuple (u::x::vs).toArray=v) (hS:pC S:=by repeat' first|exact True.intro |refine j5 rfl ?_) (hT:ld P TT:=by exact pT):KJ ⟨P,none,n,tG,w0⟩ K [] L C:=
 hQ _ _ _ (gY (oa hT hM _ _ h hS) fun w hs=>DM e hs)
theorem LX {α:Type} {V:α→Value} {p:α→Prop} {N:α→List av} (hQ: ∀ D L C,LJ ⟨P,none,n,tG,w0⟩ fn (KU w0 V p N) D L C→KJ ⟨P,none,n,tG,w0⟩ K D L C) (x:α) (is hs:List Nat) (hM:MM C M) (h:vE TT M L fn.results.toList hs=some (vs,S)) (hw:(N x).all (·.wr)=true) (hN:kj C is=N x) (hV:QI vs=V x) (hp:p x) (hn:decide is.Nodup=true:=by rfl) (hS:pC S:=by repeat' first|exact True.intro |refine j5 rfl ?_) (hT:ld P TT:=by exact pT):KJ ⟨P,none,n,tG,w0⟩ K [] L C:=
 hQ _ _ _ (gY (oa hT hM _ _ h hS) fun w hs=>I_ x is hV hp hn hN hw hs)
theorem LM {A:av} {α:Type} {V:α→Value} {p:α→Prop} {A':α→av} (hQ: ∀ D L C,LJ ⟨P,none,n,⟨A.wf,fun _=>True⟩,w0⟩ fn (Oc w0 A V p A') D L C→KJ ⟨P,none,n,⟨A.wf,fun _=>True⟩,w0⟩ K D L C) (x:α) (i:Nat) (hs:List Nat) (hM:MM C M) (h:vE TT M L fn.results.toList hs=some (vs,S)) (hw:(A' x).wr=true) (hC:C[i]? =some (A' x)) (hV:QI vs=V x) (hp:p x) (hS:pC S:=by repeat' exact True.intro) (hT:ld P TT:=by exact pT):KJ ⟨P,none,n,⟨A.wf,fun _=>True⟩,w0⟩ K [] L C:=
 hQ _ _ _ (gY (oa hT hM _ _ h hS) fun w hs=>SJ x i hV hp hC hw hs)
end
end
section
open Go.RowKit
def EU {α:Type _}:List α→List α→Option (List α)
 |[],m=>some m
 |a::l,m=>match EU l m with
  |some r=>some (a::r)
  |none=>none
theorem F7 {α:Type _}: ∀ {l m r:List α},EU l m=some r→l++m=r
 |[],m,r,h=>by cases h; rfl
 |a::l,m,r,h=>by
  unfold EU at h
  split at h
  ·rename_i r' hr
   cases h
   exact congrArg (a:: ·) (F7 hr)
  ·cases h
def To (L:List (Nat×Value)):List Nat→Option (List (Nat×Value))
 |[]=>some []
 |t::ts=>match L.lookup t with
  |some v=>match To L ts with
   |some r=>some ((t,v)::r)
   |none=>none
  |none=>none
theorem F_ {L M:List (Nat×Value)} (k:dx L M): ∀ {ts:List Nat} {r:List (Nat×Value)},To L ts=some r→dx L (r++M)
 |[],r,h=>by cases h; exact k
 |t::ts,r,h=>by
  unfold To at h
  split at h
  ·rename_i v hv
   split at h
   ·rename_i r' hr
    cases h
    exact dx.cons hv (F_ k hr)
   ·cases h
  ·cases h
section
variable {E:ff} {Q:cZ} {D:List Deferred} {L L0:List (Nat×Value)} {C C0:List av} {ι:Type} {Li:ι→List (Nat×Value)} {Ci:ι→List av}
theorem bO {c:Code} (kL kC:List Nat) (hL:To L kL=some L0) (hC0:o4 C kC=some C0) (S:ι→List (Nat×Value)) (G:ι→List av) (hLi: ∀ x,EU L0 (S x)=some (Li x)) (hCi: ∀ x,EU C0 (G x)=some (Ci x)) (μ:ι→Nat) (x0:ι)
 (h0:dx L (S x0)) (hC: ∀ w,St E.S E.w0 C w→St E.S E.w0 (Ci x0) w)
 (round: ∀ x (J:Act→World→Prop),(∀ y D' L' C',D'=D→μ y<μ x→dx L' (Li y)→(∀ w,St E.S E.w0 C' w→St E.S E.w0 (Ci y) w)→KJ E J D' L' C')→WJ E c (Exit.then J Q) D (Li x) (Ci x)):WJ E (.loop c) Q D L C:=
 QF Li Ci μ x0 (F7 (hLi x0)▸F_ h0 hL) hC round
theorem mN {x y:Code} (kL kC:List Nat) (hL:To L kL=some L0) (hC0:o4 C kC=some C0) (S:ι→List (Nat×Value)) (G:ι→List av) (hLi: ∀ x,EU L0 (S x)=some (Li x)) (hCi: ∀ x,EU C0 (G x)=some (Ci x))
 (hy: ∀ z,WJ E y Q D (Li z) (Ci z)) (h: ∀ K:Act→World→Prop,(∀ z,KJ E K D (Li z) (Ci z))→WJ E x (Exit.then K Q) D L C):WJ E (.seq x y) Q D L C:=Pw Li Ci hy h
end
end
section
open Go.RowKit
set_option linter.unusedSectionVars false
/-- what is asked of keys -/
structure uy (P:Program) (kt:Nat) {K:Type} (kV:K→Value):Prop where
 check: ∀ (e:Bool) (x:K) (w:World),(Instr.checkKey e 10000 kt (kV x)).run P w= .ok () w
 find: ∀ (x:K) (w:World) (es:List MapEntry),(∀ e∈es,∃ k,e.key=kV k)→
  ((Instr.findKey kt (kV x) es).run P w= .ok none w∧ ∀ e∈es,e.key≠kV x)∨ ∃ j e,(Instr.findKey kt (kV x) es).run P w= .ok (some (j,e.val)) w∧es[j]? =some e∧e.key=kV x
 bits: ∀ x,Instr.sameBits 10000 (kV x) (kV x)=true
 inj: ∀ x y,kV x=kV y→x=y
section
variable {K:Type} [DecidableEq K] {kV:K→Value}
def dK {β:Type} (l:List (K×β)) (x:K) (y:β):List (K×β):=if (l.lookup x).isSome then l.map (fun p=>if p.1=x then (x,y) else p) else l++[(x,y)]
def cf {β:Type} (l:List (K×β)) (x:K):List (K×β):=l.filter fun p=> !decide (p.1=x)
def bM {β γ:Type} (f:β→γ) (l:List (K×β)):List (K×γ):=l.map fun p=>(p.1,f p.2)
theorem HE {β γ:Type} (f:β→γ) (l:List (K×β)):(bM f l).length=l.length:=by simp [bM]
theorem mO {β γ:Type} (f:β→γ) (x:K): ∀ l:List (K×β),(bM f l).lookup x=(l.lookup x).map f
 |[]=>rfl
 |p::l=>by
  obtain ⟨k,v⟩:=p
  have ih:=mO f x l
  by_cases h:x=k
  ·subst h; simp [bM,List.lookup]
  ·have:(x==k)=false:=by simpa using h
   simp only [bM,List.map_cons,List.lookup,this] at ih ⊢
   exact ih
theorem gr {β γ:Type} (f:β→γ) (l:List (K×β)) (x:K) (y:β):bM f (dK l x y)=dK (bM f l) x (f y):=by
 unfold dK
 rw [mO,Option.isSome_map]
 split
 ·simp only [bM,List.map_map]
  refine List.map_congr_left fun p _=>?_
  simp only [Function.comp]
  split<;>rfl
 ·simp [bM]
theorem lD {β γ:Type} (f:β→γ) (l:List (K×β)) (x:K):bM f (cf l x)=cf (bM f l) x:=by
 unfold cf bM
 rw [List.filter_map]
 rfl
theorem iz {β:Type} {x:K}: ∀ {l:List (K×β)},l.lookup x=none↔ ∀ p∈l,p.1≠x
 |[]=>by simp
 |p::l=>by
  obtain ⟨k,v⟩:=p
  by_cases h:x=k
  ·subst h; simp [List.lookup]
  ·have hb:(x==k)=false:=by simpa using h
   simp only [List.lookup,hb,eu,forall_eq_or_imp]
   rw [iz (l:=l)]
   exact ⟨fun q=>⟨fun e=>h e.symm,q⟩,fun q=>q.2⟩
theorem iB {β:Type} {x:K} {y:β}: ∀ {l:List (K×β)},(l.map (·.1)).Nodup→((x,y)∈l↔l.lookup x=some y)
 |[],_=>by simp
 |p::l,hn=>by
  obtain ⟨k,v⟩:=p
  simp only [List.map_cons,List.nodup_cons] at hn
  by_cases h:x=k
  ·subst h
   simp only [List.lookup,beq_self_eq_true,eu,Prod.mk.injEq,true_and,Option.some.injEq]
   constructor
   ·rintro (e|e)
    ·exact e.symm
    ·exact absurd (List.mem_map.2 ⟨_,e,U⟩) hn.1
   ·intro e; exact .inl e.symm
  ·have hb:(x==k)=false:=by simpa using h
   simp only [List.lookup,hb,eu,Prod.mk.injEq,h,false_and,false_or]
   exact iB hn.2
structure iZ (kV:K→Value) (es:Array MapEntry) (c:Nat) (m:List (K×Value)):Prop where
 list:es.toList.map (fun (e:MapEntry)=>(e.key,e.val))=m.map (fun p=>(kV p.1,p.2))
 keys:(m.map (·.1)).Nodup
 Ld: ∀ e∈es.toList,e.born<c
 born:(es.toList.map (·.born)).Nodup
def gZ (kV:K→Value) (b:Nat) (m:List (K×Value)):av where
 fp k:=k=b
 wf k:=k=b
 holds w:= ∃ es c,w.heap[b]? =some (.map es c)∧iZ kV es c m
 wr:=true
 kv _ h:=h
 whole _ _ h:=h
 lt w h k hk:=by obtain ⟨es,c,he,_⟩:=h; exact hk▸ek he
 oq w w' hk h:=by obtain ⟨es,c,he,hm⟩:=h; exact ⟨es,c,(hk b rfl).trans he,hm⟩
theorem iZ.nil:iZ kV #[] 0 []:=⟨rfl,List.nodup_nil,sm,List.nodup_nil⟩
theorem iZ.size {es:Array MapEntry} {c:Nat} {m:List (K×Value)} (h:iZ kV es c m):es.size=m.length:=by
 have:=congrArg List.length h.list
 simpa using this
theorem Dm {P:Program} {kt:Nat} (hk:uy P kt kV) (x:K): ∀ (es:List MapEntry) (m:List (K×Value)),es.map (fun (e:MapEntry)=>(e.key,e.val))=m.map (fun p=>(kV p.1,p.2))→
 ((∀ e∈es,e.key≠kV x)→m.lookup x=none)∧ ∀ (j:Nat) (e:MapEntry),es[j]? =some e→e.key=kV x→m[j]? =some (x,e.val):=by
 intro es m h
 refine ⟨fun hn=>iz.2 fun p hp e=>?_,fun j e he hx=>?_⟩
 ·have:(kV p.1,p.2)∈es.map (fun (e:MapEntry)=>(e.key,e.val)):=by rw [h]; exact List.mem_map.2 ⟨p,hp,rfl⟩
  obtain ⟨z,hz,B⟩:=List.mem_map.1 this
  simp only [Prod.mk.injEq] at B
  exact hn z hz (by rw [B.1,e])
 ·have A:(es.map (fun (e:MapEntry)=>(e.key,e.val)))[j]? =some (e.key,e.val):=by rw [fB,he]; rfl
  rw [h,fB] at A
  cases hm:m[j]? with
  |none=>simp [hm] at A
  |some p=>
   simp only [hm,Option.map_some,Option.some.injEq,Prod.mk.injEq] at A
   have:=hk.inj _ _ (A.1.trans hx)
   obtain ⟨k,v⟩:=p
   simp only at this A
   rw [this,A.2]
theorem oU {P:Program} {w:World} {kt:Nat} {x:K} {es:Array MapEntry} {c:Nat} {m:List (K×Value)} (hk:uy P kt kV) (h:iZ kV es c m):
 ((Instr.findKey kt (kV x) es.toList).run P w= .ok none w∧m.lookup x=none)∨
 ∃ j v,(Instr.findKey kt (kV x) es.toList).run P w= .ok (some (j,v)) w∧m[j]? =some (x,v)∧m.lookup x=some v:=by
 obtain ⟨D,E⟩:=Dm hk x es.toList m h.list
 rcases hk.find x w es.toList (fun e he=>by
  have:(e.key,e.val)∈m.map (fun p=>(kV p.1,p.2)):=by rw [← h.list]; exact List.mem_map.2 ⟨e,he,rfl⟩
  obtain ⟨p,_,hp⟩:=List.mem_map.1 this
  simp only [Prod.mk.injEq] at hp
  exact ⟨p.1,hp.1.symm⟩) with ⟨A,B⟩|⟨j,e,A,B,C⟩
 ·exact .inl ⟨A,D B⟩
 ·have:=E j e B C
  exact .inr ⟨j,e.val,A,this,(iB h.keys).1 (aX this)⟩
theorem iK {P:Program} {w:World} {kt:Nat} {x:K} (hk:uy P kt kV) (e:Bool):(Instr.checkKey e 10000 kt (kV x)).run P w= .ok () w:=hk.check e x w
section
variable {E:ff} {ops:Array Oper} {Q:cZ} {rest:List Oper} {D:List Deferred} {L:List (Nat×Value)} {C:List av}
variable {dst:Option Tmp} {d:Nat} {ty:TypeId} {ps:String} {af:Array Edge} {g:Option (Nat×Bool)}
theorem mu {t:TypeId} (hg:ju ops L g=true) (hd:Nat.blt d E.n=true) (k: ∀ b,RJ E ops Q rest D ((d,.map (some b))::L) (gZ kV b []::C)):RJ E ops Q (⟨some d,.makeMap t none,ty,ps,af,g⟩::rest) D L C:=by
 intro a w B hs
 have hd':d<E.n:=by rw [← Nat.blt_eq]; exact hd
 unfold rq
 rw [if_pos (d_ B hg)]
 refine gQ (v:= .map (some w.heap.size)) (w':=w.alloc (.map #[] 0)) sm ?_ ?_
 ·simp [execOp,Instr.makeMap,newObj,Sem.run]
 ·refine k _ _ _ (B.put hd' _) (hs.grow (dY.alloc no w _) (N:=[gZ kV w.heap.size []]) ⟨fun A hA=>?_,fun A hA b hb=>?_,List.pairwise_singleton _ _⟩)
  ·simp at hA; subst hA; exact ⟨#[],0,heap_alloc_new w _,iZ.nil⟩
  ·simp at hA; subst hA; exact Nat.le_of_eq (Eq.symm hb)
theorem iZ.push {es:Array MapEntry} {c:Nat} {m:List (K×Value)} (h:iZ kV es c m) {x:K} (hx:m.lookup x=none) (v:Value):iZ kV (es.push {key:=kV x,val:=v,born:=c}) (c+1) (m++[(x,v)]):=by
 refine ⟨by simp [h.list],?_,?_,?_⟩
 ·rw [List.map_append,List.nodup_append]
  refine ⟨h.keys,sm,fun a ha b hb=>?_⟩
  simp at hb; subst hb
  obtain ⟨p,hp,rfl⟩:=List.mem_map.1 ha
  exact iz.1 hx p hp
 ·intro e he
  simp only [Array.toList_push,kJ,bW] at he
  rcases he with he|rfl
  ·exact Nat.lt_succ_of_lt (h.Ld e he)
  ·exact Nat.lt_succ_self _
 ·simp only [Array.toList_push,List.map_append,List.map_cons,List.map_nil]
  rw [List.nodup_append]
  refine ⟨h.born,sm,fun a ha b hb=>?_⟩
  simp at hb; subst hb
  obtain ⟨p,hp,rfl⟩:=List.mem_map.1 ha
  exact Nat.ne_of_lt (h.Ld p hp)
theorem Nm {m:List (K×Value)} {j:Nat} {x:K} {v0 v:Value} (hn:(m.map (·.1)).Nodup) (hj:m[j]? =some (x,v0)):m.map (fun p=>if p.1=x then (x,v) else p)=m.set j (x,v):=by
 refine List.ext_getElem? fun i=>?_
 rw [fB,List.getElem?_set]
 by_cases e:j=i
 ·subst e
  have hl:=(List.getElem?_eq_some_iff.1 hj).1
  rw [hj]; simp [hl]
 ·rw [if_neg e]
  cases hi:m[i]? with
  |none=>rfl
  |some p=>
   simp only [Option.map_some]
   rw [if_neg]
   intro hp
   have B:(m.map (·.1))[i]? =some x:=by rw [fB,hi]; simp [hp]
   have C:(m.map (·.1))[j]? =some x:=by rw [fB,hj]; rfl
   have A:=(List.getElem?_eq_some_iff.1 B).1
   exact e (((List.getElem?_inj A hn).1 (B.trans C.symm)).symm)
theorem iZ.set {es:Array MapEntry} {c:Nat} {m:List (K×Value)} (h:iZ kV es c m) {x:K} {j:Nat} {v0:Value} (hj:m[j]? =some (x,v0)) (hx:m.lookup x=some v0) (v:Value):
 iZ kV (es.modify j fun e=>{e with key:=kV x,val:=v}) c (dK m x v):=by
 have C:dK m x v=m.set j (x,v):=by unfold dK; rw [hx]; simpa using Nm h.keys hj
 have hl:=(List.getElem?_eq_some_iff.1 hj).1
 have E:=h.size
 have A:j<es.size:=by omega
 have B:(es.modify j fun e=>{e with key:=kV x,val:=v}).toList=es.toList.set j {(es[j]) with key:=kV x,val:=v}:=by
  refine List.ext_getElem? fun i=>?_
  rw [Array.getElem?_toList,Array.getElem?_modify,List.getElem?_set]
  by_cases e:j=i
  ·subst e; simp [A]
  ·simp [e]
 have D:(es.toList.set j {(es[j]) with key:=kV x,val:=v}).map (·.born)=es.toList.map (·.born):=by
  rw [List.map_set]
  refine List.ext_getElem? fun i=>?_
  rw [List.getElem?_set]
  by_cases e:j=i
  ·subst e; simp [A]
  ·rw [if_neg e]
 refine ⟨?_,?_,?_,?_⟩
 ·rw [B,C,List.map_set,List.map_set,h.list]
 ·rw [C,List.map_set]
  have:(m.map (·.1)).set j x=m.map (·.1):=by
   refine List.ext_getElem? fun i=>?_
   rw [List.getElem?_set]
   by_cases e:j=i
   ·subst e; simp [hl]; simpa using (congrArg Prod.fst ((List.getElem?_eq_some_iff.1 hj).2)).symm
   ·rw [if_neg e]
  simp only [this]
  exact h.keys
 ·intro e he
  rw [B] at he
  have hb:e.born∈(es.toList.set j {(es[j]) with key:=kV x,val:=v}).map (·.born):=List.mem_map.2 ⟨e,he,rfl⟩
  rw [D] at hb
  obtain ⟨e',he',hq⟩:=List.mem_map.1 hb
  rw [← hq]; exact h.Ld e' he'
 ·rw [B,D]; exact h.born
/-- m[x] = y -/
theorem iu {t kt et:TypeId} {xm xk xv:Operand} {b:Nat} {x:K} {v:Value} {m m':List (K×Value)} {C':List av} (i:Nat) (hg:ju ops L g=true) (hm:ev L xm=some (.map (some b))) (hk:ev L xk=some (kV x)) (hv:ev L xv=some v)
 (ht:E.P.underlying t=some (.map kt et)) (hkt:uy E.P kt kV) (hC:C[i]? =some (gZ kV b m)) (hm':dK m x v=m') (hC':C.set i (gZ kV b m')=C') (k:RJ E ops Q rest D L C'):
 RJ E ops Q (⟨none,.mapUpdate t xm xk xv,ty,ps,af,g⟩::rest) D L C:=by
 subst hm' hC'
 intro a w A hs
 unfold rq
 rw [if_pos (d_ A hg)]
 obtain ⟨es,c,he,hi⟩:=hs.holds _ (aX hC)
 have B:(getObj b).run E.P w= .ok (.map es c) w:=MapKept.run_getObj_map he
 rcases oU (P:=E.P) (w:=w) (x:=x) hkt hi with ⟨AA,F⟩|⟨j,N,AA,F,J⟩
 ·refine re (w':={w with heap:=w.heap.setIfInBounds b (.map (es.push {key:=kV x,val:=v,born:=c}) (c+1))}) sm ?_ ?_
  ·simp [execOp,A.ev hm,A.ev hk,A.ev hv,Instr.mapUpdate,run_underlying ht,B,iK hkt,AA,MapKept.run_setObj_map _ he]
  ·refine k _ _ ⟨A.defers,A.size,A.at_⟩ (hs.Dg (b:=b) i hC U U (mV _) (fun _ h=>h) ⟨_,_,o3 he,?_⟩)
   have:dK m x v=m++[(x,v)]:=by unfold dK; rw [F]; rfl
   rw [this]; exact hi.push F v
 ·have M:=hi.size
  have G:j<es.size:=by have:=(List.getElem?_eq_some_iff.1 F).1; omega
  have H:(es[j]).key=kV x:=by
   have:=congrArg (fun l=>l[j]?) hi.list
   simp [G,F] at this
   exact this.1
  refine re (w':={w with heap:=w.heap.setIfInBounds b (.map (es.modify j fun e=>{e with key:=kV x,val:=v}) c)}) sm ?_ ?_
  ·simp [execOp,A.ev hm,A.ev hk,A.ev hv,Instr.mapUpdate,run_underlying ht,B,iK hkt,AA,MapKept.run_setObj_map _ he,Instr.keyThatStays,G,H,hkt.bits x]
  ·exact k _ _ ⟨A.defers,A.size,A.at_⟩ (hs.Dg (b:=b) i hC U U (mV _) (fun _ h=>h) ⟨_,_,o3 he,hi.set F J v⟩)
theorem iZ.del {es:Array MapEntry} {c:Nat} {m:List (K×Value)} (h:iZ kV es c m) {x:K} {j:Nat} {v0:Value} (hj:m[j]? =some (x,v0)):iZ kV (es.eraseIdxIfInBounds j) c (cf m x):=by
 have hl:=(List.getElem?_eq_some_iff.1 hj).1
 have D:=h.size
 have A:j<es.size:=by omega
 have B:(es.eraseIdxIfInBounds j).toList=es.toList.eraseIdx j:=by simp [Array.eraseIdxIfInBounds,A]
 have E:cf m x=m.eraseIdx j:=by
  have hn:=h.keys
  clear h D A B
  induction m generalizing j with
  |nil=>simp at hj
  |cons p m ih=>
   obtain ⟨k,v⟩:=p
   simp only [List.map_cons,List.nodup_cons] at hn
   cases j with
   |zero=>
    simp at hj
    obtain ⟨rfl,rfl⟩:=hj
    simp only [cf,List.eraseIdx_zero,List.tail_cons]
    rw [List.filter_cons_of_neg sm]
    refine List.filter_eq_self.2 fun p hp=>?_
    have:p.1≠k:=fun e=>hn.1 (List.mem_map.2 ⟨p,hp,e⟩)
    simpa using this
   |succ j=>
    simp only [List.getElem?_cons_succ] at hj
    have C:k≠x:=fun e=>hn.1 (List.mem_map.2 ⟨_,aX hj,e.symm⟩)
    simp only [cf,List.eraseIdx_cons_succ] at ih ⊢
    rw [List.filter_cons_of_pos (by simpa using C),ih hj (by simpa using (List.getElem?_eq_some_iff.1 hj).1) hn.2]
 have sub:(es.eraseIdxIfInBounds j).toList.Sublist es.toList:=by rw [B]; exact List.eraseIdx_sublist _ _
 refine ⟨?_,?_,fun e he=>h.Ld e (sub.subset he),h.born.sublist (sub.map _)⟩
 ·rw [B,E,ChangeMaps.map_eraseIdx,ChangeMaps.map_eraseIdx,h.list]
 ·rw [E]; exact h.keys.sublist ((List.eraseIdx_sublist _ _).map _)
theorem Et {m:List (K×Value)} {x:K} (h:m.lookup x=none):cf m x=m:=List.filter_eq_self.2 fun p hp=>by simpa using iz.1 h p hp
/-- y, ok := m[x] -/
theorem LI {t kt et:TypeId} {xm xk:Operand} {b:Nat} {x:K} {z:Value} {m:List (K×Value)} (hg:ju ops L g=true) (hm:ev L xm=some (.map (some b))) (hk:ev L xk=some (kV x))
 (ht:E.P.underlying t=some (.map kt et)) (hkt:uy E.P kt kV) (hz:tV E.P et=some z) (hC:jc C (gZ kV b m).holds):
 SD E ops ⟨dst,.lookup t xm xk true,ty,ps,af,g⟩ D L C (.tuple [(m.lookup x).getD z,.bool (m.lookup x).isSome].toArray):=
 dJ hg sm fun a w A hs=>by
  obtain ⟨es,c,he,hi⟩:=hs.has hC
  have B:(getObj b).run E.P w= .ok (.map es c) w:=MapKept.run_getObj_map he
  rcases oU (P:=E.P) (w:=w) (x:=x) hkt hi with ⟨F,G⟩|⟨j,AA,F,G,H⟩
  ·simp [execOp,Instr.lookup,A.ev hm,A.ev hk,run_underlying ht,B,iK hkt,F,G,Ij hz]
  ·simp [execOp,Instr.lookup,A.ev hm,A.ev hk,run_underlying ht,B,iK hkt,F,H]
/-- m[x] -/
theorem Gt {t kt et:TypeId} {xm xk:Operand} {b:Nat} {x:K} {z:Value} {m:List (K×Value)} (hg:ju ops L g=true) (hm:ev L xm=some (.map (some b))) (hk:ev L xk=some (kV x))
 (ht:E.P.underlying t=some (.map kt et)) (hkt:uy E.P kt kV) (hz:tV E.P et=some z) (hC:jc C (gZ kV b m).holds):
 SD E ops ⟨dst,.lookup t xm xk false,ty,ps,af,g⟩ D L C ((m.lookup x).getD z):=
 dJ hg sm fun a w A hs=>by
  obtain ⟨es,c,he,hi⟩:=hs.has hC
  have B:(getObj b).run E.P w= .ok (.map es c) w:=MapKept.run_getObj_map he
  rcases oU (P:=E.P) (w:=w) (x:=x) hkt hi with ⟨F,G⟩|⟨j,AA,F,G,H⟩
  ·simp [execOp,Instr.lookup,A.ev hm,A.ev hk,run_underlying ht,B,iK hkt,F,G,Ij hz]
  ·simp [execOp,Instr.lookup,A.ev hm,A.ev hk,run_underlying ht,B,iK hkt,F,H]
/-- len(m) -/
theorem JE {t kt et:TypeId} {xm:Operand} {b:Nat} {m:List (K×Value)} (hg:ju ops L g=true) (hm:ev L xm=some (.map (some b))) (ht:E.P.underlying t=some (.map kt et)) (hC:jc C (gZ kV b m).holds):
 SD E ops ⟨dst,.call {callee:= .builtin .len,args:= #[xm],argTypes:= #[t]},ty,ps,af,g⟩ D L C (.int .i64 (m.length:Int)):=
 dJ hg sm fun a w B hs=>by
  obtain ⟨es,c,he,hi⟩:=hs.has hC
  have A:(getObj b).run E.P w= .ok (.map es c) w:=MapKept.run_getObj_map he
  simp [execOp,resolve,invoke,builtin,B.ev hm,Builtin.len_,run_underlying ht,A,hi.size,goInt]
theorem jX {β:Type} {t kt et:TypeId} {xm xk:Operand} {b:Nat} {x:K} {f:β→Value} {z:β} {l:List (K×β)} (hg:ju ops L g=true) (hm:ev L xm=some (.map (some b))) (hk:ev L xk=some (kV x))
 (ht:E.P.underlying t=some (.map kt et)) (hkt:uy E.P kt kV) (hz:tV E.P et=some (f z)) (hC:jc C (gZ kV b (bM f l)).holds):
 SD E ops ⟨dst,.lookup t xm xk true,ty,ps,af,g⟩ D L C (.tuple [f ((l.lookup x).getD z),.bool (l.lookup x).isSome].toArray):=by
 have:=LI (dst:=dst) (ty:=ty) (ps:=ps) (af:=af) (D:=D) hg hm hk ht hkt hz hC
 rw [mO] at this
 have A:((l.lookup x).map f).getD (f z)=f ((l.lookup x).getD z):=by cases l.lookup x<;>rfl
 rw [A,Option.isSome_map] at this
 exact this
theorem jS {β:Type} {t kt et:TypeId} {xm xk:Operand} {b:Nat} {x:K} {f:β→Value} {z:β} {l:List (K×β)} (hg:ju ops L g=true) (hm:ev L xm=some (.map (some b))) (hk:ev L xk=some (kV x))
 (ht:E.P.underlying t=some (.map kt et)) (hkt:uy E.P kt kV) (hz:tV E.P et=some (f z)) (hC:jc C (gZ kV b (bM f l)).holds):
 SD E ops ⟨dst,.lookup t xm xk false,ty,ps,af,g⟩ D L C (f ((l.lookup x).getD z)):=by
 have:=Gt (dst:=dst) (ty:=ty) (ps:=ps) (af:=af) (D:=D) hg hm hk ht hkt hz hC
 rw [mO] at this
 have A:((l.lookup x).map f).getD (f z)=f ((l.lookup x).getD z):=by cases l.lookup x<;>rfl
 rw [A] at this
 exact this
theorem x7 {β:Type} {t kt et:TypeId} {xm:Operand} {b:Nat} {f:β→Value} {l:List (K×β)} (hg:ju ops L g=true) (hm:ev L xm=some (.map (some b))) (ht:E.P.underlying t=some (.map kt et)) (hC:jc C (gZ kV b (bM f l)).holds):
 SD E ops ⟨dst,.call {callee:= .builtin .len,args:= #[xm],argTypes:= #[t]},ty,ps,af,g⟩ D L C (.int .i64 (l.length:Int)):=by
 have:=JE (dst:=dst) (ty:=ty) (ps:=ps) (af:=af) (D:=D) hg hm ht hC
 rwa [HE] at this
end
theorem cW {β:Type} {x:K} {y:β} {l:List (K×β)} (h:(x,y)∈l):(cf l x).length<l.length:=by
 unfold cf
 exact List.length_filter_lt_length_iff_exists.2 ⟨_,h,sm⟩
theorem jv {β:Type} {x:K} {p:K×β} {l:List (K×β)}:p∈cf l x↔p∈l∧p.1≠x:=by simp [cf]
/-- an iterator over a map: what is left; what came last -/
def yD (kV:K→Value) (r b:Nat) (m left:List (K×Value)) (cur:Option (K×Value)):av where
 fp k:=k=r∨k=b
 wf k:=k=r∨k=b
 holds w:=r≠b∧ ∃ (es:Array MapEntry) (c since:Nat) (seen:Array Nat) (st:Nat),w.heap[b]? =some (.map es c)∧iZ kV es c m∧w.heap[r]? =some (.mapIter (some b) since seen st)∧(∀ e∈es.toList,e.born<since)∧since≤st∧since≤c∧
  (leftOf es seen).toList.map (fun (e:MapEntry)=>(e.key,e.val))=left.map (fun p=>(kV p.1,p.2))∧
  ∀ p,cur=some p→ ∃ (e:MapEntry) (seen0:Array Nat),e∈es.toList∧seen=seen0.push e.born∧st=c∧e.key=kV p.1∧e.val=p.2
 wr:=true
 kv _ h:=h
 whole _ _ h:=h
 lt w h k hk:=by
  obtain ⟨_,es,c,since,seen,st,h1,_,h2,_⟩:=h
  rcases hk with rfl|rfl
  ·exact ek h2
  ·exact ek h1
 oq w w' hk h:=by
  obtain ⟨hne,es,c,since,seen,st,h1,h2,h3,h4⟩:=h
  exact ⟨hne,es,c,since,seen,st,(hk b (.inr rfl)).trans h1,h2,(hk r (.inl rfl)).trans h3,h4⟩
theorem xq {r b:Nat} {m left:List (K×Value)} {cur:Option (K×Value)}:(∀ w,(yD kV r b m left cur).holds w→(yD kV r b m left none).holds w)∧(∀ k,(yD kV r b m left none).fp k→(yD kV r b m left cur).fp k)∧ ∀ k,(yD kV r b m left none).wf k→(yD kV r b m left cur).wf k:=
 ⟨fun w h=>by
  obtain ⟨A,es,c,since,seen,st,B,C,D,E,F,h5',G,_⟩:=h
  exact ⟨A,es,c,since,seen,st,B,C,D,E,F,h5',G,fun p hp=>by cases hp⟩,fun _ h=>h,fun _ h=>h⟩
theorem Jn {r b:Nat} {m left:List (K×Value)} {cur:Option (K×Value)}:(∀ w,(yD kV r b m left cur).holds w→(gZ kV b m).holds w)∧(∀ k,(gZ kV b m).fp k→(yD kV r b m left cur).fp k)∧ ∀ k,(gZ kV b m).wf k→(yD kV r b m left cur).wf k:=
 ⟨fun w h=>by
  obtain ⟨C,es,c,since,seen,st,A,B,_⟩:=h
  exact ⟨es,c,A,B⟩,fun _ h=> .inr h,fun _ h=> .inr h⟩
theorem Cv {es:Array MapEntry} {c:Nat} {m:List (K×Value)} (hinj: ∀ x y,kV x=kV y→x=y) (hi:iZ kV es c m) {x y:MapEntry} (hx:x∈es.toList) (hy:y∈es.toList) (e:x.key=y.key):x=y:=by
 have hk:(es.toList.map (·.key))=(m.map (·.1)).map kV:=by
  have:=congrArg (List.map Prod.fst) hi.list
  simpa [Function.comp_def] using this
 have h:(es.toList.map (·.key)).Nodup:=by
  rw [hk,List.nodup_iff_pairwise_ne,List.pairwise_map]
  exact hi.keys.imp (fun B he=>B (hinj _ _ he))
 obtain ⟨i,A⟩:=List.getElem?_of_mem hx
 obtain ⟨j,hj⟩:=List.getElem?_of_mem hy
 have C:(es.toList.map (·.key))[i]? =some x.key:=by rw [fB,A]; rfl
 have D:(es.toList.map (·.key))[j]? =some x.key:=by rw [fB,hj,e]; rfl
 have E:=(List.getElem?_inj (List.getElem?_eq_some_iff.1 C).1 h).1 (C.trans D.symm)
 subst E
 exact Option.some.inj (A.symm.trans hj)
section
variable {E:ff} {ops:Array Oper} {Q:cZ} {rest:List Oper} {D:List Deferred} {L:List (Nat×Value)} {C:List av}
variable {dst:Option Tmp} {d:Nat} {ty:TypeId} {ps:String} {af:Array Edge} {g:Option (Nat×Bool)}
theorem uO {t kt et:TypeId} {xm:Operand} {b:Nat} {m:List (K×Value)} (i:Nat) (hg:ju ops L g=true) (hm:ev L xm=some (.map (some b))) (ht:E.P.underlying t=some (.map kt et)) (hC:C[i]? =some (gZ kV b m)) (hd:Nat.blt d E.n=true)
 (k: ∀ r,RJ E ops Q rest D ((d,.pointer (some ⟨r,0,none⟩))::L) (C.set i (yD kV r b m m none))):RJ E ops Q (⟨some d,.range t xm,ty,ps,af,g⟩::rest) D L C:=by
 intro a w A hs
 have hd':d<E.n:=by rw [← Nat.blt_eq]; exact hd
 unfold rq
 rw [if_pos (d_ A hg)]
 obtain ⟨es,c,he,hi⟩:=hs.holds _ (aX hC)
 have F:b<w.heap.size:=ek he
 have B:(getObj b).run E.P w= .ok (.map es c) w:=MapKept.run_getObj_map he
 refine gQ (v:= .pointer (some ⟨w.heap.size,0,none⟩)) (w':=w.alloc (.mapIter (some b) c #[] c)) sm ?_ ?_
 ·simp [execOp,Instr.range,A.ev hm,run_underlying ht,B,newObj,Sem.run]
 ·refine k _ _ _ (A.put hd' _) (hs.mv i hC ⟨⟨om,es,c,c,#[],c,?_,hi,heap_alloc_new w _,hi.Ld,Nat.le_refl _,Nat.le_refl _,?_,fun p hp=>by cases hp⟩,dY.alloc _ w _,fun q hq=>?_,fun q hq=>?_⟩)
  ·rw [Below.heap_alloc w _ b F]; exact he
  ·have:leftOf es #[]=es:=by unfold leftOf; exact Array.filter_eq_self.2 sm
   rw [this]; exact hi.list
  ·rcases hq with rfl|rfl
   ·exact .inr (Nat.le_refl _)
   ·exact .inl U
  ·rcases hq with rfl|rfl
   ·exact .inr (Nat.le_refl _)
   ·exact .inl U
theorem wy {es:Array MapEntry} {c:Nat} {m left:List (K×Value)} {seen:Array Nat} (hinj: ∀ x y,kV x=kV y→x=y) (hi:iZ kV es c m) (h:(leftOf es seen).toList.map (fun (e:MapEntry)=>(e.key,e.val))=left.map (fun p=>(kV p.1,p.2))):(left.map (·.1)).Nodup:=by
 have B:((leftOf es seen).toList.map (·.key)).Sublist (es.toList.map (·.key)):=by
  unfold leftOf; rw [Array.toList_filter]; exact List.filter_sublist.map _
 have D:(es.toList.map (·.key))=(m.map (·.1)).map kV:=by
  have:=congrArg (List.map Prod.fst) hi.list
  simpa [Function.comp_def] using this
 have E:((leftOf es seen).toList.map (·.key))=(left.map (·.1)).map kV:=by
  have:=congrArg (List.map Prod.fst) h
  simpa [Function.comp_def] using this
 rw [D,E] at B
 have F:((m.map (·.1)).map kV).Nodup:=by
  rw [List.nodup_iff_pairwise_ne,List.pairwise_map]
  exact hi.keys.imp (fun A he=>A (hinj _ _ he))
 have C:=F.sublist B
 rw [List.nodup_iff_pairwise_ne,List.pairwise_map] at C
 rw [List.nodup_iff_pairwise_ne]
 exact C.imp (fun A he=>A (by rw [he]))
theorem JH (hinj: ∀ x y,kV x=kV y→x=y) {xi:Operand} {r b:Nat} {m left:List (K×Value)} {cur:Option (K×Value)} (i:Nat) (hg:ju ops L g=true) (hm:ev L xi=some (.pointer (some ⟨r,0,none⟩))) (hC:C[i]? =some (yD kV r b m left cur)) (hd:Nat.blt d E.n=true)
 (k0:left=[]→RJ E ops Q rest D ((d,.tuple [.bool false].toArray)::L) C)
 (k1: ∀ x v,(x,v)∈left→(left.map (·.1)).Nodup→RJ E ops Q rest D ((d,.tuple [.bool true,kV x,v].toArray)::L) (C.set i (yD kV r b m (cf left x) (some (x,v))))):
 RJ E ops Q (⟨some d,.next xi false,ty,ps,af,g⟩::rest) D L C:=by
 intro a w G hs
 have hd':d<E.n:=by rw [← Nat.blt_eq]; exact hd
 unfold rq
 rw [if_pos (d_ G hg)]
 obtain ⟨R,es,c,since,seen,st,X,hi,Y,J,V,M,A,_⟩:=hs.holds _ (aX hC)
 rcases run_next_at (P:=E.P) w ty r b since st seen es c Y X J V with ⟨Z,hr⟩|⟨e,he,N,H,hr⟩
 ·refine gQ (v:= .tuple #[.bool false]) (w':=w) sm ?_ ?_
  ·simp [execOp,G.ev hm,hr]
  ·refine k0 ?_ _ _ (G.put hd' _) hs
   have:(leftOf es seen).toList=[]:=by rw [← List.length_eq_zero_iff,Array.length_toList]; exact Z
   rw [this] at A
   exact List.map_eq_nil_iff.1 A.symm
 ·have O:(e.key,e.val)∈left.map (fun p=>(kV p.1,p.2)):=by rw [← A]; exact List.mem_map.2 ⟨e,he,rfl⟩
  obtain ⟨p,hp,S⟩:=List.mem_map.1 O
  obtain ⟨x,v⟩:=p
  simp only [Prod.mk.injEq] at S
  obtain ⟨hk,hv⟩:=S
  refine gQ (v:= .tuple #[.bool true,e.key,e.val]) (w':=ChangeMaps.setBlock N r (.mapIter (some b) since (seen.push e.born) c)) sm ?_ ?_
  ·simp [execOp,G.ev hm,hr]
  ·rw [← hk,← hv]
   have AA:=wy hinj hi A
   have F:e∈es.toList:=by unfold leftOf at he; rw [Array.toList_filter] at he; exact (List.mem_filter.1 he).1
   have f:c=c:=rfl
   have B:N.heap=w.heap:=by rcases H with rfl|rfl<;>rfl
   refine k1 x v hp AA _ _ (G.put hd' _) (hs.mv i hC ⟨⟨R,es,c,since,seen.push e.born,c,?_,hi,?_,J,M,M,?_,fun q hq=>?_⟩,?_,fun q hq=> .inl hq,fun q hq=> .inl hq⟩)
   ·show (N.heap.setIfInBounds r _)[b]? =_
    rw [Array.getElem?_setIfInBounds_ne R,B]; exact X
   ·show (N.heap.setIfInBounds r _)[r]? =_
    rw [Array.getElem?_setIfInBounds_self_of_lt (by rw [B]; exact ek Y)]
   ·have T:leftOf es (seen.push e.born)=(leftOf es seen).filter (fun z=> !(z.born==e.born)):=by
     unfold leftOf
     rw [Array.filter_filter]
     congr 1
     funext z
     simp only [Array.contains_push,Bool.not_or]
     rw [Bool.and_comm]
    rw [T,Array.toList_filter]
    have key: ∀ (l:List MapEntry) (ll:List (K×Value)),(∀ z∈l,z∈es.toList)→l.map (fun (e:MapEntry)=>(e.key,e.val))=ll.map (fun p=>(kV p.1,p.2))→
     (l.filter (fun z=> !(z.born==e.born))).map (fun (e:MapEntry)=>(e.key,e.val))=(cf ll x).map (fun p=>(kV p.1,p.2)):=by
     intro l
     induction l with
     |nil=>intro ll _ h; cases ll with
      |nil=>rfl
      |cons p ll=>simp at h
     |cons z l ih=>
      intro ll hz h
      cases ll with
      |nil=>simp at h
      |cons p ll=>
       simp only [List.map_cons,List.cons.injEq,Prod.mk.injEq] at h
       have ih':=ih ll (fun y hy=>hz y (by simp [hy])) h.2
       have AB:(z.born=e.born)↔(p.1=x):=by
        constructor
        ·intro hb
         have:z=e:=Dc hi.born (hz z sm) F hb
         rw [this] at h
         have:=h.1.1.symm.trans hk.symm
         exact hinj _ _ this
        ·intro hx
         have W:z.key=e.key:=by rw [h.1.1,hx,hk]
         rw [Cv hinj hi (hz z sm) F W]
       unfold cf at ih' ⊢
       by_cases hx:p.1=x
       ·rw [List.filter_cons_of_neg (by simp [AB.2 hx]),List.filter_cons_of_neg (by simp [hx])]; exact ih'
       ·rw [List.filter_cons_of_pos (by simpa using fun hb=>hx (AB.1 hb)),List.filter_cons_of_pos (by simpa using hx)]
        simp only [List.map_cons,h.1.1,h.1.2,ih']
    exact key _ _ (fun z hz=>by unfold leftOf at hz; rw [Array.toList_filter] at hz; exact (List.mem_filter.1 hz).1) A
   ·cases hq
    exact ⟨e,seen,F,U,U,hk.symm,hv.symm⟩
   ·refine ⟨?_,?_,?_,?_,fun q hq hn=>?_⟩
    ·rcases H with rfl|rfl<;>rfl
    ·rcases H with rfl|rfl<;>rfl
    ·rcases H with rfl|rfl<;>rfl
    ·show w.heap.size≤(N.heap.setIfInBounds r _).size
     simp [B]
    ·show (N.heap.setIfInBounds r _)[q]? =_
     rw [Array.getElem?_setIfInBounds_ne (fun e=>hn (.inl e.symm)),B]
theorem sr {xi:Operand} {r b:Nat} {m left:List (K×Value)} {x:K} {v:Value} (i:Nat) (hg:ju ops L g=true) (hm:ev L xi=some (.pointer (some ⟨r,0,none⟩))) (hC:C[i]? =some (yD kV r b m left (some (x,v)))):
 SD E ops ⟨dst,.entry xi,ty,ps,af,g⟩ D L C (.tuple [kV x,v].toArray):=
 dJ hg sm fun a w F hs=>by
  obtain ⟨N,es,c,since,seen,st,J,hi,M,H,O,AA,G,B⟩:=hs.holds _ (aX hC)
  obtain ⟨e,A,he,rfl,rfl,hk,hv⟩:=B _ rfl
  have:=run_entry_at (P:=E.P) w r b since A es st e M J he hi.born
  simp [execOp,F.ev hm,this,hk,hv]
theorem rY (hinj: ∀ x y,kV x=kV y→x=y) {β:Type} {f:β→Value} {xi:Operand} {r b:Nat} {m:List (K×Value)} {ll:List (K×β)} {cur:Option (K×Value)} (i:Nat) (hg:ju ops L g=true) (hm:ev L xi=some (.pointer (some ⟨r,0,none⟩))) (hC:C[i]? =some (yD kV r b m (bM f ll) cur)) (hd:Nat.blt d E.n=true)
 (k0:ll=[]→RJ E ops Q rest D ((d,.tuple [.bool false].toArray)::L) C)
 (k1: ∀ x y,(x,y)∈ll→(ll.map (·.1)).Nodup→RJ E ops Q rest D ((d,.tuple [.bool true,kV x,f y].toArray)::L) (C.set i (yD kV r b m (bM f (cf ll x)) (some (x,f y))))):
 RJ E ops Q (⟨some d,.next xi false,ty,ps,af,g⟩::rest) D L C:=by
 refine JH hinj i hg hm hC hd (fun h=>k0 (List.map_eq_nil_iff.1 h)) (fun x v B hn=>?_)
 obtain ⟨p,hp,A⟩:=List.mem_map.1 B
 simp only [Prod.mk.injEq] at A
 obtain ⟨rfl,rfl⟩:=A
 have:=k1 p.1 p.2 hp (by simpa [bM,Function.comp_def] using hn)
 rwa [lD] at this
end
end
end
section
structure bU where
 Start:Int
 gi:Int
 pO:List Int
 uY:List (List (Int×aa))
 bL:Int
 cv:Int
 PN:Int
def bU.n (w:bU):Nat:=w.pO.length
def fq (s:Int):aC:=if s<0 then ⟨0,1⟩ else ⟨1,0⟩
def dq (a b:aC):aC:=⟨a.right+b.right,a.eQ+b.eQ⟩
def sR (w:bU) (b:Nat):List (Int×aa):=(w.uY[b]?).getD []
def il (w:bU) (b:Nat):List (Int×aa):=(-1,⟨w.Start,w.gi⟩)::sR w b
def bV (w:bU) (b:Nat):Int:=(w.pO[b]?).getD 0
def kH (w:bU) (b:Nat) (p:aC×Int) (o:Int×aa):Option (aC×Int):=if max (p.2+bV w b) o.2.Lo≤min o.2.Hi w.gi then some (dq p.1 (fq o.1),max (p.2+bV w b) o.2.Lo) else none
def fwd (w:bU):Nat→List (aC×Int)
 |0=>[(⟨0,0⟩,w.Start)]
 |b+1=>(fwd w b).flatMap fun p=>(il w b).filterMap (kH w b p)
def nN (w:bU) (b:Nat) (p:aC×Int) (o:Int×aa):Option (aC×Int):=if o.2.Lo≤min p.2 o.2.Hi then some (dq p.1 (fq o.1),min p.2 o.2.Hi-bV w b) else none
def bwd (w:bU):Nat→List (aC×Int)
 |0=>[(⟨0,0⟩,w.gi)]
 |k+1=>(⟨0,0⟩,w.gi)::(bwd w k).flatMap fun p=>(il w (w.n-(k+1))).filterMap (nN w (w.n-(k+1)) p)
def back (w:bU) (b:Nat):List (aC×Int):=bwd w (w.n-b)
def ko (w:bU) (t:aC):Bool:=decide (t.eQ≤w.bL∧w.PN-t.right≤w.cv)
theorem fP {w:bU} {b:Nat} {q:aC×Int}:q∈fwd w (b+1)↔ ∃ p∈fwd w b,∃ o∈il w b,kH w b p o=some q:=by
 simp only [fwd,List.mem_flatMap,List.mem_filterMap]
theorem uH {w:bU} {b:Nat} (h:w.n≤b):back w b=[(⟨0,0⟩,w.gi)]:=by
 unfold back; rw [Nat.sub_eq_zero_of_le h]; rfl
theorem oS {w:bU} {b:Nat} (h:b<w.n) {q:aC×Int}:q∈back w b↔q=(⟨0,0⟩,w.gi)∨ ∃ p∈back w (b+1),∃ o∈il w b,nN w b p o=some q:=by
 unfold back
 have e:w.n-b=(w.n-(b+1))+1:=by omega
 rw [e]
 simp only [bwd,eu,List.mem_flatMap,List.mem_filterMap]
 rw [show w.n-(w.n-(b+1)+1)=b by omega]
def tm (m c:List (aC×Int)):Prop:=(∀ t v,m.lookup t=some v→(t,v)∈c)∧ ∀ t y,(t,y)∈c→ ∃ v,m.lookup t=some v∧v≤y
def vi (m c:List (aC×Int)):Prop:=(∀ t v,m.lookup t=some v→(t,v)∈c)∧ ∀ t y,(t,y)∈c→ ∃ v,m.lookup t=some v∧y≤v
def vg (m c:List (aC×Int)):Prop:= ∀ t v,m.lookup t=some v→(t,v)∈c
theorem mJ {K β:Type} [DecidableEq K] {m:List (K×β)} {x t:K} {y:β}:(dK m x y).lookup t=if t=x then some y else m.lookup t:=by
 unfold dK
 by_cases hx:(m.lookup x).isSome
 ·rw [if_pos hx]
  have key: ∀ l:List (K×β),(l.lookup x).isSome∨True→(l.map (fun p=>if p.1=x then (x,y) else p)).lookup t=if t=x then (if (l.lookup x).isSome then some y else none) else l.lookup t:=by
   intro l _
   induction l with
   |nil=>simp
   |cons p l ih=>
    obtain ⟨k,v⟩:=p
    have ih:=ih (.inr trivial)
    by_cases hk:k=x
    ·subst hk
     by_cases ht:t=k
     ·subst ht; simp [List.lookup]
     ·have:(t==k)=false:=by simpa using ht
      simp only [List.map_cons,if_true,List.lookup,this,ih,if_neg ht]
    ·have hk':(x==k)=false:=by simpa using fun e=>hk e.symm
     by_cases ht:t=k
     ·subst ht; simp [List.lookup,hk]
     ·have A:(t==k)=false:=by simpa using ht
      simp only [List.map_cons,if_neg hk,List.lookup,A,ih,hk']
  rw [key m (.inr trivial)]
  by_cases ht:t=x
  ·subst ht
   rw [if_pos rfl,if_pos rfl,if_pos hx]
  ·rw [if_neg ht,if_neg ht]
 ·rw [if_neg hx]
  have hn:m.lookup x=none:=by cases h0:m.lookup x with
   |none=>rfl
   |some v=>exact absurd (by rw [h0]; rfl) hx
  by_cases ht:t=x
  ·subst ht
   rw [if_pos rfl]
   have:=iz.1 hn
   clear hn hx
   induction m with
   |nil=>simp
   |cons p m ih=>
    obtain ⟨k,v⟩:=p
    have hk:(t==k)=false:=by simpa using fun e=>this (k,v) sm e.symm
    simp only [List.cons_append,List.lookup,hk]
    exact ih (fun q hq=>this q (cS _ hq))
  ·rw [if_neg ht]
   clear hn hx
   induction m with
   |nil=>
    have:(t==x)=false:=by simpa using ht
    simp [List.lookup,this]
   |cons p m ih=>
    obtain ⟨k,v⟩:=p
    by_cases hk:t=k
    ·subst hk; simp [List.lookup]
    ·have:(t==k)=false:=by simpa using hk
     simp only [List.cons_append,List.lookup,this]
     exact ih
/-- what a map is after a try -/
def o2 (m:List (aC×Int)) (q:aC×Int):List (aC×Int):=match m.lookup q.1 with
 |none=>dK m q.1 q.2
 |some v=>if q.2<v then dK m q.1 q.2 else m
def oI (m:List (aC×Int)) (q:aC×Int):List (aC×Int):=match m.lookup q.1 with
 |none=>dK m q.1 q.2
 |some v=>if v<q.2 then dK m q.1 q.2 else m
theorem xy {m:List (aC×Int)} {q:aC×Int} {t:aC}:(o2 m q).lookup t=if t=q.1 then some (match m.lookup q.1 with |none=>q.2|some v=>min q.2 v) else m.lookup t:=by
 unfold o2
 cases h:m.lookup q.1 with
 |none=>simp only; rw [mJ]
 |some v=>
  simp only
  split
  ·rename_i A
   rw [mJ,Int.min_eq_left om]
  ·rename_i A
   split
   ·rename_i e; subst e; rw [h,Int.min_eq_right om]
   ·rfl
theorem xR {m:List (aC×Int)} {q:aC×Int} {t:aC}:(oI m q).lookup t=if t=q.1 then some (match m.lookup q.1 with |none=>q.2|some v=>max q.2 v) else m.lookup t:=by
 unfold oI
 cases h:m.lookup q.1 with
 |none=>simp only; rw [mJ]
 |some v=>
  simp only
  split
  ·rename_i A
   rw [mJ,Int.max_eq_left om]
  ·rename_i A
   split
   ·rename_i e; subst e; rw [h,Int.max_eq_right om]
   ·rfl
def wk (m m':List (aC×Int)):Prop:= ∀ t v,m.lookup t=some v→ ∃ v',m'.lookup t=some v'∧v'≤v
def wR (m m':List (aC×Int)):Prop:= ∀ t v,m.lookup t=some v→ ∃ v',m'.lookup t=some v'∧v≤v'
theorem wk.refl (m:List (aC×Int)):wk m m:=fun t v h=>⟨v,h,om⟩
theorem wR.refl (m:List (aC×Int)):wR m m:=fun t v h=>⟨v,h,om⟩
theorem uT {m:List (aC×Int)} {q:aC×Int}:wk m (o2 m q):=fun t v h=>by
 rw [xy]
 split
 ·rename_i e; subst e; rw [h]; exact ⟨_,rfl,by simp only; omega⟩
 ·exact ⟨v,h,om⟩
theorem qE {m:List (aC×Int)} {q:aC×Int}:wR m (oI m q):=fun t v h=>by
 rw [xR]
 split
 ·rename_i e; subst e; rw [h]; exact ⟨_,rfl,by simp only; omega⟩
 ·exact ⟨v,h,om⟩
theorem Gz {m c:List (aC×Int)} {q:aC×Int} (h:vg m c) (hq:q∈c):vg (o2 m q) c:=fun t v hv=>by
 rw [xy] at hv
 split at hv
 ·rename_i e
  subst e
  cases hm:m.lookup q.1 with
  |none=>simp only [hm,Option.some.injEq] at hv; subst hv; exact hq
  |some x=>
   simp only [hm,Option.some.injEq] at hv; subst hv
   rcases Int.lt_or_le q.2 x with A|A
   ·rw [Int.min_eq_left om]; exact hq
   ·rw [Int.min_eq_right om]; exact h _ _ hm
 ·exact h t v hv
theorem G_ {m c:List (aC×Int)} {q:aC×Int} (h:vg m c) (hq:q∈c):vg (oI m q) c:=fun t v hv=>by
 rw [xR] at hv
 split at hv
 ·rename_i e
  subst e
  cases hm:m.lookup q.1 with
  |none=>simp only [hm,Option.some.injEq] at hv; subst hv; exact hq
  |some x=>
   simp only [hm,Option.some.injEq] at hv; subst hv
   rcases Int.lt_or_le q.2 x with A|A
   ·rw [Int.max_eq_right om]; exact h _ _ hm
   ·rw [Int.max_eq_left om]; exact hq
 ·exact h t v hv
theorem Hk {m:List (aC×Int)} {q:aC×Int}: ∃ v,(o2 m q).lookup q.1=some v∧v≤q.2:=by
 rw [xy,if_pos rfl]
 refine ⟨_,U,?_⟩
 cases m.lookup q.1<;>simp only <;>omega
theorem G5 {m:List (aC×Int)} {q:aC×Int}: ∃ v,(oI m q).lookup q.1=some v∧q.2≤v:=by
 rw [xR,if_pos rfl]
 refine ⟨_,U,?_⟩
 cases m.lookup q.1<;>simp only <;>omega
/-- all that comes of one entry, by some options, is held -/
def iT (w:bU) (b:Nat) (m:List (aC×Int)) (p:aC×Int) (os:List (Int×aa)):Prop:= ∀ o∈os,∀ q,kH w b p o=some q→ ∃ v,m.lookup q.1=some v∧v≤q.2
def i_ (w:bU) (b:Nat) (m:List (aC×Int)) (p:aC×Int) (os:List (Int×aa)):Prop:= ∀ o∈os,∀ q,nN w b p o=some q→ ∃ v,m.lookup q.1=some v∧q.2≤v
theorem iT.lower {w:bU} {b:Nat} {m m':List (aC×Int)} {p:aC×Int} {os:List (Int×aa)} (h:iT w b m p os) (hl:wk m m'):iT w b m' p os:=fun o ho q hq=>by
 obtain ⟨v,A,C⟩:=h o ho q hq
 obtain ⟨v',B,D⟩:=hl _ _ A
 exact ⟨v',B,om⟩
theorem i_.upper {w:bU} {b:Nat} {m m':List (aC×Int)} {p:aC×Int} {os:List (Int×aa)} (h:i_ w b m p os) (hl:wR m m'):i_ w b m' p os:=fun o ho q hq=>by
 obtain ⟨v,A,C⟩:=h o ho q hq
 obtain ⟨v',B,D⟩:=hl _ _ A
 exact ⟨v',B,om⟩
theorem iT.sub {w:bU} {b:Nat} {m:List (aC×Int)} {p:aC×Int} {os os':List (Int×aa)} (h:iT w b m p os) (hs: ∀ o∈os',o∈os):iT w b m p os':=fun o ho=>h o (hs o ho)
theorem i_.sub {w:bU} {b:Nat} {m:List (aC×Int)} {p:aC×Int} {os os':List (Int×aa)} (h:i_ w b m p os) (hs: ∀ o∈os',o∈os):i_ w b m p os':=fun o ho=>h o (hs o ho)
theorem iT.add {w:bU} {b:Nat} {m m':List (aC×Int)} {p:aC×Int} {os:List (Int×aa)} {o:Int×aa} (h:iT w b m p os) (hl:wk m m') (hn: ∀ q,kH w b p o=some q→ ∃ v,m'.lookup q.1=some v∧v≤q.2):iT w b m' p (os++[o]):=fun o' ho q hq=>by
 rcases List.mem_append.1 ho with ho|ho
 ·exact h.lower hl o' ho q hq
 ·simp only [bW] at ho; subst ho; exact hn q hq
theorem i_.add {w:bU} {b:Nat} {m m':List (aC×Int)} {p:aC×Int} {os:List (Int×aa)} {o:Int×aa} (h:i_ w b m p os) (hl:wR m m') (hn: ∀ q,nN w b p o=some q→ ∃ v,m'.lookup q.1=some v∧q.2≤v):i_ w b m' p (os++[o]):=fun o' ho q hq=>by
 rcases List.mem_append.1 ho with ho|ho
 ·exact h.upper hl o' ho q hq
 ·simp only [bW] at ho; subst ho; exact hn q hq
theorem fy {m:List (aC×Int)} (hn:(m.map (·.1)).Nodup) {t:aC} {v:Int}:(t,v)∈m↔m.lookup t=some v:=iB hn
theorem oZ {z t:aC} {x v:Int}:List.lookup t [(z,x)]=some v↔t=z∧v=x:=by
 by_cases e:t=z
 ·subst e; simp [List.lookup,eq_comm]
 ·have:(t==z)=false:=by simpa using e
  simp [List.lookup,this,e]
theorem Gs {w:bU}:tm [(⟨0,0⟩,w.Start)] (fwd w 0):=by
 refine ⟨fun t v h=>?_,fun t y h=>?_⟩
 ·obtain ⟨rfl,rfl⟩:=oZ.1 h
  simp [fwd]
 ·simp only [fwd,bW,Prod.mk.injEq] at h
  obtain ⟨rfl,rfl⟩:=h
  exact ⟨w.Start,oZ.2 ⟨U,U⟩,Int.le_refl _⟩
theorem Jp {w:bU} {b:Nat} {mb m:List (aC×Int)} (hn:(mb.map (·.1)).Nodup) (h:tm mb (fwd w b)) (hs:vg m (fwd w (b+1))) (hd: ∀ p∈mb,iT w b m p (il w b)):tm m (fwd w (b+1)):=⟨hs,fun t y hy=>by
 obtain ⟨p,hp,o,ho,e⟩:=fP.1 hy
 obtain ⟨v,B,E⟩:=h.2 p.1 p.2 hp
 unfold kH at e
 split at e
 ·rename_i D
  simp only [Option.some.injEq,Prod.mk.injEq] at e
  obtain ⟨v',A,C⟩:=hd (p.1,v) ((fy hn).2 B) o ho (dq p.1 (fq o.1),max (v+bV w b) o.2.Lo) (by unfold kH; rw [if_pos (by simp only; omega)])
  simp only at A C
  rw [e.1] at A
  exact ⟨v',A,om⟩
 ·cases e⟩
theorem IP {w:bU} {b:Nat} (hb:w.n≤b):vi [(⟨0,0⟩,w.gi)] (back w b):=by
 rw [uH hb]
 refine ⟨fun t v h=>?_,fun t y h=>?_⟩
 ·obtain ⟨rfl,rfl⟩:=oZ.1 h
  simp
 ·simp only [bW,Prod.mk.injEq] at h
  obtain ⟨rfl,rfl⟩:=h
  exact ⟨w.gi,oZ.2 ⟨U,U⟩,Int.le_refl _⟩
theorem Ja {w:bU} {b:Nat} (hb:b<w.n) {mb m:List (aC×Int)} (hn:(mb.map (·.1)).Nodup) (h:vi mb (back w (b+1))) (hs:vg m (back w b)) (h0: ∃ v,m.lookup ⟨0,0⟩=some v∧w.gi≤v) (hd: ∀ p∈mb,i_ w b m p (il w b)):vi m (back w b):=⟨hs,fun t y hy=>by
 rcases (oS hb).1 hy with e|⟨p,hp,o,ho,e⟩
 ·simp only [Prod.mk.injEq] at e
  obtain ⟨rfl,rfl⟩:=e
  exact h0
 obtain ⟨v,B,E⟩:=h.2 p.1 p.2 hp
 unfold nN at e
 split at e
 ·rename_i D
  simp only [Option.some.injEq,Prod.mk.injEq] at e
  obtain ⟨v',A,C⟩:=hd (p.1,v) ((fy hn).2 B) o ho (dq p.1 (fq o.1),min v o.2.Hi-bV w b) (by unfold nN; rw [if_pos (by simp only; omega)])
  simp only at A C
  rw [e.1] at A
  exact ⟨v',A,om⟩
 ·cases e⟩
end
section
def jq (w:bU) (b:Nat) (p u:aC×Int) (o:Int×aa):aa:=⟨max (p.2+bV w b) o.2.Lo,min u.2 o.2.Hi⟩
def xU (p u:aC×Int) (o:Int×aa):aC:=dq (dq p.1 u.1) (fq o.1)
def l6 (w:bU) (b:Nat) (p u:aC×Int) (o:Int×aa):Option (Int×aa):=if (jq w b p u o).Lo≤(jq w b p u o).Hi∧ko w (xU p u o)=true then some (o.1,jq w b p u o) else none
def pQ (w:bU) (b:Nat) (mf mb:List (aC×Int)):List (Int×aa):=(il w b).flatMap fun o=>mf.flatMap fun p=>mb.filterMap fun u=>l6 w b p u o
def ml (w:bU) (b:Nat):List (Int×aa):=pQ w b (fwd w b) (back w (b+1))
theorem hO {w:bU} {b:Nat} {mf mb:List (aC×Int)} {q:Int×aa}:q∈pQ w b mf mb↔ ∃ o∈il w b,∃ p∈mf,∃ u∈mb,l6 w b p u o=some q:=by
 simp only [pQ,List.mem_flatMap,List.mem_filterMap]
theorem jn {w:bU} {b:Nat} {p u:aC×Int} {o q:Int×aa}:l6 w b p u o=some q↔(jq w b p u o).Lo≤(jq w b p u o).Hi∧ko w (xU p u o)=true∧q=(o.1,jq w b p u o):=by
 unfold l6
 split
 ·rename_i h
  simp only [Option.some.injEq]
  exact ⟨fun e=>⟨h.1,h.2,e.symm⟩,fun e=>e.2.2.symm⟩
 ·rename_i h
  simp only [reduceCtorEq,false_iff]
  exact fun e=>h ⟨e.1,e.2.1⟩
theorem mK {w:bU} {b:Nat} {mf mb:List (aC×Int)} {q:Int×aa} (h:q∈pQ w b mf mb):q.2.Lo≤q.2.Hi:=by
 obtain ⟨o,_,p,_,u,_,e⟩:=hO.1 h
 obtain ⟨A,_,rfl⟩:=jn.1 e
 exact A
/-- what the maps tell is what all ways tell -/
theorem MQ {w:bU} {b:Nat} {mf mb:List (aC×Int)} (hf:tm mf (fwd w b)) (hb:vi mb (back w (b+1))) (nf:(mf.map (·.1)).Nodup) (nb:(mb.map (·.1)).Nodup) {q:Int×aa} (h:q∈pQ w b mf mb):q∈ml w b:=by
 obtain ⟨o,ho,p,hp,u,hu,e⟩:=hO.1 h
 exact hO.2 ⟨o,ho,p,hf.1 _ _ ((fy nf).1 hp),u,hb.1 _ _ ((fy nb).1 hu),e⟩
theorem Ka {w:bU} {b:Nat} {mf mb:List (aC×Int)} (hf:tm mf (fwd w b)) (hb:vi mb (back w (b+1))) (nf:(mf.map (·.1)).Nodup) (nb:(mb.map (·.1)).Nodup) {q:Int×aa} (h:q∈ml w b): ∃ q'∈pQ w b mf mb,q'.1=q.1∧q'.2.Lo≤q.2.Lo∧q.2.Hi≤q'.2.Hi:=by
 obtain ⟨o,ho,p,hp,u,hu,e⟩:=hO.1 h
 obtain ⟨A,B,rfl⟩:=jn.1 e
 obtain ⟨v,hv,C⟩:=hf.2 p.1 p.2 hp
 obtain ⟨y,hy,D⟩:=hb.2 u.1 u.2 hu
 simp only [jq] at A
 refine ⟨(o.1,jq w b (p.1,v) (u.1,y) o),hO.2 ⟨o,ho,(p.1,v),(fy nf).2 hv,(u.1,y),(fy nb).2 hy,jn.2 ⟨?_,B,U⟩⟩,U,?_,?_⟩
 ·simp only [jq]; omega
 ·simp only [jq]; omega
 ·simp only [jq]; omega
def mx:aa:=⟨1,0⟩
def l_ (h x:aa):aa:=if h=mx then x else ⟨min x.Lo h.Lo,max x.Hi h.Hi⟩
def uQ (l:List (Int×aa)):aa:=l.foldl (fun h q=>l_ h q.2) mx
structure ou (l:List (Int×aa)) (h:aa):Prop where
 le:h.Lo≤h.Hi
 lo: ∃ x∈l,x.2.Lo=h.Lo
 hi: ∃ x∈l,x.2.Hi=h.Hi
 all: ∀ x∈l,h.Lo≤x.2.Lo∧x.2.Hi≤h.Hi
def ke (l:List (Int×aa)) (h:aa):Prop:=(l=[]∧h=mx)∨ou l h
theorem ou.ne {l:List (Int×aa)} {h:aa} (hh:ou l h):h≠mx:=fun e=>by
 have:=hh.le; rw [e] at this; simp [mx] at this
theorem BA:ke [] mx:= .inl ⟨rfl,rfl⟩
theorem tU {l:List (Int×aa)} {h:aa} {q:Int×aa} (hh:ke l h) (hq:q.2.Lo≤q.2.Hi):ke (l++[q]) (l_ h q.2):=by
 right
 rcases hh with ⟨rfl,rfl⟩|hh
 ·unfold l_
  rw [if_pos rfl]
  exact ⟨hq,⟨q,sm,rfl⟩,⟨q,sm,rfl⟩,fun x hx=>by simp at hx; subst hx; exact ⟨Int.le_refl _,Int.le_refl _⟩⟩
 ·unfold l_
  rw [if_neg hh.ne]
  have A:=hh.le
  obtain ⟨a,ha,ea⟩:=hh.lo
  obtain ⟨c,hc,ec⟩:=hh.hi
  refine ⟨by simp only; omega,?_,?_,fun x hx=>?_⟩
  ·rcases Int.lt_or_le q.2.Lo h.Lo with p|p
   ·exact ⟨q,sm,by simp only; omega⟩
   ·exact ⟨a,by simp [ha],by simp only; omega⟩
  ·rcases Int.lt_or_le h.Hi q.2.Hi with p|p
   ·exact ⟨q,sm,by simp only; omega⟩
   ·exact ⟨c,by simp [hc],by simp only; omega⟩
  ·rcases List.mem_append.1 hx with hx|hx
   ·have:=hh.all x hx; simp only; omega
   ·simp at hx; subst hx; simp only; omega
theorem uf {l:List (Int×aa)} (hl: ∀ q∈l,q.2.Lo≤q.2.Hi):ke l (uQ l):=by
 have key: ∀ (r d:List (Int×aa)) (h:aa),(∀ q∈r,q.2.Lo≤q.2.Hi)→ke d h→ke (d++r) (r.foldl (fun h q=>l_ h q.2) h):=by
  intro r
  induction r with
  |nil=>intro d h _ hd; simpa using hd
  |cons q r ih=>
   intro d h hr hd
   have:=ih (d++[q]) (l_ h q.2) (fun x hx=>hr x (cS _ hx)) (tU hd (hr q sm))
   simpa using this
 have:=key l [] mx hl BA
 rw [List.nil_append] at this
 exact this
def Dp (a b:List (Int×aa)):Prop:= ∀ x∈b,∃ y∈a,y.2.Lo≤x.2.Lo∧x.2.Hi≤y.2.Hi
theorem Nh {a b:List (Int×aa)} {h k:aa} (ha:ke a h) (hb:ke b k) (hab:Dp a b) (hba:Dp b a):h=k:=by
 rcases ha with ⟨rfl,rfl⟩|ha
 ·rcases hb with ⟨rfl,rfl⟩|hb
  ·rfl
  ·obtain ⟨x,hx,_⟩:=hb.lo
   obtain ⟨y,hy,_⟩:=hab x hx
   cases hy
 ·rcases hb with ⟨rfl,rfl⟩|hb
  ·obtain ⟨x,hx,_⟩:=ha.lo
   obtain ⟨y,hy,_⟩:=hba x hx
   cases hy
  ·have le: ∀ {a b:List (Int×aa)} {h k:aa},ou a h→ou b k→Dp a b→h.Lo≤k.Lo∧k.Hi≤h.Hi:=fun {a b h k} ha hb hab=>by
    obtain ⟨x,hx,ex⟩:=hb.lo
    obtain ⟨z,hz,ez⟩:=hb.hi
    obtain ⟨y,hy,ey⟩:=hab x hx
    obtain ⟨y',hy',ey'⟩:=hab z hz
    have A:=ha.all y hy
    have B:=ha.all y' hy'
    omega
   have A:=le ha hb hab
   have B:=le hb ha hba
   rw [aa.ext_iff]; omega
theorem zn {w:bU} {b:Nat} {mf mb:List (aC×Int)} {l:List (Int×aa)} {h:aa} (hf:tm mf (fwd w b)) (hb:vi mb (back w (b+1))) (nf:(mf.map (·.1)).Nodup) (nb:(mb.map (·.1)).Nodup)
 (hl: ∀ q∈l,q∈pQ w b mf mb) (hl2: ∀ q∈pQ w b mf mb,q∈l) (hh:ke l h):h=uQ (ml w b):=
 Nh hh (uf fun q hq=>mK hq) (fun x hx=>by
  obtain ⟨q,hq,_,A,B⟩:=Ka hf hb nf nb hx
  exact ⟨q,hl2 q hq,A,B⟩) (fun x hx=>⟨x,MQ hf hb nf nb (hl x hx),Int.le_refl _,Int.le_refl _⟩)
def jm (w:bU) (m:List (aC×Int)):Bool:=m.any fun p=>ko w p.1
theorem CU {w:bU} {b:Nat} {m:List (aC×Int)} (h:tm m (fwd w b)) (nf:(m.map (·.1)).Nodup):jm w m=jm w (fwd w b):=by
 unfold jm
 rw [Bool.eq_iff_iff,List.any_eq_true,List.any_eq_true]
 constructor
 ·rintro ⟨p,hp,A⟩
  exact ⟨p,h.1 _ _ ((fy nf).1 hp),A⟩
 ·rintro ⟨p,hp,A⟩
  obtain ⟨v,hv,_⟩:=h.2 p.1 p.2 hp
  exact ⟨(p.1,v),(fy nf).2 hv,A⟩
def kg (w:bU) (k:Nat):List Int:=((List.range k).filter fun i=>jm w (fwd w i)).map fun (i:Nat)=>(i:Int)
def jC (w:bU):List Int:=kg w (w.n+1)
theorem EO {w:bU} {k:Nat} (h:jm w (fwd w k)=true):kg w (k+1)=kg w k++[(k:Int)]:=by simp [kg,List.range_succ,h]
theorem HC {w:bU} {k:Nat} (h:jm w (fwd w k)=false):kg w (k+1)=kg w k:=by simp [kg,List.range_succ,h]
theorem v9 {w:bU} {k:Nat}:(kg w k).length≤k:=by
 unfold kg
 rw [List.length_map]
 exact Nat.le_trans (List.length_filter_le _ _) sm
end
section
open Go.RowKit
theorem HA {P:Program} {t:Nat} {k:IntKind} (hu:P.underlying t=some (.int k)) (e:Bool) (n:Nat) (v:Value) (w:World):(Instr.checkKey e (n+1) t v).run P w= .ok () w:=by
 unfold Instr.checkKey
 simp only [Sem.run_bind,run_underlying hu,Result.andThen]
 cases v<;>rfl
theorem Aw {P:Program} {kt:Nat} {l:List (Nat×Nat)} (hl:fL P kt=some l) (e:Bool) (n:Nat) (cs:Array Value) (w:World)
 (hf: ∀ p∈l,(∃ v,(part p.1 cs p.2).run P w= .ok v w)∧ ∃ k,P.underlying p.1=some (.int k)):(Instr.checkKey e (n+2) kt (.agg cs)).run P w= .ok () w:=by
 unfold fL at hl
 cases hu:P.underlying kt with
 |none=>simp [hu] at hl
 |some d=>
  cases d<;>simp [hu] at hl
  rename_i fs
  obtain ⟨hn,hl⟩:=hl
  rw [show n+2=(n+1)+1 from rfl,Instr.checkKey]
  simp only [Sem.run_bind,run_underlying hu,Result.andThen_ok]
  rw [← Array.forIn_toList]
  have A: ∀ f∈fs.toList,(∃ v,(part f.type cs f.offset).run P w= .ok v w)∧ ∃ k,P.underlying f.type=some (.int k):=fun f hf'=>hf (f.type,f.offset) (by rw [← hl]; exact List.mem_map.2 ⟨f,hf',rfl⟩)
  have B: ∀ f∈fs.toList,f.name≠"_":=fun f hf'=>by
   obtain ⟨i,hi,rfl⟩:=List.getElem_of_mem hf'
   exact hn.1.1 i (by simpa using hi)
  clear hl hn hf
  generalize fs.toList=L at A B
  induction L with
  |nil=>simp
  |cons f L ih=>
   obtain ⟨⟨v,hv⟩,k,hk⟩:=A f sm
   have C:=B f sm
   simp only [List.forIn_cons,Sem.run_bind,C,ne_eq,not_false_eq_true,if_true,Result.andThen_ok,hv,HA hk,Sem.run_pure]
   exact ih (fun y hy=>A y (by simp [hy])) (fun y hy=>B y (by simp [hy]))
theorem Bz {P:Program} {kt:Nat} {K:Type} [DecidableEq K] {kV:K→Value} (hw: ∀ (k:Value) (es:List MapEntry) (w:World),(Instr.findKey kt k es).run P w=(Instr.findAsking kt k es).run P w)
 (heq: ∀ x y w,(Op.equal kt (kV x) (kV y)).run P w= .ok (decide (x=y)) w) (inj: ∀ x y,kV x=kV y→x=y) (x:K) (w:World) (es:List MapEntry) (hk: ∀ e∈es,∃ k,e.key=kV k):
 ((Instr.findKey kt (kV x) es).run P w= .ok none w∧ ∀ e∈es,e.key≠kV x)∨ ∃ j e,(Instr.findKey kt (kV x) es).run P w= .ok (some (j,e.val)) w∧es[j]? =some e∧e.key=kV x:=by
 have key: ∀ (es:List MapEntry) (i:Nat),(∀ e∈es,∃ k,e.key=kV k)→((Instr.findAsking kt (kV x) es i).run P w= .ok none w∧ ∀ e∈es,e.key≠kV x)∨ ∃ j e,(Instr.findAsking kt (kV x) es i).run P w= .ok (some (i+j,e.val)) w∧es[j]? =some e∧e.key=kV x:=by
  intro es
  induction es with
  |nil=>intro i _; exact .inl ⟨by simp [Instr.findAsking],sm⟩
  |cons e es ih=>
   intro i B
   obtain ⟨k,A⟩:=B e sm
   by_cases h:x=k
   ·refine .inr ⟨0,e,?_,U,by rw [A,h]⟩
    subst h
    simp [Instr.findAsking,A,heq]
   ·rcases ih (i+1) (fun y hy=>B y (by simp [hy])) with ⟨C,D⟩|⟨j,e',C,D,E⟩
    ·refine .inl ⟨by simp [Instr.findAsking,A,heq,h,C],fun y hy=>?_⟩
     rcases List.mem_cons.1 hy with rfl|hy
     ·rw [A]; exact fun q=>h (inj _ _ q).symm
     ·exact D y hy
    ·exact .inr ⟨j+1,e',by simp [Instr.findAsking,A,heq,h,C]; omega,by simpa using D,E⟩
 rw [hw]
 rcases key es 0 hk with h|⟨j,e,C,D,E⟩
 ·exact .inl h
 ·exact .inr ⟨j,e,by simpa using C,D,E⟩
theorem EN {P:Program} {kt:Nat} {l:List (Nat×Nat)} (hl:fL P kt=some l) (k:Value) (es:List MapEntry) (w:World):(Instr.findKey kt k es).run P w=(Instr.findAsking kt k es).run P w:=by
 refine run_findKey_eq w ?_ k es
 unfold fL at hl
 cases hu:P.underlying kt with
 |none=>simp [hu] at hl
 |some d=>cases d<;>simp [hu] at hl ⊢
theorem NX {P:Program} {kt:Nat} {K:Type} [DecidableEq K] {kV:K→Value} {l:List (Nat×Nat)} (hl:fL P kt=some l) (heq: ∀ x y w,(Op.equal kt (kV x) (kV y)).run P w= .ok (decide (x=y)) w) (inj: ∀ x y,kV x=kV y→x=y)
 (hb: ∀ x,Instr.sameBits 10000 (kV x) (kV x)=true) (hp: ∀ x w,∃ cs,kV x= .agg cs∧ ∀ p∈l,(∃ v,(part p.1 cs p.2).run P w= .ok v w)∧ ∃ k,P.underlying p.1=some (.int k)):uy P kt kV:=
 ⟨fun e x w=>by obtain ⟨cs,A,B⟩:=hp x w; rw [A]; exact Aw hl e 9998 cs w B,fun x w es=>Bz (EN hl) heq inj x w es,hb,inj⟩
end
section
open Go.RowKit
set_option linter.unusedSectionVars false
theorem dB {P:Program} {kt:Nat} (hk:P.underlying kt=some (.int .i64)):uy P kt (Value.int .i64):=by
 refine ⟨fun e x w=>Hn hk e,fun x w es A=>?_,fun x=>by simp [Instr.sameBits],fun x y h=>by injection h⟩
 have key: ∀ (es:List MapEntry) (i:Nat),(∀ e∈es,∃ k:Int,e.key= .int .i64 k)→(Instr.findNow (.int .i64) (.int .i64 x) es i=some none∧ ∀ e∈es,e.key≠ .int .i64 x)∨ ∃ j e,Instr.findNow (.int .i64) (.int .i64 x) es i=some (some (i+j,e.val))∧es[j]? =some e∧e.key= .int .i64 x:=by
  intro es
  induction es with
  |nil=>intro i _; exact .inl ⟨rfl,sm⟩
  |cons e es ih=>
   intro i A
   obtain ⟨k,B⟩:=A e sm
   by_cases h:x=k
   ·subst h
    exact .inr ⟨0,e,by simp [Instr.findNow,Instr.sameNow,B],U,B⟩
   ·have hb:(x==k)=false:=by simpa using h
    rcases ih (i+1) (fun y hy=>A y (by simp [hy])) with ⟨C,D⟩|⟨j,e',C,D,E⟩
    ·refine .inl ⟨by simp [Instr.findNow,Instr.sameNow,B,hb,C],fun y hy=>?_⟩
     rcases List.mem_cons.1 hy with rfl|hy
     ·rw [B]; intro q; injection q with _ q; exact h q.symm
     ·exact D y hy
    ·refine .inr ⟨j+1,e',?_,by simpa using D,E⟩
     simp only [Instr.findNow,Instr.sameNow,B,hb,if_true,C]
     simp; omega
 rcases key es 0 A with ⟨C,D⟩|⟨j,e,C,D,E⟩
 ·exact .inl ⟨MapKept.run_findKey hk C,D⟩
 ·exact .inr ⟨j,e,MapKept.run_findKey hk (by simpa using C),D,E⟩
theorem St.My {S:BS} {w0 w w':World} {C:List av} {A N:av} (h:St S w0 C w) (i:Nat) (hA:C[i]? =some A) (k:dY no w w') (hN:N.holds w') (hf: ∀ b,N.fp b→w.heap.size≤b∨A.fp b∧ ¬ A.wf b∧ ¬ N.wf b):St S w0 (N::C) w':=by
 have h':=h.same k
 have G:=aX hA
 have hi:=(List.getElem?_eq_some_iff.1 hA).1
 have B:C[i]=A:=(List.getElem?_eq_some_iff.1 hA).2
 refine ⟨h'.keeps,fun X hX=>?_,List.Pairwise.cons (fun X hX b hb hb'=>?_) h'.sep,fun X hX b hb=>?_,fun X hX b hb=>?_⟩
 ·rcases List.mem_cons.1 hX with rfl|hX
  ·exact hN
  ·exact h'.holds X hX
 ·rcases hf b hb with E|⟨E,AA,H⟩
  ·have:=X.lt w (h.holds X hX) b hb'; omega
  ·refine ⟨H,?_⟩
   obtain ⟨j,hj,D⟩:=List.mem_iff_getElem.1 hX
   by_cases e:j=i
   ·subst e; rw [← D,B]; exact AA
   ·rcases Nat.lt_or_gt_of_ne e with F|F
    ·have:=List.pairwise_iff_getElem.1 h.sep j i hj hi F b (by rw [D]; exact hb') (by rw [B]; exact E)
     rw [← D]; exact this.1
    ·have:=List.pairwise_iff_getElem.1 h.sep i j hi hj F b (by rw [B]; exact E) (by rw [D]; exact hb')
     rw [← D]; exact this.2
 ·rcases List.mem_cons.1 hX with rfl|hX
  ·rcases hf b (X.kv b hb) with E|⟨_,_,H⟩
   ·exact .inl (Nat.le_trans h.keeps.size E)
   ·exact absurd hb H
  ·exact h'.own X hX b hb
 ·rcases List.mem_cons.1 hX with rfl|hX
  ·rcases hf b hb with E|⟨E,_,_⟩
   ·exact .inl (Nat.le_trans h.keeps.size E)
   ·exact h.seen A G b E
  ·exact h'.seen X hX b hb
section
variable {K:Type} [DecidableEq K] {kV:K→Value}
/-- an iterator over a map that is read alone -/
def yd (kV:K→Value) (r b:Nat) (m left:List (K×Value)) (cur:Option (K×Value)):av where
 fp k:=k=r∨k=b
 wf k:=k=r
 holds w:=r≠b∧ ∃ (es:Array MapEntry) (c since:Nat) (seen:Array Nat) (st:Nat),w.heap[b]? =some (.map es c)∧iZ kV es c m∧w.heap[r]? =some (.mapIter (some b) since seen st)∧(∀ e∈es.toList,e.born<since)∧since≤st∧since≤c∧
  (leftOf es seen).toList.map (fun (e:MapEntry)=>(e.key,e.val))=left.map (fun p=>(kV p.1,p.2))∧
  ∀ p,cur=some p→ ∃ (e:MapEntry) (seen0:Array Nat),e∈es.toList∧seen=seen0.push e.born∧st=c∧e.key=kV p.1∧e.val=p.2
 wr:=false
 kv _ h:= .inl h
 whole h:=by cases h
 lt w h k hk:=by
  obtain ⟨_,es,c,since,seen,st,h1,_,h2,_⟩:=h
  rcases hk with rfl|rfl
  ·exact ek h2
  ·exact ek h1
 oq w w' hk h:=by
  obtain ⟨hne,es,c,since,seen,st,h1,h2,h3,h4⟩:=h
  exact ⟨hne,es,c,since,seen,st,(hk b (.inr rfl)).trans h1,h2,(hk r (.inl rfl)).trans h3,h4⟩
theorem dA {r b:Nat} {m left:List (K×Value)} {cur:Option (K×Value)}:(∀ w,(yd kV r b m left cur).holds w→(yd kV r b m left none).holds w)∧(∀ k,(yd kV r b m left none).fp k→(yd kV r b m left cur).fp k)∧ ∀ k,(yd kV r b m left none).wf k→(yd kV r b m left cur).wf k:=
 ⟨fun w h=>by
  obtain ⟨A,es,c,since,seen,st,B,C,D,E,F,h5',G,_⟩:=h
  exact ⟨A,es,c,since,seen,st,B,C,D,E,F,h5',G,fun p hp=>by cases hp⟩,fun _ h=>h,fun _ h=>h⟩
section
variable {E:ff} {ops:Array Oper} {Q:cZ} {rest:List Oper} {D:List Deferred} {L:List (Nat×Value)} {C:List av}
variable {dst:Option Tmp} {d:Nat} {ty:TypeId} {ps:String} {af:Array Edge} {g:Option (Nat×Bool)}
theorem iG {t kt et:TypeId} {xm:Operand} {b:Nat} {m:List (K×Value)} {A:av} (i:Nat) (hg:ju ops L g=true) (hm:ev L xm=some (.map (some b))) (ht:E.P.underlying t=some (.map kt et)) (hA:C[i]? =some A) (hAf:A.fp b∧ ¬ A.wf b) (hC:jc C (gZ kV b m).holds) (hd:Nat.blt d E.n=true)
 (k: ∀ r,RJ E ops Q rest D ((d,.pointer (some ⟨r,0,none⟩))::L) (yd kV r b m m none::C)):RJ E ops Q (⟨some d,.range t xm,ty,ps,af,g⟩::rest) D L C:=by
 intro a w B hs
 have hd':d<E.n:=by rw [← Nat.blt_eq]; exact hd
 unfold rq
 rw [if_pos (d_ B hg)]
 obtain ⟨es,c,he,hi⟩:=hs.has hC
 have G:b<w.heap.size:=ek he
 have F:(getObj b).run E.P w= .ok (.map es c) w:=MapKept.run_getObj_map he
 refine gQ (v:= .pointer (some ⟨w.heap.size,0,none⟩)) (w':=w.alloc (.mapIter (some b) c #[] c)) sm ?_ ?_
 ·simp [execOp,Instr.range,B.ev hm,run_underlying ht,F,newObj,Sem.run]
 ·refine k _ _ _ (B.put hd' _) (hs.My i hA (dY.alloc no w _) ⟨om,es,c,c,#[],c,?_,hi,heap_alloc_new w _,hi.Ld,Nat.le_refl _,Nat.le_refl _,?_,fun p hp=>by cases hp⟩ (fun q hq=>?_))
  ·rw [Below.heap_alloc w _ b G]; exact he
  ·have:leftOf es #[]=es:=by unfold leftOf; exact Array.filter_eq_self.2 sm
   rw [this]; exact hi.list
  ·rcases hq with rfl|rfl
   ·exact .inl (Nat.le_refl _)
   ·refine .inr ⟨hAf.1,hAf.2,fun (e:q=w.heap.size)=>by omega⟩
theorem GU (hinj: ∀ x y,kV x=kV y→x=y) {xi:Operand} {r b:Nat} {m left:List (K×Value)} {cur:Option (K×Value)} (i:Nat) (hg:ju ops L g=true) (hm:ev L xi=some (.pointer (some ⟨r,0,none⟩))) (hC:C[i]? =some (yd kV r b m left cur)) (hd:Nat.blt d E.n=true)
 (k0:left=[]→RJ E ops Q rest D ((d,.tuple [.bool false].toArray)::L) C)
 (k1: ∀ x v,(x,v)∈left→(left.map (·.1)).Nodup→RJ E ops Q rest D ((d,.tuple [.bool true,kV x,v].toArray)::L) (C.set i (yd kV r b m (cf left x) (some (x,v))))):
 RJ E ops Q (⟨some d,.next xi false,ty,ps,af,g⟩::rest) D L C:=by
 intro a w G hs
 have hd':d<E.n:=by rw [← Nat.blt_eq]; exact hd
 unfold rq
 rw [if_pos (d_ G hg)]
 obtain ⟨R,es,c,since,seen,st,X,hi,Y,J,V,M,A,_⟩:=hs.holds _ (aX hC)
 rcases run_next_at (P:=E.P) w ty r b since st seen es c Y X J V with ⟨Z,hr⟩|⟨e,he,N,H,hr⟩
 ·refine gQ (v:= .tuple #[.bool false]) (w':=w) sm ?_ ?_
  ·simp [execOp,G.ev hm,hr]
  ·refine k0 ?_ _ _ (G.put hd' _) hs
   have:(leftOf es seen).toList=[]:=by rw [← List.length_eq_zero_iff,Array.length_toList]; exact Z
   rw [this] at A
   exact List.map_eq_nil_iff.1 A.symm
 ·have O:(e.key,e.val)∈left.map (fun p=>(kV p.1,p.2)):=by rw [← A]; exact List.mem_map.2 ⟨e,he,rfl⟩
  obtain ⟨p,hp,S⟩:=List.mem_map.1 O
  obtain ⟨x,v⟩:=p
  simp only [Prod.mk.injEq] at S
  obtain ⟨hk,hv⟩:=S
  refine gQ (v:= .tuple #[.bool true,e.key,e.val]) (w':=ChangeMaps.setBlock N r (.mapIter (some b) since (seen.push e.born) c)) sm ?_ ?_
  ·simp [execOp,G.ev hm,hr]
  ·rw [← hk,← hv]
   have AA:=wy hinj hi A
   have F:e∈es.toList:=by unfold leftOf at he; rw [Array.toList_filter] at he; exact (List.mem_filter.1 he).1
   have f:c=c:=rfl
   have B:N.heap=w.heap:=by rcases H with rfl|rfl<;>rfl
   refine k1 x v hp AA _ _ (G.put hd' _) (hs.mv i hC ⟨⟨R,es,c,since,seen.push e.born,c,?_,hi,?_,J,M,M,?_,fun q hq=>?_⟩,?_,fun q hq=> .inl hq,fun q hq=> .inl hq⟩)
   ·show (N.heap.setIfInBounds r _)[b]? =_
    rw [Array.getElem?_setIfInBounds_ne R,B]; exact X
   ·show (N.heap.setIfInBounds r _)[r]? =_
    rw [Array.getElem?_setIfInBounds_self_of_lt (by rw [B]; exact ek Y)]
   ·have T:leftOf es (seen.push e.born)=(leftOf es seen).filter (fun z=> !(z.born==e.born)):=by
     unfold leftOf
     rw [Array.filter_filter]
     congr 1
     funext z
     simp only [Array.contains_push,Bool.not_or]
     rw [Bool.and_comm]
    rw [T,Array.toList_filter]
    have key: ∀ (l:List MapEntry) (ll:List (K×Value)),(∀ z∈l,z∈es.toList)→l.map (fun (e:MapEntry)=>(e.key,e.val))=ll.map (fun p=>(kV p.1,p.2))→
     (l.filter (fun z=> !(z.born==e.born))).map (fun (e:MapEntry)=>(e.key,e.val))=(cf ll x).map (fun p=>(kV p.1,p.2)):=by
     intro l
     induction l with
     |nil=>intro ll _ h; cases ll with
      |nil=>rfl
      |cons p ll=>simp at h
     |cons z l ih=>
      intro ll hz h
      cases ll with
      |nil=>simp at h
      |cons p ll=>
       simp only [List.map_cons,List.cons.injEq,Prod.mk.injEq] at h
       have ih':=ih ll (fun y hy=>hz y (by simp [hy])) h.2
       have AB:(z.born=e.born)↔(p.1=x):=by
        constructor
        ·intro hb
         have:z=e:=Dc hi.born (hz z sm) F hb
         rw [this] at h
         have:=h.1.1.symm.trans hk.symm
         exact hinj _ _ this
        ·intro hx
         have W:z.key=e.key:=by rw [h.1.1,hx,hk]
         rw [Cv hinj hi (hz z sm) F W]
       unfold cf at ih' ⊢
       by_cases hx:p.1=x
       ·rw [List.filter_cons_of_neg (by simp [AB.2 hx]),List.filter_cons_of_neg (by simp [hx])]; exact ih'
       ·rw [List.filter_cons_of_pos (by simpa using fun hb=>hx (AB.1 hb)),List.filter_cons_of_pos (by simpa using hx)]
        simp only [List.map_cons,h.1.1,h.1.2,ih']
    exact key _ _ (fun z hz=>by unfold leftOf at hz; rw [Array.toList_filter] at hz; exact (List.mem_filter.1 hz).1) A
   ·cases hq
    exact ⟨e,seen,F,U,U,hk.symm,hv.symm⟩
   ·refine ⟨?_,?_,?_,?_,fun q hq hn=>?_⟩
    ·rcases H with rfl|rfl<;>rfl
    ·rcases H with rfl|rfl<;>rfl
    ·rcases H with rfl|rfl<;>rfl
    ·show w.heap.size≤(N.heap.setIfInBounds r _).size
     simp [B]
    ·show (N.heap.setIfInBounds r _)[q]? =_
     rw [Array.getElem?_setIfInBounds_ne (fun e=>hn e.symm),B]
theorem g8 {xi:Operand} {r b:Nat} {m left:List (K×Value)} {x:K} {v:Value} (i:Nat) (hg:ju ops L g=true) (hm:ev L xi=some (.pointer (some ⟨r,0,none⟩))) (hC:C[i]? =some (yd kV r b m left (some (x,v)))):
 SD E ops ⟨dst,.entry xi,ty,ps,af,g⟩ D L C (.tuple [kV x,v].toArray):=
 dJ hg sm fun a w F hs=>by
  obtain ⟨N,es,c,since,seen,st,J,hi,M,H,O,AA,G,B⟩:=hs.holds _ (aX hC)
  obtain ⟨e,A,he,rfl,rfl,hk,hv⟩:=B _ rfl
  have:=run_entry_at (P:=E.P) w r b since A es st e M J he hi.born
  simp [execOp,F.ev hm,this,hk,hv]
theorem g7 (hinj: ∀ x y,kV x=kV y→x=y) {β:Type} {f:β→Value} {xi:Operand} {r b:Nat} {m:List (K×Value)} {ll:List (K×β)} {cur:Option (K×Value)} (i:Nat) (hg:ju ops L g=true) (hm:ev L xi=some (.pointer (some ⟨r,0,none⟩))) (hC:C[i]? =some (yd kV r b m (bM f ll) cur)) (hd:Nat.blt d E.n=true)
 (k0:ll=[]→RJ E ops Q rest D ((d,.tuple [.bool false].toArray)::L) C)
 (k1: ∀ x y,(x,y)∈ll→(ll.map (·.1)).Nodup→RJ E ops Q rest D ((d,.tuple [.bool true,kV x,f y].toArray)::L) (C.set i (yd kV r b m (bM f (cf ll x)) (some (x,f y))))):
 RJ E ops Q (⟨some d,.next xi false,ty,ps,af,g⟩::rest) D L C:=by
 refine GU hinj i hg hm hC hd (fun h=>k0 (List.map_eq_nil_iff.1 h)) (fun x v B hn=>?_)
 obtain ⟨p,hp,A⟩:=List.mem_map.1 B
 simp only [Prod.mk.injEq] at A
 obtain ⟨rfl,rfl⟩:=A
 have:=k1 p.1 p.2 hp (by simpa [bM,Function.comp_def] using hn)
 rwa [lD] at this
theorem yG {t kt et:TypeId} {xm xk xv:Operand} {b:Nat} {x:K} {v:Value} {m m':List (K×Value)} {C':List av} (i:Nat) (hg:ju ops L g=true) (hm:ev L xm=some (.map (some b))) (hk:ev L xk=some (kV x)) (hv:ev L xv=some v)
 (ht:E.P.underlying t=some (.map kt et)) (hkt:uy E.P kt kV) (hC:C[i]? =some (gZ kV b m)) (hm':dK m x v=m') (hC':C.set i (gZ kV b m')=C') (k:RJ E ops Q rest D L C'):
 RJ E ops Q (⟨none,.insert t xm xk xv,ty,ps,af,g⟩::rest) D L C:=by
 subst hm' hC'
 intro a w A hs
 unfold rq
 rw [if_pos (d_ A hg)]
 obtain ⟨es,c,he,hi⟩:=hs.holds _ (aX hC)
 have B:(getObj b).run E.P w= .ok (.map es c) w:=MapKept.run_getObj_map he
 rcases oU (P:=E.P) (w:=w) (x:=x) hkt hi with ⟨AA,F⟩|⟨j,N,AA,F,J⟩
 ·refine re (w':={w with heap:=w.heap.setIfInBounds b (.map (es.push {key:=kV x,val:=v,born:=c}) (c+1))}) sm ?_ ?_
  ·simp [execOp,A.ev hm,A.ev hk,A.ev hv,Instr.mapUpdate,run_underlying ht,B,iK hkt,AA,MapKept.run_setObj_map _ he]
  ·refine k _ _ ⟨A.defers,A.size,A.at_⟩ (hs.Dg (b:=b) i hC U U (mV _) (fun _ h=>h) ⟨_,_,o3 he,?_⟩)
   have:dK m x v=m++[(x,v)]:=by unfold dK; rw [F]; rfl
   rw [this]; exact hi.push F v
 ·have M:=hi.size
  have G:j<es.size:=by have:=(List.getElem?_eq_some_iff.1 F).1; omega
  have H:(es[j]).key=kV x:=by
   have:=congrArg (fun l=>l[j]?) hi.list
   simp [G,F] at this
   exact this.1
  refine re (w':={w with heap:=w.heap.setIfInBounds b (.map (es.modify j fun e=>{e with key:=kV x,val:=v}) c)}) sm ?_ ?_
  ·simp [execOp,A.ev hm,A.ev hk,A.ev hv,Instr.mapUpdate,run_underlying ht,B,iK hkt,AA,MapKept.run_setObj_map _ he,Instr.keyThatStays,G,H,hkt.bits x]
  ·exact k _ _ ⟨A.defers,A.size,A.at_⟩ (hs.Dg (b:=b) i hC U U (mV _) (fun _ h=>h) ⟨_,_,o3 he,hi.set F J v⟩)
end
end
end
section
open Go.RowKit
def TU {σ:Type} (w0:World) (P:Program) (l:Nat) (step:σ→List Value→σ→Prop) (J:σ→av→Prop) (Z:av→Prop):Prop:=
 ∀ k x k' A w,step k x k'→J k A→w0.heap.size≤w.heap.size→A.holds w→YieldAt (Fw none) 0 P l x.toArray w fun e w'=>
  (e= .returned (.bool true)∧ ∃ B,J k' B∧Mv A B w w')∨(e= .returned (.bool false)∧ ∃ B,Z B∧Mv A B w w')
def Lb {σ:Type} (J:σ→av→Prop) (Z:av→Prop) (fin:σ→Prop) (A0:av) (w0:World) (e:Ending) (w':World):Prop:=
 ∃ v,e= .returned v∧((∃ s B,fin s∧J s B∧Mv A0 B w0 w')∨ ∃ B,Z B∧Mv A0 B w0 w')
structure Ez {σ:Type} (P:Program) (f:FuncId) (fi ca:List Value) (Cp:List av) (s0:σ) (step:σ→List Value→σ→Prop) (fin:σ→Prop):Prop where
 go:r9 P f=true
 run: ∀ (l:Nat) (J:σ→av→Prop) (Z:av→Prop) (A0:av) (w:World),TU w P l step J Z→J s0 A0→A0.holds w→(∀ A∈Cp,A.holds w)→(∀ A∈Cp,Dh A0 A.ro)→
  Calls P f (fi++Value.func (.yield l) #[] #[]::ca).toArray w (Lb J Z fin A0 w)
theorem LK {σ:Type} {J:σ→av→Prop} {Z:av→Prop} {n:σ} {fin:σ→Prop} {A0 B:av} {w0 w:World} {C:List av} {v:Value} (i:Nat) (hC:C[i]? =some B) (hfin:fin n) (hJ:J n B) (hF:Fo A0 w0 B) (hs:St ⟨A0.wf,fun _=>True⟩ w0 C w):Lb J Z fin A0 w0 (.returned v) w:=
 ⟨v,rfl,.inl ⟨n,B,hfin,hJ,hs.holds B (aX hC),hs.keeps,fun b hb=>(hs.own B (aX hC) b hb).symm,hF⟩⟩
theorem rv {σ:Type} {J:σ→av→Prop} {Z:av→Prop} {fin:σ→Prop} {A0 B:av} {w0 w:World} {C:List av} {v:Value} (i:Nat) (hC:C[i]? =some B) (hJ:Z B) (hF:Fo A0 w0 B) (hs:St ⟨A0.wf,fun _=>True⟩ w0 C w):Lb J Z fin A0 w0 (.returned v) w:=
 ⟨v,rfl,.inr ⟨B,hJ,hs.holds B (aX hC),hs.keeps,fun b hb=>(hs.own B (aX hC) b hb).symm,hF⟩⟩
theorem tD {σ:Type} {P:Program} {f:FuncId} {fn:Func} {c:Code} {fi ca:List Value} {Cp:List av} {s0:σ} {step:σ→List Value→σ→Prop} {fin:σ→Prop} (hgo:r9 P f=true) (hf:P.funcs[f]? =some fn) (hb:fn.body=some c) (hn:Nat.ble (fi.length+ca.length+1) fn.ntmps=true)
 (h: ∀ (l:Nat) (J:σ→av→Prop) (Z:av→Prop) (A0:av) (w0:World) (Q:cZ),TU w0 P l step J Z→J s0 A0→Fo A0 w0 A0→
  (∀ D L C,LJ ⟨P,none,fn.ntmps,⟨A0.wf,fun _=>True⟩,w0⟩ fn (Lb J Z fin A0 w0) D L C→KJ ⟨P,none,fn.ntmps,⟨A0.wf,fun _=>True⟩,w0⟩ (Q .ret) D L C)→
  (∀ D L C,LJ ⟨P,none,fn.ntmps,⟨A0.wf,fun _=>True⟩,w0⟩ fn (Lb J Z fin A0 w0) D L C→KJ ⟨P,none,fn.ntmps,⟨A0.wf,fun _=>True⟩,w0⟩ (Q .normal) D L C)→
  WJ ⟨P,none,fn.ntmps,⟨A0.wf,fun _=>True⟩,w0⟩ c Q [] (PU (fi++Value.func (.yield l) #[] #[]::ca)) (A0::Cp.map av.ro)):Ez P f fi ca Cp s0 step fin:=by
 refine ⟨hgo,fun l J Z A0 w hY hJ hA F E=>?_⟩
 refine El hf hb (by simpa [Nat.add_assoc] using hn) (h l J Z A0 w · hY hJ (fun b hb=> .inl hb)) ?_
 have G:=tF F
 refine ⟨dY.refl _ _,fun A hA'=>?_,List.Pairwise.cons (fun B hB=>?_) G.sep,fun A hA' b hb=>?_,fun _ _ _ _=> .inr trivial⟩
 ·rcases List.mem_cons.1 hA' with rfl|hA'
  ·exact hA
  ·exact G.holds A hA'
 ·obtain ⟨B',hB',rfl⟩:=List.mem_map.1 hB
  exact E B' hB'
 ·rcases List.mem_cons.1 hA' with rfl|hA'
  ·exact .inr hb
  ·obtain ⟨B',hB',rfl⟩:=List.mem_map.1 hA'
   exact hb.elim
section
variable {E:ff} {ops:Array Oper} {Q:cZ} {rest:List Oper} {D:List Deferred} {L:List (Nat×Value)} {C:List av}
variable {d:Nat} {ty:TypeId} {ps:String} {af:Array Edge} {g:Option (Nat×Bool)}
/-- a call of yield -/
theorem ku {σ:Type} {fop:Operand} {xs:Array Operand} {ts:Array TypeId} {l:Nat} {k k':σ} {vs:List Value} {step:σ→List Value→σ→Prop} {J:σ→av→Prop} {Z:av→Prop} {A0 A:av} {w1:World} (i:Nat) (hw1:w1.heap.size≤E.w0.heap.size) (hY:TU w1 E.P l step J Z) (hJ:J k A) (hF:Fo A0 w1 A) (hg:ju ops L g=true) (hf:ev L fop=some (.func (.yield l) #[] #[]))
 (hx:evs L xs.toList=some vs) (hk:step k vs k') (hC:C[i]? =some A) (hd:Nat.blt d E.n=true)
 (k1: ∀ B,J k' B→Fo A0 w1 B→RJ E ops Q rest D ((d,.bool true)::L) (C.set i B))
 (k2: ∀ B,Z B→Fo A0 w1 B→RJ E ops Q rest D ((d,.bool false)::L) (C.set i B)):
 RJ E ops Q (⟨some d,.call {callee:= .value fop,args:=xs,argTypes:=ts},ty,ps,af,g⟩::rest) D L C:=by
 intro a w F hs
 have hd':d<E.n:=by rw [← Nat.blt_eq]; exact hd
 unfold rq
 rw [if_pos (d_ F hg)]
 have K:xs.map a.eval=vs.toArray:=by
  have:=F.evs hx
  apply Array.ext'
  simp [this]
 obtain ⟨fn,tmps,assign,body,hy,hr⟩:=hY k vs k' A w hk hJ (Nat.le_trans hw1 hs.keeps.size) (hs.holds A (aX hC))
 have H:(execOp a.eval ⟨some d,.call {callee:= .value fop,args:=xs,argTypes:=ts},ty,ps,af,g⟩).run E.P w= .ok (.round l fn tmps assign body) w:=by
  simp [execOp,resolve,F.ev hf,Deferred.ofValue,invoke,K,hy]
 refine ⟨fun _ _=>trivial,?_⟩
 rw [Oper.semAt_eq _ _ _ sm,H]
 refine ⟨fun h=>by simp at h,?_⟩
 have G: ∀ (B:av) (w':World),Mv A B w w'→Fo A0 w1 B:=fun B w' m b hb=>by
  rcases m.fp b hb with AA|AA
  ·exact hF b AA
  ·exact .inr (Nat.le_trans hw1 (Nat.le_trans hs.keeps.size AA))
 have hr':RoundIn (Fw E.r) 0 E.P l fn tmps assign body w _:=hr
 refine hr'.mono fun e w' he=>?_
 rcases he with ⟨rfl,B,hB,m⟩|⟨rfl,B,hB,m⟩
 ·exact k1 B hB (G B w' m) _ _ (F.put hd' _) (hs.mv i hC m)
 ·exact k2 B hB (G B w' m) _ _ (F.put hd' _) (hs.mv i hC m)
end
theorem nz {σ:Type} {E:ff} {Q:cZ} {D:List Deferred} {L L0:List (Nat×Value)} {C F:List av} {g:Operand} {ps:Array Tmp} {assign body:Code} {f:FuncId} {fi ca:List Value} {Cp:List av} {s0:σ} {step:σ→List Value→σ→Prop} {fin_:σ→Prop} {ι κ:Type}
 (inv:σ→ι→Prop) (Ci:σ→ι→List av) (invx:Code→κ→Prop) (Cx:Code→κ→List av) (isJ isF:List Nat) (y0:ι)
 (hr:E.r=none) (hg:ev L g=some (.func (.func f) fi.toArray ca.toArray)) (hs:Ez E.P f fi ca Cp s0 step fin_)
 (hnd:decide (isJ++isF).Nodup=true) (hJ:kj C isJ=Ci s0 y0) (hF:kj C isF=F) (h0:inv s0 y0) (hCp: ∀ A∈Cp,∃ B∈F,Mb B A)
 (hps: ∀ k x k',step k x k'→x.length=ps.size) (hpn:ps.toList.all (fun t=>Nat.blt t E.n)=true) (hL:dx L L0)
 (round: ∀ (k:σ) (x:List Value) (k':σ) (y:ι) (l:Nat) (ra rb:Loop) (S:BS) (w0:World) (K:Act→World→Prop) (Qr:cZ),E.w0.heap.size≤w0.heap.size→step k x k'→inv k y→
  (∀ L' C',WJ ⟨E.P,some l,E.n,S,w0⟩ body Qr [] L' (lg l (.loop rb)::C')→KJ ⟨E.P,some l,E.n,S,w0⟩ K [] L' (lg l (.loop ra)::C'))→
  (∀ y' L' C',inv k' y'→(∀ w,St S w0 C' w→St S w0 (lg l (.loop rb)::Ci k' y') w)→KJ ⟨E.P,some l,E.n,S,w0⟩ (Qr .normal) [] L' C')→
  (∀ id z L' C',invx (.exit id) z→(∀ w,St S w0 C' w→St S w0 (lg l (.loop rb)::Cx (.exit id) z) w)→KJ ⟨E.P,some l,E.n,S,w0⟩ (Qr (.exit id)) [] L' C')→
  (∀ z L' C',invx .ret z→(∀ w,St S w0 C' w→St S w0 (lg l (.loop rb)::Cx .ret z) w)→KJ ⟨E.P,some l,E.n,S,w0⟩ (Qr .ret) [] L' C')→
  WJ ⟨E.P,some l,E.n,S,w0⟩ assign (Exit.then K (fun _ _ _=>False)) [] (Bk ps.toList x L0) (lg l (.loop ra)::Ci k y))
 (fin: ∀ r s y,fin_ s→inv s y→KJ E (Q .normal) (lq r::D) L0 (lg r (.deferred (some []))::(F++Ci s y)))
 (finx: ∀ r id z,invx (.exit id) z→KJ E (Q (.exit id)) (lq r::D) L0 (lg r (.deferred (some []))::(F++Cx (.exit id) z)))
 (finr: ∀ r z,invx .ret z→KJ E (Q .ret) (lq r::D) L0 (lg r (.deferred (some []))::(F++Cx .ret z))):WJ E (.rangeFunc g ps assign body) Q D L C:=by
 intro a w hf q
 refine wpIn_rangeFunc fun fn _=>?_
 show ∃ l lq w₁ d w₁' f args w₂,(Instr.enterLoop fn a.tmps ps assign body E.r).run E.P w= .ok (l,lq) w₁∧_
 rw [hr]
 obtain ⟨rec,G⟩: ∃ rec:LoopState→Option Code→Loop,rec=fun st pe=>{state:=st,pending:=pe,fn,tmps:=a.tmps,params:=ps,assign,body,defers:=w.heap.size}:=⟨_,rfl⟩
 obtain ⟨W1,R⟩: ∃ W1,(w.alloc (.deferred (some []))).alloc (.loop (rec .ready none))=W1:=⟨_,rfl⟩
 have AE:a.eval g= .func (.func f) fi.toArray ca.toArray:=hf.ev hg
 have p:(Instr.enterLoop fn a.tmps ps assign body none).run E.P w= .ok (w.heap.size+1,[lq w.heap.size]) W1:=by
  rw [← R,G]; exact run_enterLoop_outer _ _ _ _ _
 -- the state with the record and the block
 have u:St E.S E.w0 ((lg (w.heap.size+1) (.loop (rec .ready none))::Ci s0 y0)++(lg w.heap.size (.deferred (some []))::F)) W1:=by
  have X:St E.S E.w0 (Ci s0 y0++F) w:=St.kj (isJ++isF) hnd (by have X:=hJ; have j:=hF; unfold Go.Proofs.YtdllkkdchkhimaaGreatDoor.kj at X j ⊢; rw [List.filterMap_append,X,j]) q
  have hn:Od w W1 [lg (w.heap.size+1) (.loop (rec .ready none)),lg w.heap.size (.deferred (some []))]:=by
   refine ⟨fun A hA=>?_,fun A hA b hb=>?_,?_⟩
   ·rcases List.mem_cons.1 hA with rfl|hA
    ·show W1.heap[w.heap.size+1]? =_
     rw [← R]; have:=World.alloc_heap_new (w.alloc (.deferred (some []))) (.loop (rec .ready none)); rwa [World.size_alloc] at this
    ·simp only [bW] at hA; subst hA
     show W1.heap[w.heap.size]? =_
     rw [← R]; exact (Below.heap_alloc _ _ _ sm).trans (World.alloc_heap_new w _)
   ·rcases List.mem_cons.1 hA with rfl|hA
    ·have:b=w.heap.size+1:=hb
     omega
    ·simp only [bW] at hA; subst hA
     have:b=w.heap.size:=hb
     omega
   ·refine List.Pairwise.cons (fun B hB b X j=>?_) (List.pairwise_singleton _ _)
    simp only [bW] at hB; subst hB
    have V:b=w.heap.size+1:=X
    have O:b=w.heap.size:=j
    omega
  have hk:dY no w W1:=by rw [← R]; exact (dY.alloc no w _).trans (dY.alloc no _ _)
  have j:=X.grow hk hn
  refine j.perm ?_
  simp only [List.cons_append,List.nil_append]
  exact List.Perm.cons _ (List.perm_middle.symm)
 have Y:=u.tied
 obtain ⟨H,AJ⟩:=List.pairwise_cons.1 Y.sep
 have AC:=Y.holds _ (cm ..)
 let J:σ→av→Prop:=fun k A=> ∃ y,inv k y∧A=bo (lg (w.heap.size+1) (.loop (rec .ready none))::Ci k y)
 let Z:av→Prop:=fun A=> ∃ c z,(c= .ret∨ ∃ id,c= .exit id)∧invx c z∧A=bo (lg (w.heap.size+1) (.loop (rec .done (some c)))::Cx c z)
 refine ⟨w.heap.size+1,[lq w.heap.size],W1,{target:= .fn (.func f) ca.toArray,args:=fi.toArray++ #[.func (.yield (w.heap.size+1)) #[] #[]]},W1,f,
  (fi++Value.func (.yield (w.heap.size+1)) #[] #[]::ca).toArray,W1,p,?_,fun _ _=>trivial,?_,fun h=>by simp at h,?_⟩
 ·simp only [resolve,AE]
  simp [Deferred.ofValue,Act.eval]
 ·have:fi.toArray++ #[Value.func (.yield (w.heap.size+1)) #[] #[]]++ca.toArray=(fi++Value.func (.yield (w.heap.size+1)) #[] #[]::ca).toArray:=by simp
  simp [invoke,pG hs.go]
 ·refine (qC E.r (hs.run (w.heap.size+1) J Z _ W1 ?_ ⟨y0,h0,U⟩ AC ?_ ?_)).mono ?_
  ·-- a round
   rintro k x k' A W hx ⟨y,hy,rfl⟩ AD hA
   have hl:W.heap[w.heap.size+1]? =some (.loop (rec .ready none)):=hA.1 _ (cm ..)
   have AA:=run_yield (P:=E.P) (args:=x.toArray) hl (by rw [G]; simpa using hps k x k' hx)
   rw [G] at AA
   refine ⟨fn,_,assign,body,AA,roundIn_of_wpIn trivial ?_⟩
   let A:av:=bo (lg (w.heap.size+1) (.loop (rec .ready none))::Ci k y)
   have AF:Fr E.n [] (Bk ps.toList x L0) {tmps:=(ps.zip x.toArray).foldl (fun tmps (t,a)=>tmps.setIfInBounds t a) a.tmps,defers:=[]}:=by
    have X:=IL ps.toList x L0 a.tmps (fun t ht=>by have:=List.all_eq_true.1 hpn t ht; rwa [Nat.blt_eq] at this) ⟨rfl,hf.size,fun t v hv=>hf.at_ t v (hL t v hv)⟩
    rw [← Array.foldl_toList]
    simpa using X
   have o: ∀ (c:Option Code) (b:Bool),({rec .busy none with state:=if b then .ready else .done,pending:=c}:Loop)=rec (if b then .ready else .done) c:=fun c b=>by rw [G]
   have T: ∀ (c:Option Code) (N:World) (C':List av) (S:BS),St S W (lg (w.heap.size+1) (.loop (rec .busy none))::C') N→
    ∃ M,(Instr.endRound (w.heap.size+1) c).run E.P N= .ok (.bool c.isNone) M∧St S W (lg (w.heap.size+1) (.loop (rec (if c.isNone then .ready else .done) c))::C') M:=fun c N C' S H=>by
    have AI:N.heap[w.heap.size+1]? =some (.loop (rec .busy none)):=H.holds _ (cm ..)
    refine ⟨_,run_endRound c AI,?_⟩
    have:=H.Dg (b:=w.heap.size+1) (A':=lg (w.heap.size+1) (.loop (rec (if c.isNone then .ready else .done) c))) 0 rfl rfl rfl (jk _) (fun _ h=>h) (World.putObj_heap_same (ek AI))
    rw [o]
    exact this
   refine round k x k' y (w.heap.size+1) (rec .ready none) (rec .busy none) ⟨A.wf,A.fp⟩ W _ (roundPost E.P (w.heap.size+1) (fun e w'=>(e= .returned (.bool true)∧ ∃ B,J k' B∧Mv A B W w')∨(e= .returned (.bool false)∧ ∃ B,Z B∧Mv A B W w'))) (Nat.le_trans (Nat.le_trans q.keeps.size (by rw [← R]; simp; omega)) AD) hx hy ?_ ?_ ?_ ?_ _ _ AF (St.Fk hA)
   ·intro L' C' hW a1 N i H
    have AI:N.heap[w.heap.size+1]? =some (.loop (rec .ready none)):=H.holds _ (cm ..)
    refine ⟨_,run_beginRound AI (by rw [G]),hW _ _ i ?_⟩
    have:=H.Dg (b:=w.heap.size+1) (A':=lg (w.heap.size+1) (.loop (rec .busy none))) 0 rfl rfl rfl (jk _) (fun _ h=>h) (World.putObj_heap_same (ek AI))
    have e:({rec .ready none with state:= .busy}:Loop)=rec .busy none:=by rw [G]
    rw [e]; exact this
   ·intro y' L' C' hy' hC' a1 N i H
    obtain ⟨M,V,O⟩:=T none N _ _ (hC' _ H)
    exact ⟨_,M,V,.inl ⟨U,_,⟨y',hy',U⟩,Mv.of O⟩⟩
   ·intro id z L' C' hz hC' a1 N i H
    obtain ⟨M,V,O⟩:=T (some (.exit id)) N _ _ (hC' _ H)
    exact ⟨_,M,V,.inr ⟨U,_,⟨_,z,.inr ⟨id,U⟩,hz,U⟩,Mv.of O⟩⟩
   ·intro z L' C' hz hC' a1 N i H
    obtain ⟨M,V,O⟩:=T (some .ret) N _ _ (hC' _ H)
    exact ⟨_,M,V,.inr ⟨U,_,⟨_,z,.inl U,hz,U⟩,Mv.of O⟩⟩
  ·intro A hA
   obtain ⟨B,hB,hc⟩:=hCp A hA
   exact hc.holds _ (Y.holds B (cS _ (cS _ hB)))
  ·intro A hA b hb hb'
   obtain ⟨B,hB,hc⟩:=hCp A hA
   exact ⟨(H B (cS _ hB) b hb (hc.fp b hb')).1,fun h=>h⟩
  ·rintro e w' ⟨v,rfl,hh⟩
   have AB:Fr E.n (lq w.heap.size::D) L0 {a with defers:=[lq w.heap.size]++a.defers}:=⟨by simp [hf.defers],hf.size,fun t v hv=>hf.at_ t v (hL t v hv)⟩
   have hleave: ∀ (st:LoopState) (c:Option Code) (C':List av),st≠ .busy→Mv (bo (lg (w.heap.size+1) (.loop (rec .ready none))::Ci s0 y0)) (bo (lg (w.heap.size+1) (.loop (rec st c))::C')) W1 w'→
    ∃ M,(Instr.endLoop (w.heap.size+1)).run E.P w'= .ok c M∧St E.S E.w0 (lg w.heap.size (.deferred (some []))::(F++C')) M:=fun st c C' AH m=>by
    have X:=(Y.mv 0 rfl m).ib
    have h1':St E.S E.w0 ((lg (w.heap.size+1) (.loop (rec st c))::C')++(lg w.heap.size (.deferred (some []))::F)) w':=X
    have AI:w'.heap[w.heap.size+1]? =some (.loop (rec st c)):=h1'.holds (lg (w.heap.size+1) (.loop (rec st c))) sm
    refine ⟨_,by have:=run_endLoop (P:=E.P) AI (by rw [G]; exact AH); rw [this,G],?_⟩
    have j:=h1'.Dg (b:=w.heap.size+1) (A':=lg (w.heap.size+1) (.loop {rec st c with state:= .exhausted})) 0 rfl rfl rfl (jk _) (fun _ h=>h) (World.putObj_heap_same (ek AI))
    have h3:St E.S E.w0 (C'++(lg w.heap.size (.deferred (some []))::F)) _:=j.take (List.sublist_cons_self _ _)
    rw [G] at h3
    refine h3.perm ?_
    exact (List.perm_append_comm).trans sm
   rcases hh with ⟨s,B,AG,⟨y,hy,rfl⟩,m⟩|⟨B,⟨c,z,hc,hz,rfl⟩,m⟩
   ·obtain ⟨M,V,O⟩:=hleave .ready none _ sm m
    exact ⟨none,M,V,fin w.heap.size s y AG hy _ _ AB O⟩
   ·obtain ⟨M,V,O⟩:=hleave .done (some c) _ sm m
    refine ⟨some c,M,V,?_⟩
    rcases hc with rfl|⟨id,rfl⟩
    ·exact wpIn_ret (finr w.heap.size z hz _ _ AB O)
    ·exact wpIn_exit (finx w.heap.size id z hz _ _ AB O)
end
section
open Go.RowKit
/-- where a row lies, and its capacity -/
abbrev RA:=OA×Nat
/-- what is asked of memory by all elements -/
def aU {M A:Type} (f:M→A→List av):List M→List A→List av
 |m::ms,a::asl=>f m a++aU f ms asl
 |_,_=>[]
theorem cj {M A:Type} {f:M→A→List av}: ∀ {ms:List M} {asl:List A} {k:Nat} {m:M} {a:A} {X:av},ms[k]? =some m→asl[k]? =some a→X∈f m a→X∈aU f ms asl
 |[],_,k,m,a,X,h,_,_=>by simp at h
 |_::_,[],k,m,a,X,_,h,_=>by simp at h
 |x::ms,y::asl,0,m,a,X,h,h2,hX=>by
  simp at h h2; subst h h2
  exact List.mem_append_left _ hX
 |x::ms,y::asl,k+1,m,a,X,h,h2,hX=>List.mem_append_right _ (cj (ms:=ms) (asl:=asl) (k:=k) (by simpa using h) (by simpa using h2) hX)
theorem jN {M A:Type} {f:M→A→List av}: ∀ {ms:List M} {asl:List A} {X:av},X∈aU f ms asl→ ∃ (k:Nat) (m:M) (a:A),ms[k]? =some m∧asl[k]? =some a∧X∈f m a
 |[],_,X,h=>by cases h
 |_::_,[],X,h=>by cases h
 |x::ms,y::asl,X,h=>by
  rcases List.mem_append.1 h with h|h
  ·exact ⟨0,x,y,U,U,h⟩
  ·obtain ⟨k,m,a,B,C,D⟩:=jN h
   exact ⟨k+1,m,a,by simpa using B,by simpa using C,D⟩
theorem jT {M A:Type} {f:M→A→List av}: ∀ {ms:List M} {asl:List A} {ns:List M} {bs:List A},ms.length=asl.length→aU f (ms++ns) (asl++bs)=aU f ms asl++aU f ns bs
 |[],[],ns,bs,_=>rfl
 |[],_::_,ns,bs,h=>by simp at h
 |_::_,[],ns,bs,h=>by simp at h
 |x::ms,y::asl,ns,bs,h=>by
  simp only [List.cons_append,aU,List.append_assoc]
  rw [jT (by simpa using h)]
theorem dZ {M A β:Type} {f:M→A→β} {ms:List M} {asl:List A} {k:Nat} {m:M} {a:A} (h:ms[k]? =some m) (h2:asl[k]? =some a):(List.zipWith f ms asl)[k]? =some (f m a):=by
 rw [List.getElem?_zipWith,h,h2]
theorem dy {C L:List av} {A:av} (i:Nat) (hC:C[i]? =some (e7 L).ro) (hm:A∈L):jc C A.holds:=fun w hw=>hw _ (aX hC) A hm
theorem dW {M A:Type} {f g:M→A→List av} {ms:List M} {asl:List A} {C:List av} (i:Nat) (hC:C[i]? =some (bo (aU g ms asl))) (h: ∀ m a w,(∀ X∈g m a,X.holds w)→ ∀ X∈f m a,X.holds w):jc C (e7 (aU f ms asl)).holds:=fun w hw X hX=>by
 have hb:=hw _ (aX hC)
 obtain ⟨k,m,a,B,D,E⟩:=jN hX
 exact h m a w (fun Y hY=>hb.1 Y (cj B D hY)) X E
/-- a row that is part of another one -/
theorem N6 {C:List av} {A:OA} {n k sz:Nat} {es:List (List Value)} (hR:jc C (rd A n sz es).holds) (hk:k≤n):jc C (rd A k sz (es.take k)).holds:=fun w hw=>by
 obtain ⟨D,E,F⟩:=hR w hw
 refine ⟨by rw [List.length_take,D]; omega,fun x hx=>E x (List.mem_of_mem_take hx),fun hp=>?_⟩
 have G:0<k:=Nat.pos_of_mul_pos_right hp
 have hs:0<sz:=Nat.pos_of_mul_pos_left hp
 obtain ⟨ad,hA,B⟩:=F (Nat.mul_pos om hs)
 refine ⟨ad,hA,fun i e j v he hv=>B i e j v ?_ hv⟩
 rw [List.getElem?_take] at he
 split at he
 ·exact he
 ·cases he
section
variable {E:ff} {ops:Array Oper} {Q:cZ} {rest:List Oper} {D:List Deferred} {L:List (Nat×Value)} {C:List av}
variable {d:Nat} {ty:TypeId} {ps:String} {af:Array Edge} {g:Option (Nat×Bool)}
/-- an element of a slice that is the head of a row -/
theorem Sn (k:Nat) {x ix:Operand} {A:OA} {n n' c sz e t:Nat} {es:List (List Value)} {j:Int} (h:bF E.n ops L d g x ix=some (.slice A n' c,.int .i64 j)) (hR:jc C (rd A n sz es).holds)
 (ht:tE E.P t=some (e,sz)) (hz:0<sz) (hj:j=(k:Int)) (hk:k<n') (hn:n'≤n):SE E ops ⟨some d,.indexAddr t x ix,ty,ps,af,g⟩ D L C (.pointer (lM A (k*sz))) d:=IA k h (N6 hR hn) ht hz hj hk
end
theorem St.tie {S:BS} {w0 w:World} {C:List av} {A:av} {L L':List av} (h:St S w0 (A::bo L::C) w) (e:L++[A]=L'):St S w0 (bo L'::C) w:=by
 subst e
 have B:St S w0 (bo L::A::C) w:=h.perm (List.Perm.swap _ _ _)
 have D:St S w0 (L++(A::C)) w:=B.ib
 have E:St S w0 ((L++[A])++C) w:=by simpa using D
 exact E.tied
theorem St.P0 {S:BS} {w0 w:World} {C:List av} (h:St S w0 C w):St S w0 (bo []::C) w:=St.tied (C1:=[]) h
section
variable {E:ff} {Q:cZ} {D:List Deferred} {L:List (Nat×Value)} {C:List av}
theorem ov {c:Code} (h:WJ E c Q D L (bo []::C)):WJ E c Q D L C:=fun a w hf hs=>h a w hf hs.P0
theorem xS {ops:Array Oper} {rest:List Oper} (h:RJ E ops Q rest D L (bo []::C)):RJ E ops Q rest D L C:=fun a w hf hs=>h a w hf hs.P0
theorem CY {K:Act→World→Prop} {C1:List av} {A:av} {X X':List av} (i j:Nat) (hn:decide (j::i::(List.range C.length).filter fun k=>k != i&&k != j).Nodup=true) (hC:kj C (j::i::(List.range C.length).filter fun k=>k != i&&k != j)=A::bo X::C1) (e:X++[A]=X')
 (h:KJ E K D L (bo X'::C1)):KJ E K D L C:=fun a w hf hs=>h a w hf ((St.kj _ hn hC hs).tie e)
theorem O5 {ops:Array Oper} {rest:List Oper} {C1:List av} {A:av} {X X':List av} (i j:Nat) (hn:decide (j::i::(List.range C.length).filter fun k=>k != i&&k != j).Nodup=true) (hC:kj C (j::i::(List.range C.length).filter fun k=>k != i&&k != j)=A::bo X::C1) (e:X++[A]=X')
 (h:RJ E ops Q rest D L (bo X'::C1)):RJ E ops Q rest D L C:=fun a w hf hs=>h a w hf ((St.kj _ hn hC hs).tie e)
end
end
section
open Go.RowKit
abbrev df:aa→Value:=fun s=>vA (aa.cells s)
abbrev eo:aC→Value:=fun s=>vA (aC.cells s)
abbrev TM:=List (Int×aa)
abbrev FM:=List (aC×Int)
def gJ {α:Type} (m:α) (b:Nat):List Value:=[Value.map (some b)]
def rl (m:TM) (b:Nat):List av:=[gZ iV b (bM df m)]
def nK (m:FM) (b:Nat):List av:=[gZ eo b (bM iV m)]
theorem xG {M A:Type} {f:M→A→List av}: ∀ (m:M) (a:A) (w:World),(∀ X∈f m a,X.holds w)→ ∀ X∈f m a,X.holds w:=fun _ _ _ h=>h
/-- untied -/
theorem N4 {E:ff} {ops:Array Oper} {Q:cZ} {rest:List Oper} {D:List Deferred} {L:List (Nat×Value)} {C X C1:List av} (i:Nat) (hn:decide (i::(List.range C.length).filter fun k=>k != i).Nodup=true) (hC:kj C (i::(List.range C.length).filter fun k=>k != i)=bo X::C1)
 (h:RJ E ops Q rest D L (X++C1)):RJ E ops Q rest D L C:=fun a w hf hs=>h a w hf (St.ib (St.kj _ hn hC hs))
end
section
def cK (ln:bK) (rd:eL) (e:List Int) (tms:List TM):bU:=⟨rd.Start,rd.gi,e,tms,ln.bL,ln.cv,(rd.aj.n:Int)⟩
def OC (o:Int×aa):List Value:=[.int .i64 o.1,.agg (aa.cells o.2).toArray]
structure G7 (w:bU):Prop where
 n:w.n≤6
 times:w.uY.length=w.n
 now:0≤w.Start∧w.Start≤w.gi∧w.gi≤86400000
 least: ∀ x∈w.pO,1≤x∧x≤500000000
 Ff: ∀ t∈w.uY,∀ p∈t,(0≤p.1∧p.1≤10)∧0≤p.2.Lo∧p.2.Lo≤p.2.Hi∧p.2.Hi≤86400000
theorem G7.opt {w:bU} (h:G7 w) {b:Nat} {o:Int×aa} (ho:o∈il w b):(-1≤o.1∧o.1≤10)∧0≤o.2.Lo∧o.2.Lo≤o.2.Hi∧o.2.Hi≤86400000:=by
 unfold il sR at ho
 rcases List.mem_cons.1 ho with rfl|ho
 ·have:=h.now; simp only; omega
 ·cases ht:w.uY[b]? with
  |none=>simp [ht] at ho
  |some t=>
   rw [ht] at ho
   have:=h.Ff t (aX ht) o ho
   omega
theorem G7.bV {w:bU} (h:G7 w) (b:Nat):0≤bV w b∧bV w b≤500000000:=by
 unfold Go.Proofs.YtdllkkdchkhimaaGreatDoor.bV
 cases ht:w.pO[b]? with
 |none=>simp
 |some x=>have:=h.least x (aX ht); simp only [Option.getD_some]; omega
theorem uD (s:Int):(0≤(fq s).right∧0≤(fq s).eQ)∧(fq s).right+(fq s).eQ=1:=by unfold fq; split<;>simp
theorem KN {w:bU} (h:G7 w): ∀ (b:Nat) p,p∈fwd w b→(0≤p.2∧p.2≤86400000)∧(0≤p.1.right∧0≤p.1.eQ)∧p.1.right+p.1.eQ=(b:Int):=by
 intro b
 induction b with
 |zero=>
  intro p hp
  simp only [fwd,bW] at hp
  subst hp
  have:=h.now; simp only; omega
 |succ b ih=>
  intro q hq
  obtain ⟨p,hp,o,ho,e⟩:=fP.1 hq
  have A:=ih p hp
  have B:=h.opt ho
  have C:=h.bV b
  have D:=h.now
  have E:=uD o.1
  unfold kH at e
  split at e
  ·simp only [Option.some.injEq] at e
   subst e
   simp only [dq]
   omega
  ·cases e
theorem Q9 {w:bU} (h:G7 w): ∀ (k:Nat) p,p∈bwd w k→(-(500000000*(k:Int))≤p.2∧p.2≤86400000)∧(0≤p.1.right∧0≤p.1.eQ)∧p.1.right+p.1.eQ≤(k:Int):=by
 intro k
 induction k with
 |zero=>
  intro p hp
  simp only [bwd,bW] at hp
  subst hp
  have:=h.now; simp only; omega
 |succ k ih=>
  intro q hq
  simp only [bwd,eu,List.mem_flatMap,List.mem_filterMap] at hq
  rcases hq with rfl|⟨p,hp,o,ho,e⟩
  ·have:=h.now; simp only; omega
  ·have A:=ih p hp
   have B:=h.opt ho
   have C:=h.bV (w.n-(k+1))
   have D:=h.now
   have E:=uD o.1
   unfold nN at e
   split at e
   ·simp only [Option.some.injEq] at e
    subst e
    simp only [dq]
    omega
   ·cases e
theorem JI {w:bU} (h:G7 w) {b:Nat} {p:aC×Int} (hp:p∈back w b):(-3000000000≤p.2∧p.2≤86400000)∧(0≤p.1.right∧0≤p.1.eQ)∧p.1.right+p.1.eQ≤6:=by
 have:=Q9 h _ _ hp
 have:=h.n
 omega
theorem wT {w:bU} {b:Nat} {t:TM} (ht:w.uY[b]? =some t) {o:Int×aa}:o∈il w b↔o=(-1,⟨w.Start,w.gi⟩)∨o∈t:=by
 unfold il sR; rw [ht]; simp
theorem lE {K β:Type} [DecidableEq K] {l:List (K×β)} {x:K} {y:β} (hn:(l.map (·.1)).Nodup) (hm:(x,y)∈l) {o:K×β} (h:o∈l):o∈cf l x∨o=(x,y):=by
 by_cases e:o.1=x
 ·right
  obtain ⟨k,v⟩:=o
  simp only at e
  subst e
  have B:=(iB hn).1 h
  have A:=(iB hn).1 hm
  rw [B] at A
  cases A; rfl
 ·exact .inl (jv.2 ⟨h,e⟩)
theorem Hx {K β:Type} [DecidableEq K] {t l ys:List (K×β)} {x:K} {y:β} (hn:(l.map (·.1)).Nodup) (hm:(x,y)∈l) (h: ∀ o∈t,o∈l∨o∈ys): ∀ o∈t,o∈cf l x∨o∈ys++[(x,y)]:=fun o ho=>by
 rcases h o ho with h|h
 ·rcases lE hn hm h with h|h
  ·exact .inl h
  ·exact .inr (by simp [h])
 ·exact .inr (by simp [h])
theorem l9 {K β:Type} [DecidableEq K] {t l:List (K×β)} {x:K} (h: ∀ o∈l,o∈t): ∀ o∈cf l x,o∈t:=fun o ho=>h o (jv.1 ho).1
theorem Iy {w:bU} {m left:List (aC×Int)} (h: ∀ p∈m,p∈left∨ko w p.1=false) (h0:left=[]):jm w m=false:=by
 unfold jm
 rw [List.any_eq_false]
 intro p hp
 rcases h p hp with q|q
 ·rw [h0] at q; cases q
 ·simp [q]
theorem NZ {w:bU} {m:List (aC×Int)} {p:aC×Int} (hp:p∈m) (h:ko w p.1=true):jm w m=true:=List.any_eq_true.2 ⟨p,hp,h⟩
theorem I3 {w:bU} {m left:List (aC×Int)} {t:aC} {v:Int} (hn:(left.map (·.1)).Nodup) (hm:(t,v)∈left) (h: ∀ p∈m,p∈left∨ko w p.1=false) (hf:ko w t=false): ∀ p∈m,p∈cf left t∨ko w p.1=false:=fun p hp=>by
 rcases h p hp with q|q
 ·rcases lE hn hm q with q|q
  ·exact .inl q
  ·right; rw [q]; exact hf
 ·exact .inr q
/-- what the maps of a watch are -/
structure wL (w:bU) (fs:List (List (aC×Int))):Prop where
 len:fs.length=w.n+1
 min: ∀ (b:Nat) m,fs[b]? =some m→tm m (fwd w b)
 keys: ∀ (b:Nat) m,fs[b]? =some m→(m.map (·.1)).Nodup
structure uv (w:bU) (bs:List (List (aC×Int))):Prop where
 len:bs.length=w.n+1
 max: ∀ (b:Nat) m,bs[b]? =some m→vi m (back w b)
 keys: ∀ (b:Nat) m,bs[b]? =some m→(m.map (·.1)).Nodup
theorem wL.mem {w:bU} {fs:List (List (aC×Int))} (h:wL w fs) {b:Nat} {m:List (aC×Int)} (hm:fs[b]? =some m) {p:aC×Int} (hp:p∈m):p∈fwd w b:=(h.min b m hm).1 _ _ ((fy (h.keys b m hm)).1 hp)
theorem uv.mem {w:bU} {fs:List (List (aC×Int))} (h:uv w fs) {b:Nat} {m:List (aC×Int)} (hm:fs[b]? =some m) {p:aC×Int} (hp:p∈m):p∈back w b:=(h.max b m hm).1 _ _ ((fy (h.keys b m hm)).1 hp)
theorem HI {w:bU} {b:Nat} {t l ys:List (Int×aa)} (ht:w.uY[b]? =some t) (h: ∀ o∈t,o∈l∨o∈ys) (h0:l=[]) (hs:(-1,(⟨w.Start,w.gi⟩:aa))∈ys): ∀ o∈il w b,o∈ys:=fun o ho=>by
 rcases (wT ht).1 ho with rfl|ho
 ·exact hs
 ·rcases h o ho with q|q
  ·rw [h0] at q; cases q
  ·exact q
end
section
/-- by these options all is yielded -/
def lv (w:bU) (b:Nat) (mf mb:List (aC×Int)) (os ys:List (Int×aa)):Prop:= ∀ o∈os,∀ p∈mf,∀ u∈mb,∀ q,l6 w b p u o=some q→q∈ys
def m0 (w:bU) (b:Nat) (mf mb:List (aC×Int)) (o:Int×aa) (left:List (aC×Int)) (ys:List (Int×aa)):Prop:= ∀ p∈mf,p∈left∨ ∀ u∈mb,∀ q,l6 w b p u o=some q→q∈ys
def nx (w:bU) (b:Nat) (mb:List (aC×Int)) (o:Int×aa) (p:aC×Int) (left:List (aC×Int)) (ys:List (Int×aa)):Prop:= ∀ u∈mb,u∈left∨ ∀ q,l6 w b p u o=some q→q∈ys
variable {w:bU} {b:Nat} {mf mb left:List (aC×Int)} {o x:Int×aa} {os ys:List (Int×aa)} {p u:aC×Int}
theorem lv.nil:lv w b mf mb [] ys:=fun o ho=>by cases ho
theorem lv.app (h:lv w b mf mb os ys):lv w b mf mb os (ys++[x]):=fun o ho p hp u hu q e=>List.mem_append_left _ (h o ho p hp u hu q e)
theorem m0.app (h:m0 w b mf mb o left ys):m0 w b mf mb o left (ys++[x]):=fun p hp=>(h p hp).imp id fun h u hu q e=>List.mem_append_left _ (h u hu q e)
theorem m0.start:m0 w b mf mb o mf ys:=fun p hp=> .inl hp
theorem nx.start:nx w b mb o p mb ys:=fun p hp=> .inl hp
theorem nx.skip {t:aC} {v:Int} (hn:(left.map (·.1)).Nodup) (hm:(t,v)∈left) (h:nx w b mb o p left ys) (he:l6 w b p (t,v) o=none):nx w b mb o p (cf left t) ys:=fun u hu=>by
 rcases h u hu with q|q
 ·rcases lE hn hm q with q|q
  ·exact .inl q
  ·right; intro z hz; rw [q,he] at hz; cases hz
 ·exact .inr q
theorem nx.TC {t:aC} {v:Int} (hn:(left.map (·.1)).Nodup) (hm:(t,v)∈left) (h:nx w b mb o p left ys) (he:l6 w b p (t,v) o=some x):nx w b mb o p (cf left t) (ys++[x]):=fun u hu=>by
 rcases h u hu with q|q
 ·rcases lE hn hm q with q|q
  ·exact .inl q
  ·right; intro z hz; rw [q,he] at hz; cases hz; simp
 ·right; intro z hz; exact List.mem_append_left _ (q z hz)
theorem m0.next {t:aC} {v:Int} {l2:List (aC×Int)} (hn:(left.map (·.1)).Nodup) (hm:(t,v)∈left) (h:m0 w b mf mb o left ys) (hq:nx w b mb o (t,v) l2 ys) (h0:l2=[]):m0 w b mf mb o (cf left t) ys:=fun p hp=>by
 rcases h p hp with q|q
 ·rcases lE hn hm q with q|q
  ·exact .inl q
  ·right; intro u hu z hz; subst q
   rcases hq u hu with q|q
   ·rw [h0] at q; cases q
   ·exact q z hz
 ·exact .inr q
theorem lv.next (h:lv w b mf mb os ys) (hp:m0 w b mf mb o left ys) (h0:left=[]):lv w b mf mb (os++[o]) ys:=fun o' ho p hp' u hu q e=>by
 rcases List.mem_append.1 ho with ho|ho
 ·exact h o' ho p hp' u hu q e
 ·simp only [bW] at ho; subst ho
  rcases hp p hp' with z|z
  ·rw [h0] at z; cases z
  ·exact z u hu q e
theorem lv.fin (h:lv w b mf mb os ys) (ho: ∀ o∈il w b,o∈os): ∀ q∈pQ w b mf mb,q∈ys:=fun q hq=>by
 obtain ⟨o,A,p,B,u,C,e⟩:=hO.1 hq
 exact h o (ho o A) p B u C q e
theorem G4 (h:max (p.2+bV w b) o.2.Lo≤min u.2 o.2.Hi) (h2:ko w (dq (dq p.1 u.1) (fq o.1))=true):l6 w b p u o=some (o.1,⟨max (p.2+bV w b) o.2.Lo,min u.2 o.2.Hi⟩):=by
 unfold l6 jq xU; rw [if_pos ⟨h,h2⟩]
theorem IE (h: ¬ max (p.2+bV w b) o.2.Lo≤min u.2 o.2.Hi):l6 w b p u o=none:=by
 unfold l6 jq; rw [if_neg (fun q=>h q.1)]
theorem Gf (h2:ko w (dq (dq p.1 u.1) (fq o.1))=false):l6 w b p u o=none:=by
 unfold l6 xU; rw [if_neg (fun q=>by rw [h2] at q; exact absurd q.2 dc)]
theorem m6 {v:Int} (h:w.pO[b]? =some v):bV w b=v:=by unfold bV; rw [h]; rfl
theorem B2 {t q:aC} {v z y:Int} (hy:w.pO[b]? =some y) (h:max (v+y) o.2.Lo≤min z o.2.Hi) (h2:ko w (dq (dq t q) (fq o.1))=true):l6 w b (t,v) (q,z) o=some (o.1,⟨max (v+y) o.2.Lo,min z o.2.Hi⟩):=by
 have e:=m6 hy
 subst e
 exact G4 h h2
theorem GA {t q:aC} {v z y:Int} (hy:w.pO[b]? =some y) (h: ¬ max (v+y) o.2.Lo≤min z o.2.Hi):l6 w b (t,v) (q,z) o=none:=by
 have e:=m6 hy
 subst e
 exact IE h
theorem nX {m:List (aC×Int)} {k:aC} {y:Int} (h:(m.map (·.1)).Nodup):((dK m k y).map (·.1)).Nodup:=by
 unfold dK
 by_cases hx:(m.lookup k).isSome
 ·rw [if_pos hx,List.map_map]
  have e:m.map ((fun p=>p.1)∘fun p=>if p.1=k then (k,y) else p)=m.map (·.1):=by
   apply List.map_congr_left
   intro p _
   simp only [Function.comp]
   split
   ·rename_i e; exact e.symm
   ·rfl
  rw [e]; exact h
 ·rw [if_neg hx,List.map_append,List.nodup_append]
  refine ⟨h,sm,?_⟩
  intro a ha c hc
  simp only [List.map_cons,List.map_nil,bW] at hc
  rw [hc]
  obtain ⟨p,hp,rfl⟩:=List.mem_map.1 ha
  have hn:m.lookup k=none:=by cases h0:m.lookup k with
   |none=>rfl
   |some v=>exact absurd (by rw [h0]; rfl) hx
  exact iz.1 hn p hp
theorem Cn {m:List (aC×Int)} {q:aC×Int} (h:(m.map (·.1)).Nodup):((o2 m q).map (·.1)).Nodup:=by
 unfold o2; split
 ·exact nX h
 ·split
  ·exact nX h
  ·exact h
theorem Bv {m:List (aC×Int)} {q:aC×Int} (h:(m.map (·.1)).Nodup):((oI m q).map (·.1)).Nodup:=by
 unfold oI; split
 ·exact nX h
 ·split
  ·exact nX h
  ·exact h
/-- a map of the first times, on its way -/
structure x5 (w:bU) (b:Nat) (m:List (aC×Int)):Prop where
 snd:vg m (fwd w (b+1))
 keys:(m.map (·.1)).Nodup
structure vC (w:bU) (b:Nat) (m:List (aC×Int)):Prop where
 snd:vg m (back w b)
 keys:(m.map (·.1)).Nodup
 zero: ∃ v,m.lookup ⟨0,0⟩=some v∧w.gi≤v
theorem Ll (h:max (p.2+bV w b) o.2.Lo≤min o.2.Hi w.gi):kH w b p o=some (dq p.1 (fq o.1),max (p.2+bV w b) o.2.Lo):=by unfold kH; rw [if_pos h]
theorem N_ (h: ¬ max (p.2+bV w b) o.2.Lo≤min o.2.Hi w.gi):kH w b p o=none:=by unfold kH; rw [if_neg h]
theorem Jy (h:o.2.Lo≤min p.2 o.2.Hi):nN w b p o=some (dq p.1 (fq o.1),min p.2 o.2.Hi-bV w b):=by unfold nN; rw [if_pos h]
theorem M5 (h: ¬ o.2.Lo≤min p.2 o.2.Hi):nN w b p o=none:=by unfold nN; rw [if_neg h]
theorem x5.start:x5 w b []:=⟨fun t v h=>by simp at h,List.nodup_nil⟩
theorem x5.add {m:List (aC×Int)} {q:aC×Int} (h:x5 w b m) (hp:p∈fwd w b) (ho:o∈il w b) (he:kH w b p o=some q):x5 w b (o2 m q):=⟨Gz h.snd (fP.2 ⟨p,hp,o,ho,he⟩),Cn h.keys⟩
theorem vC.start (hb:b<w.n):vC w b [(⟨0,0⟩,w.gi)]:=⟨fun t v h=>by
 obtain ⟨rfl,rfl⟩:=oZ.1 h
 exact (oS hb).2 (.inl U),sm,w.gi,oZ.2 ⟨U,U⟩,Int.le_refl _⟩
theorem vC.add {m:List (aC×Int)} {q:aC×Int} (hb:b<w.n) (h:vC w b m) (hp:p∈back w (b+1)) (ho:o∈il w b) (he:nN w b p o=some q):vC w b (oI m q):=⟨G_ h.snd ((oS hb).2 (.inr ⟨p,hp,o,ho,he⟩)),Bv h.keys,by
 obtain ⟨v,A,C⟩:=h.zero
 obtain ⟨v',B,D⟩:=qE (q:=q) _ _ A
 exact ⟨v',B,om⟩⟩
theorem iT.none_ {m:List (aC×Int)} (h:iT w b m p os) (he:kH w b p o=none):iT w b m p (os++[o]):=h.add (wk.refl _) fun q hq=>by rw [he] at hq; cases hq
theorem iT.IZ {m:List (aC×Int)} {q:aC×Int} (h:iT w b m p os) (he:kH w b p o=some q):iT w b (o2 m q) p (os++[o]):=h.add uT fun q' hq=>by rw [he] at hq; cases hq; exact Hk
theorem i_.none_ {m:List (aC×Int)} (h:i_ w b m p os) (he:nN w b p o=none):i_ w b m p (os++[o]):=h.add (wR.refl _) fun q hq=>by rw [he] at hq; cases hq
theorem i_.IZ {m:List (aC×Int)} {q:aC×Int} (h:i_ w b m p os) (he:nN w b p o=some q):i_ w b (oI m q) p (os++[o]):=h.add qE fun q' hq=>by rw [he] at hq; cases hq; exact G5
/-- what of a map of the beam before is used already -/
def j3 (w:bU) (b:Nat) (mb m left:List (aC×Int)):Prop:= ∀ p∈mb,p∈left∨iT w b m p (il w b)
def jA (w:bU) (b:Nat) (mb m left:List (aC×Int)):Prop:= ∀ p∈mb,p∈left∨i_ w b m p (il w b)
theorem j3.start {m:List (aC×Int)}:j3 w b mb m mb:=fun p hp=> .inl hp
theorem jA.start {m:List (aC×Int)}:jA w b mb m mb:=fun p hp=> .inl hp
theorem j3.lower {m m':List (aC×Int)} (h:j3 w b mb m left) (hl:wk m m'):j3 w b mb m' left:=fun p hp=>(h p hp).imp id fun h=>h.lower hl
theorem jA.upper {m m':List (aC×Int)} (h:jA w b mb m left) (hl:wR m m'):jA w b mb m' left:=fun p hp=>(h p hp).imp id fun h=>h.upper hl
theorem j3.next {m:List (aC×Int)} {t:aC} {v:Int} (hn:(left.map (·.1)).Nodup) (hm:(t,v)∈left) (h:j3 w b mb m left) (hd:iT w b m (t,v) os) (ho: ∀ o∈il w b,o∈os):j3 w b mb m (cf left t):=fun p hp=>by
 rcases h p hp with q|q
 ·rcases lE hn hm q with q|q
  ·exact .inl q
  ·right; rw [q]; exact hd.sub ho
 ·exact .inr q
theorem jA.next {m:List (aC×Int)} {t:aC} {v:Int} (hn:(left.map (·.1)).Nodup) (hm:(t,v)∈left) (h:jA w b mb m left) (hd:i_ w b m (t,v) os) (ho: ∀ o∈il w b,o∈os):jA w b mb m (cf left t):=fun p hp=>by
 rcases h p hp with q|q
 ·rcases lE hn hm q with q|q
  ·exact .inl q
  ·right; rw [q]; exact hd.sub ho
 ·exact .inr q
theorem j3.fin {m:List (aC×Int)} (h:j3 w b mb m left) (h0:left=[]): ∀ p∈mb,iT w b m p (il w b):=fun p hp=>by
 rcases h p hp with q|q
 ·rw [h0] at q; cases q
 ·exact q
theorem jA.fin {m:List (aC×Int)} (h:jA w b mb m left) (h0:left=[]): ∀ p∈mb,i_ w b m p (il w b):=fun p hp=>by
 rcases h p hp with q|q
 ·rw [h0] at q; cases q
 ·exact q
end
section
def mz (a b:aa):aa:=⟨a.Lo+b.Lo,a.Hi+b.Hi⟩
def dE:aa:=⟨0,0⟩
def kp (a:aa) (l:List aa):aa:=l.foldl mz a
def lk (z:aa):Prop:=(-1000000000≤z.Lo∧z.Lo≤1000000000)∧ -1000000000≤z.Hi∧z.Hi≤1000000000
theorem zA {a:aa} {l:List aa} {i:Nat} {z:aa} (h:l[i]? =some z):kp a (l.take (i+1))=mz (kp a (l.take i)) z:=by
 rw [List.take_add_one,h]; unfold kp; simp
theorem P9 {a:aa} {l:List aa} (ha:lk a) (hl: ∀ z∈l,lk z): ∀ i:Nat,(-1000000000-1000000000*(i:Int)≤(kp a (l.take i)).Lo∧(kp a (l.take i)).Lo≤1000000000+1000000000*(i:Int))∧ -1000000000-1000000000*(i:Int)≤(kp a (l.take i)).Hi∧(kp a (l.take i)).Hi≤1000000000+1000000000*(i:Int):=by
 intro i
 induction i with
 |zero=>unfold lk at ha; simp [kp]; omega
 |succ i ih=>
  cases h:l[i]? with
  |none=>rw [List.take_add_one,h]; simp only [Option.toList_none,List.append_nil]; omega
  |some z=>
   have hz:=hl z (aX h)
   unfold lk at hz
   rw [zA h]
   simp only [mz]
   omega
theorem IF {a:aa} {l:List aa} {i:Nat} (h:l.length≤i):kp a (l.take i)=kp a l:=by rw [List.take_of_length_le h]
theorem nq {a z:aa}:vA (aa.cells (kp a [z]))=vA (aa.cells (mz a z)):=rfl
theorem AU {a y z:aa}:vA (aa.cells (kp a [y,z]))=vA (aa.cells (mz (mz a y) z)):=rfl
/-- how long the run is from one mark, over so many stretches; by how much it falls -/
def eI (ts:List ao) (f:Nat):Nat→aa
 |0=>dE
 |k+1=>match ts[f+k]? with
  |some x=>mz (eI ts f k) x.km
  |none=>eI ts f k
def gh (ts:List ao) (f:Nat):Nat→aa
 |0=>dE
 |k+1=>match ts[f+k]? with
  |some x=>mz (gh ts f k) x.lz
  |none=>gh ts f k
theorem pI {ts:List ao} {f k:Nat} {x:ao} (h:ts[f+k]? =some x):eI ts f (k+1)=mz (eI ts f k) x.km:=by simp [eI,h]
theorem pf {ts:List ao} {f k:Nat} {x:ao} (h:ts[f+k]? =some x):gh ts f (k+1)=mz (gh ts f k) x.lz:=by simp [gh,h]
theorem l4 {ts:List ao} (ht: ∀ x∈ts,bS x) (f:Nat): ∀ k:Nat,(0≤(eI ts f k).Lo∧(eI ts f k).Lo≤(eI ts f k).Hi)∧(eI ts f k).Hi≤30000*(k:Int):=by
 intro k
 induction k with
 |zero=>simp [eI,dE]
 |succ k ih=>
  simp only [eI]
  cases h:ts[f+k]? with
  |none=>simp only; omega
  |some x=>
   have hx:=(ht x (aX h)).2.1
   simp only [dV] at hx
   simp only [mz]
   omega
theorem FE {ts:List ao} (ht: ∀ x∈ts,bS x) (f:Nat): ∀ k:Nat,(0≤(gh ts f k).Lo∧(gh ts f k).Lo≤(gh ts f k).Hi)∧(gh ts f k).Hi≤5000*(k:Int):=by
 intro k
 induction k with
 |zero=>simp [gh,dE]
 |succ k ih=>
  simp only [gh]
  cases h:ts[f+k]? with
  |none=>simp only; omega
  |some x=>
   have hx:=(ht x (aX h)).2.2.1
   simp only [dV] at hx
   simp only [mz]
   omega
theorem qf {ts:List ao} (ht: ∀ x∈ts,bS x) {f k:Nat} (hk:k≤13):lk (eI ts f k):=by
 have:=l4 ht f k; unfold lk; omega
theorem xC {ts:List ao} (ht: ∀ x∈ts,bS x) {f k:Nat} (hk:k≤13):lk (gh ts f k):=by
 have:=FE ht f k; unfold lk; omega
theorem uc {x:ao} (h:bS x):lk x.km:=by have:=h.2.1; simp only [dV] at this; unfold lk; omega
theorem uz {x:ao} (h:bS x):lk x.lz:=by have:=h.2.2.1; simp only [dV] at this; unfold lk; omega
theorem yA {ts:List ao} (h: ¬ (if cV ts=true then (0:Int) else 10)=0):cV ts=false∧(if cV ts=true then (0:Int) else 10)=10:=by
 cases ht:cV ts with
 |true=>rw [ht] at h; exact absurd rfl h
 |false=>exact ⟨rfl,rfl⟩
theorem D2 {ts:List ao} (h:(if cV ts=true then (0:Int) else 10)=0):cV ts=true:=by
 cases ht:cV ts with
 |true=>rfl
 |false=>rw [ht] at h; exact absurd h dc
/-- what the iterator of marks yields -/
def s7 (ts:List ao) (f:Nat):List (List Value):=(List.range (ts.length-f+1)).map fun (k:Nat)=>[.agg (eI ts f k).cells.toArray,.agg (gh ts f k).cells.toArray]
theorem s9 {ts:List ao} {f:Nat}:(s7 ts f).length=ts.length-f+1:=by simp [s7]
theorem yS {ts:List ao} {f k:Nat} (h:k≤ts.length-f):(s7 ts f)[k]? =some [.agg (eI ts f k).cells.toArray,.agg (gh ts f k).cells.toArray]:=by
 simp [s7,List.getElem?_range (show k<ts.length-f+1 by omega)]
theorem HM {ts:List ao} {f k:Nat} {x:List Value} (h:(s7 ts f)[k]? =some x):k≤ts.length-f∧x=[.agg (eI ts f k).cells.toArray,.agg (gh ts f k).cells.toArray]:=by
 have hi:k<ts.length-f+1:=by
  have:=(List.getElem?_eq_some_iff.1 h).1
  simpa [s7] using this
 rw [yS om] at h
 exact ⟨om,(Option.some.inj h).symm⟩
theorem Eg {ts:List ao} {f:Nat}: ∀ x∈s7 ts f,x.length=2:=fun x hx=>by
 obtain ⟨k,_,rfl⟩:=List.mem_map.1 hx; rfl
end
section
def fr (ts:List ao) (s:cJ):Prop:=(0≤s.a_∧s.a_<(ts.length:Int))∧ ∃ x,ts[s.a_.toNat]? =some x∧dV s.mB 0 (x.km.Lo-1)
noncomputable instance (ts:List ao) (s:cJ):Decidable (fr ts s):=Classical.propDecidable _
theorem BC {ts:List ao} {s:cJ} {x:ao} (h:0≤s.a_∧s.a_<(ts.length:Int)) (hx:ts[s.a_.toNat]? =some x):fr ts s↔dV s.mB 0 (x.km.Lo-1):=
 ⟨fun A=>by obtain ⟨y,hy,B⟩:=A.2; rw [hx] at hy; cases hy; exact B,fun A=>⟨h,x,hx,A⟩⟩
theorem CR {ts:List ao} {s:cJ} (h: ¬ (0≤s.a_∧s.a_<(ts.length:Int))): ¬ fr ts s:=fun A=>h A.1
theorem zI {ts:List ao} {s:cJ} (ht: ∀ x∈ts,bS x) (h:fr ts s):(0≤s.mB.Lo∧s.mB.Lo≤s.mB.Hi)∧s.mB.Hi≤30000:=by
 obtain ⟨x,hx,A⟩:=h.2
 have:=(ht x (aX hx)).2.1
 simp only [dV] at A this
 omega
theorem DP {ts:List ao} {a:cJ}:vB (decide (∀ s∈[a],fr ts s))=vB (decide (fr ts a)):=congrArg _ (decide_eq_decide.2 sm)
theorem DR {ts:List ao} {a b:cJ}:vB (decide (∀ s∈[a,b],fr ts s))=vB (decide (fr ts a∧fr ts b)):=congrArg _ (decide_eq_decide.2 sm)
def nW (z:aa):aa:=⟨-z.Hi,-z.Lo⟩
def Ma (ts:List ao) (s:cJ):aa:=mz (eI ts 0 s.a_.toNat) s.mB
noncomputable def FX (ts:List ao) (s:cJ):Int:=if cV ts=true then (if fr ts s then 0 else 12) else 10
noncomputable def P7 (ts:List ao) (s:cJ):aa:=if FX ts s=0 then Ma ts s else dE
theorem Lc {ts:List ao} {s:cJ} (h:cV ts=false):FX ts s=10∧P7 ts s=dE:=by
 have e:FX ts s=10:=by unfold FX; rw [h]; rfl
 exact ⟨e,by unfold P7; rw [e]; rfl⟩
theorem Kv {ts:List ao} {s:cJ} (h:cV ts=true) (h2: ¬ fr ts s):FX ts s=12∧P7 ts s=dE:=by
 have e:FX ts s=12:=by unfold FX; rw [if_pos h,if_neg h2]
 exact ⟨e,by unfold P7; rw [e]; rfl⟩
theorem wV {ts:List ao} {s:cJ} (h:cV ts=true) (h2:fr ts s):FX ts s=0∧P7 ts s=Ma ts s:=by
 have e:FX ts s=0:=by unfold FX; rw [if_pos h,if_pos h2]
 exact ⟨e,if_pos e⟩
theorem E8 {ts:List ao} {s:cJ} (h:cV ts=true):FX ts s=0↔fr ts s:=by
 unfold FX; rw [if_pos h]; split<;>simp [*]
def wW (ts:List ao) (a b:cJ):aa:=eI ts (min a.a_ b.a_).toNat (max a.a_ b.a_-min a.a_ b.a_).toNat
def j0 (ts:List ao) (a b:cJ):aa:=mz (mz (if b.a_<a.a_ then nW (wW ts a b) else wW ts a b) b.mB) (nW a.mB)
noncomputable def lx (ts:List ao) (a b:cJ):Int:=if cV ts=true then (if fr ts a∧fr ts b then 0 else 12) else 10
noncomputable def kG (ts:List ao) (a b:cJ):aa:=if lx ts a b=0 then j0 ts a b else dE
theorem uM {ts:List ao} {a b:cJ} (h:cV ts=false):lx ts a b=10∧kG ts a b=dE:=by
 have e:lx ts a b=10:=by unfold lx; rw [h]; rfl
 exact ⟨e,by unfold kG; rw [e]; rfl⟩
theorem oJ {ts:List ao} {a b:cJ} (h:cV ts=true) (h2: ¬ (fr ts a∧fr ts b)):lx ts a b=12∧kG ts a b=dE:=by
 have e:lx ts a b=12:=by unfold lx; rw [if_pos h,if_neg h2]
 exact ⟨e,by unfold kG; rw [e]; rfl⟩
theorem k8 {ts:List ao} {a b:cJ} (h:cV ts=true) (h2:fr ts a∧fr ts b):lx ts a b=0∧kG ts a b=j0 ts a b:=by
 have e:lx ts a b=0:=by unfold lx; rw [if_pos h,if_pos h2]
 exact ⟨e,if_pos e⟩
theorem Ac {z:aa} (h:lk z):lk (nW z):=by unfold lk nW at *; simp only; omega
theorem qz {ts:List ao} {s:cJ} (ht: ∀ x∈ts,bS x) (h:fr ts s):lk s.mB:=by have:=zI ht h; unfold lk; omega
theorem PL {ts:List ao} {a b:cJ} (ht: ∀ x∈ts,bS x) (hl:ts.length≤12) (ha:fr ts a) (hb:fr ts b):(0≤(wW ts a b).Lo∧(wW ts a b).Lo≤(wW ts a b).Hi)∧(wW ts a b).Hi≤360000:=by
 have h:=l4 ht (min a.a_ b.a_).toNat (max a.a_ b.a_-min a.a_ b.a_).toNat
 have A:=ha.1
 have B:=hb.1
 unfold wW
 omega
theorem wS {ts:List ao} {a b:cJ} (ht: ∀ x∈ts,bS x) (hl:ts.length≤12) (ha:fr ts a) (hb:fr ts b):(-400000≤(j0 ts a b).Lo∧(j0 ts a b).Lo≤(j0 ts a b).Hi)∧(j0 ts a b).Hi≤400000:=by
 have h:=PL ht hl ha hb
 have A:=zI ht ha
 have B:=zI ht hb
 unfold j0 mz nW
 split<;>simp only <;>omega
theorem Se {ts:List ao} {s:cJ} (ht: ∀ x∈ts,bS x) (hl:ts.length≤12) (h:fr ts s):(0≤(Ma ts s).Lo∧(Ma ts s).Lo≤(Ma ts s).Hi)∧(Ma ts s).Hi≤400000:=by
 have A:=l4 ht 0 s.a_.toNat
 have B:=zI ht h
 have C:=h.1
 unfold Ma mz
 simp only; omega
theorem HL {α:Type} {p:Nat→α→Bool} {l:List α}:((l.zipIdx.filter fun q=>p q.2 q.1).map fun q=>(q.2:Int))=[]↔ ∀ (i:Nat) x,l[i]? =some x→p i x=false:=by
 rw [List.map_eq_nil_iff,List.filter_eq_nil_iff]
 constructor
 ·intro h i x hx
  have:=h (x,i) (by rw [List.mem_zipIdx_iff_getElem?]; simpa using hx)
  simpa using this
 ·rintro h ⟨x,i⟩ hm
  rw [List.mem_zipIdx_iff_getElem?] at hm
  simpa using h i x (by simpa using hm)
/-- the places of a list at which something is so -/
def sh {α:Type} (p:Nat→α→Bool) (l:List α) (n:Nat):List Int:=(((l.take n).zipIdx.filter fun q=>p q.2 q.1).map fun q=>(q.2:Int))
theorem IN {α:Type} {p:Nat→α→Bool} {l:List α} {i:Nat} {x:α} (hx:l[i]? =some x) (h:p i x=true):sh p l (i+1)=sh p l i++[(i:Int)]:=by
 have hi:=(List.getElem?_eq_some_iff.1 hx).1
 unfold sh
 rw [List.take_add_one,hx,List.zipIdx_append,List.filter_append,List.map_append]
 simp [Nat.min_eq_left (Nat.le_of_lt hi),h]
theorem Nu {α:Type} {p:Nat→α→Bool} {l:List α} {i:Nat} {x:α} (hx:l[i]? =some x) (h:p i x=false):sh p l (i+1)=sh p l i:=by
 have hi:=(List.getElem?_eq_some_iff.1 hx).1
 unfold sh
 rw [List.take_add_one,hx,List.zipIdx_append,List.filter_append,List.map_append]
 simp [Nat.min_eq_left (Nat.le_of_lt hi),h]
theorem Bw {α:Type} {p:Nat→α→Bool} {l:List α} {n:Nat}:(sh p l n).length≤n:=by
 unfold sh
 rw [List.length_map]
 refine Nat.le_trans (List.length_filter_le _ _) ?_
 rw [List.length_zipIdx,List.length_take]; omega
def KL {α:Type} (p:Nat→α→Bool) (l:List α):List Int:=sh p l l.length
theorem Mz {α:Type} {p:Nat→α→Bool} {l:List α} {n:Nat} (h:n=l.length):sh p l n=KL p l:=by rw [h]; rfl
theorem Hq {α:Type} {p:Nat→α→Bool} {l:List α}:(KL p l).length=0↔ ∀ (i:Nat) x,l[i]? =some x→p i x=false:=by
 unfold KL sh
 rw [List.length_eq_zero_iff,List.take_length]
 exact HL
end
section
theorem yX (p:Int→Bool) (n:Nat): ∃ r:Int,r=((List.range n).findIdx fun (k:Nat)=>p (k:Int):Nat):=⟨_,rfl⟩
noncomputable def fx (p:Int→Bool) (n:Nat):Int:=Classical.choose (yX p n)
theorem rQ (p:Int→Bool) (n:Nat):fx p n=((List.range n).findIdx fun (k:Nat)=>p (k:Int):Nat):=Classical.choose_spec (yX p n)
theorem hZ {p:Int→Bool} {n:Nat}:0≤fx p n∧fx p n≤n:=by
 rw [rQ]
 have:=List.findIdx_le_length (xs:=List.range n) (p:=fun (k:Nat)=>p (k:Int))
 rw [List.length_range] at this
 omega
theorem uG {p:Int→Bool} {n:Nat} {x:Int} (h0:0≤x) (h:x<fx p n):p x=false:=by
 have hb:=hZ (p:=p) (n:=n)
 rw [rQ] at h
 have B:x.toNat<(List.range n).findIdx fun (k:Nat)=>p (k:Int):=by omega
 have A:=List.not_of_lt_findIdx B
 simp only [List.getElem_range] at A
 rw [show (x.toNat:Int)=x by omega] at A
 simpa using A
theorem yW {p:Int→Bool} {n:Nat} (h:fx p n<n):p (fx p n)=true:=by
 rw [rQ] at h ⊢
 have A:((List.range n).findIdx fun (k:Nat)=>p (k:Int))<(List.range n).length:=by rw [List.length_range]; omega
 have:=List.findIdx_getElem (w:=A)
 simpa using this
theorem yH {p:Int→Bool} {n:Nat} {r:Int} (h0:0≤r) (hn:r<n) (hr:p r=true) (hb: ∀ x,0≤x→x<r→p x=false):fx p n=r:=by
 have A:=hZ (p:=p) (n:=n)
 rcases Int.lt_trichotomy (fx p n) r with h|h|h
 ·have:=hb _ A.1 h
  have e:=yW (p:=p) (n:=n) om
  rw [e] at this; cases this
 ·exact h
 ·have:=uG h0 h
  rw [hr] at this; cases this
end
section
def o5 (n by_:Int):Int:=(n+by_-1)/by_
/-- by how much a sync may be off -/
def si (c:au) (at_:Int) (x:cG):Int:=o5 (c.dk*max (at_-x.At) (x.At-at_)) 1000000
def lK (c:au) (at_:Int) (s:aa) (x:cG):aa:=⟨max s.Lo (x.eB.Lo-si c at_ x),min s.Hi (x.eB.Hi+si c at_ x)⟩
def gp (c:au) (at_:Int) (k:Nat):aa:=(c.bu.take k).foldl (lK c at_) ⟨-1099511627776,1099511627776⟩
def ic (c:au) (at_:Int):aa:=c.bu.foldl (lK c at_) ⟨-1099511627776,1099511627776⟩
theorem jQ {c:au} {at_:Int} {k:Nat} {x:cG} (h:c.bu[k]? =some x):gp c at_ (k+1)=lK c at_ (gp c at_ k) x:=by
 unfold gp; rw [List.take_add_one,h,List.foldl_append]; rfl
theorem nG {c:au} {at_:Int} {k:Nat} (h:c.bu.length≤k):gp c at_ k=ic c at_:=by unfold gp ic; rw [List.take_of_length_le h]
def kd (c:au) (i:Nat):Int:=if i=0 then-1 else ((c.bu[i-1]?).map (·.At)).getD 0
def fu (c:au) (i:Nat) (x:cG):Prop:=(kd c i<x.At∧x.At≤86400000)∧ -10000≤x.eB.Lo∧x.eB.Lo≤x.eB.Hi∧x.eB.Hi≤10000
def nu (c:au) (x o:cG):Prop:=x.eB.Lo-o.eB.Hi≤o5 (c.dk*(x.At-o.At)) 1000000∧o.eB.Lo-x.eB.Hi≤o5 (c.dk*(x.At-o.At)) 1000000
structure eY (c:au):Prop where
 ry:0≤c.dk∧c.dk≤1000
 len:1≤c.bu.length∧c.bu.length≤5
 sync: ∀ (i:Nat) x,c.bu[i]? =some x→fu c i x
 pair: ∀ (i k:Nat) x o,c.bu[i]? =some x→k<i→c.bu[k]? =some o→nu c x o
noncomputable instance (c:au):Decidable (eY c):=Classical.propDecidable _
theorem gG {c:au} {i:Nat} (h:i=0):kd c i= -1:=if_pos h
theorem xz {c:au} {i:Nat} {y:cG} (h:0<i) (hy:c.bu[i-1]? =some y):kd c i=y.At:=by unfold kd; rw [if_neg om,hy]; rfl
theorem nZ {c:au} {i:Nat} {y:cG} (hy:c.bu[i]? =some y):kd c (i+1)=y.At:=by unfold kd; rw [if_neg om,Nat.add_sub_cancel,hy]; rfl
/-- the times of the syncs -/
theorem Og {c:au} (h: ∀ (i:Nat) x,c.bu[i]? =some x→fu c i x): ∀ (i:Nat) x,c.bu[i]? =some x→0≤x.At∧ ∀ (k:Nat) o,k<i→c.bu[k]? =some o→o.At<x.At:=by
 intro i
 induction i with
 |zero=>
  intro x hx
  have:=(h 0 x hx).1.1
  rw [gG rfl] at this
  exact ⟨om,fun k o hk=>by omega⟩
 |succ i ih=>
  intro x hx
  have hi:=(List.getElem?_eq_some_iff.1 hx).1
  have hy:c.bu[i]? =some (c.bu[i]'om):=e9 om
  have B:=ih _ hy
  have A:=(h (i+1) x hx).1.1
  rw [nZ hy] at A
  refine ⟨om,fun k o hk ho=>?_⟩
  by_cases e:k=i
  ·subst e; rw [hy] at ho; cases ho; exact A
  ·have:=B.2 k o om ho; omega
theorem eY.ur {c:au} (h:eY c) {i:Nat} {x:cG} (hx:c.bu[i]? =some x):(0≤x.At∧x.At≤86400000)∧ -10000≤x.eB.Lo∧x.eB.Lo≤x.eB.Hi∧x.eB.Hi≤10000:=by
 have A:=h.sync i x hx
 exact ⟨⟨(Og h.sync i x hx).1,A.1.2⟩,A.2⟩
theorem F1 {d a b:Int} (hd:0≤d∧d≤1000) (ha:0≤a∧a≤90000000) (hb:0≤b∧b≤90000000):0≤d*max (a-b) (b-a)∧d*max (a-b) (b-a)≤90000000000:=by
 have:=P5 (a:=d) (b:=max (a-b) (b-a)) (A:=1000) (B:=90000000) hd.1 hd.2 om om
 omega
theorem uE {c:au} {at_:Int} {x:cG} (hd:0≤c.dk∧c.dk≤1000) (ha:0≤at_∧at_≤90000000) (hx:0≤x.At∧x.At≤86400000):0≤si c at_ x∧si c at_ x≤90001:=by
 have h:=F1 hd ha (show 0≤x.At∧x.At≤90000000 by omega)
 unfold si o5; omega
theorem BX {c:au} {at_:Int} (h:eY c) (ha:0≤at_∧at_≤90000000): ∀ k:Nat,(-1099511627776≤(gp c at_ k).Lo∧(gp c at_ k).Lo≤10000)∧ -10000≤(gp c at_ k).Hi∧(gp c at_ k).Hi≤1099511627776:=by
 intro k
 induction k with
 |zero=>simp [gp]
 |succ k ih=>
  cases hx:c.bu[k]? with
  |none=>unfold gp at ih ⊢; rw [List.take_add_one,hx]; simpa using ih
  |some x=>
   have hb:=h.ur hx
   have ho:=uE h.ry ha hb.1
   rw [jQ hx]
   unfold lK
   simp only
   omega
theorem qB {c:au} {at_:Int} (h:eY c) (ha:0≤at_∧at_≤90000000):(-110000≤(ic c at_).Lo∧(ic c at_).Lo≤10000)∧ -10000≤(ic c at_).Hi∧(ic c at_).Hi≤110000:=by
 obtain ⟨n,hn⟩: ∃ n,c.bu.length=n+1:=⟨c.bu.length-1,by have:=h.len; omega⟩
 have hx:c.bu[n]? =some (c.bu[n]'om):=e9 om
 have hb:=h.ur hx
 have ho:=uE h.ry ha hb.1
 have A:=BX h ha n
 rw [← nG (k:=n+1) om,jQ hx]
 unfold lK
 simp only
 omega
/-- as time goes on, time and what a clock may be ahead, together, never go back -/
theorem DY {c:au} (h:eY c) {a b:Int} (ha:0≤a) (hab:a≤b) (hb:b≤90000000): ∀ k:Nat,(a+(gp c a k).Lo≤b+(gp c b k).Lo∨(gp c a k).Lo= -1099511627776)∧a+(gp c a k).Hi≤b+(gp c b k).Hi:=by
 have step: ∀ (x:cG),0≤x.At∧x.At≤86400000→ ∀ a b:Int,0≤a→a≤b→b≤90000000→si c a x≤si c b x+(b-a)∧si c b x≤si c a x+(b-a):=by
  intro x hx a b ha hab hb
  have hd:=h.ry
  have e: ∀ u v:Int,u≤v+1000000*(b-a)→o5 u 1000000≤o5 v 1000000+(b-a):=by intro u v C; unfold o5; omega
  have m: ∀ p q:Int,p≤q+(b-a)→c.dk*p≤c.dk*q+1000000*(b-a):=by
   intro p q A
   have D:c.dk*p≤c.dk*(q+(b-a)):=Int.mul_le_mul_of_nonneg_left A hd.1
   have E:c.dk*(q+(b-a))=c.dk*q+c.dk*(b-a):=Int.mul_add _ _ _
   have F:c.dk*(b-a)≤1000*(b-a):=Int.mul_le_mul_of_nonneg_right hd.2 om
   omega
  exact ⟨e _ _ (m _ _ om),e _ _ (m _ _ om)⟩
 intro k
 induction k with
 |zero=>simp [gp]; omega
 |succ k ih=>
  cases hx:c.bu[k]? with
  |none=>
   have e: ∀ t,gp c t (k+1)=gp c t k:=fun t=>by unfold gp; rw [List.take_add_one,hx]; simp
   rw [e,e]; exact ih
  |some x=>
   have hs:=h.ur hx
   have:=step x hs.1 a b ha hab hb
   have B:=uE (at_:=a) h.ry ⟨ha,om⟩ hs.1
   rw [jQ hx,jQ hx]
   unfold lK
   simp only
   omega
theorem nS {c:au} (h:eY c) {a b:Int} (ha:0≤a) (hab:a≤b) (hb:b≤90000000):a+(ic c a).Lo≤b+(ic c b).Lo∧a+(ic c a).Hi≤b+(ic c b).Hi:=by
 have A:=DY h ha hab hb c.bu.length
 have B:=qB h (at_:=a) ⟨ha,om⟩
 rw [nG (Nat.le_refl _),nG (Nat.le_refl _)] at A
 omega
noncomputable def lV (l:bf) (i:Nat):Int:=match l.ag[i]? with
 |some b=>if i=0 then (Ma l.aJ b.mE).Lo else (match l.ag[i-1]? with
  |some a=>(j0 l.aJ a.mE b.mE).Lo
  |none=>0)
 |none=>0
theorem za {l:bf} {b:bE} (h:l.ag[0]? =some b):lV l 0=(Ma l.aJ b.mE).Lo:=by unfold lV; rw [h]; rfl
theorem BB {l:bf} {i:Nat} {a b:bE} (hi:0<i) (h:l.ag[i]? =some b) (ha:l.ag[i-1]? =some a):lV l i=(j0 l.aJ a.mE b.mE).Lo:=by unfold lV; rw [h,ha]; simp only; rw [if_neg om]
def jU (l:bf) (b:bE):Prop:=fr l.aJ b.mE∧0≤b.jK∧b.jK<(l.ai.length:Int)
def gn (l:bf):Prop:=(1≤l.dM∧l.dM≤5000)∧(1≤(l.ai.length:Int)∧(l.ai.length:Int)≤4)∧(1≤(l.ag.length:Int)∧(l.ag.length:Int)≤6)∧(0≤l.bI∧l.bI≤(l.ag.length:Int)-1)∧(0≤l.cv∧l.cv≤3)∧0≤l.bL∧l.bL≤3
structure kY (l:bf):Prop where
 head:gn l
 clock: ∀ c∈l.ai,eY c
 vD: ∀ b∈l.ag,jU l b
 QQ: ∀ i,i<l.ag.length→1≤lV l i
noncomputable instance (l:bf):Decidable (kY l):=Classical.propDecidable _
noncomputable def dw (l:bf):Int:=if cV l.aJ=true then (if kY l then 0 else 50) else 10
theorem zm {l:bf} (h:cV l.aJ=false):dw l=10:=by unfold dw; rw [h]; rfl
theorem qp {l:bf} (h:cV l.aJ=true) (h2: ¬ kY l):dw l=50:=by unfold dw; rw [if_pos h,if_neg h2]
theorem xo {l:bf} (h:cV l.aJ=true) (h2:kY l):dw l=0:=by unfold dw; rw [if_pos h,if_pos h2]
theorem gK {l:bf} (h:dw l=0):cV l.aJ=true∧kY l:=by
 unfold dw at h
 split at h
 ·split at h
  ·exact ⟨asm,asm⟩
  ·omega
 ·omega
theorem FL {l:bf} (ht:cV l.aJ=true) (hb: ∀ b∈l.ag,jU l b) (i:Nat): -400000≤lV l i∧lV l i≤400000:=by
 have A:=jW ht
 have hl:=kF ht
 unfold lV
 cases h:l.ag[i]? with
 |none=>simp
 |some b=>
  have B:=(hb b (aX h)).1
  simp only
  split
  ·have:=Se A hl B; omega
  ·cases h2:l.ag[i-1]? with
   |none=>simp
   |some a=>
    have C:=(hb a (aX h2)).1
    have:=wS A hl C B
    simp only; omega
def pJ (l:bf) (s:aO):au:=((l.ag[s.gj.toNat]?).bind fun b=>l.ai[b.jK.toNat]?).getD ⟨0,[]⟩
def gd (c:au) (r t:Int):Bool:=decide (r≤t+(ic c t).Hi)
def gf (c:au) (r t:Int):Bool:=decide (r<t+(ic c t).Lo)
noncomputable def qh (c:au) (r:Int):aa:=⟨fx (gd c r) 86400001,fx (gf c r) 86400001-1⟩
noncomputable def cH (l:bf) (s:aO):aa:=qh (pJ l s) s.Read
noncomputable def eg (l:bf) (i:Nat):Int:=o5 (1000*lV l i) l.dM
end
section
open Go.RowKit
def AS (n:Int):Int:=IntKind.i64.wrap n
theorem Ad {n:Int} (h:ql n):AS n=n:=nT h
theorem Rq (n:Int): -9223372036854775808≤AS n∧AS n≤9223372036854775807:=by
 unfold AS
 rw [IntKind.wrap_i64]
 omega
section
variable {P:Program} {t:TypeId} {x y:Operand} {a b:Int}
theorem PE:g3 P .add t x y (.int .i64 a) (.int .i64 b) (.int .i64 (AS (a+b))):=fun w=>by simp [eqGuard_add,binOp_add,Op.intArith,AS]
theorem Ip:g3 P .sub t x y (.int .i64 a) (.int .i64 b) (.int .i64 (AS (a-b))):=fun w=>by simp [eqGuard_sub,binOp_sub,Op.intArith,AS]
theorem Qn:g3 P .mul t x y (.int .i64 a) (.int .i64 b) (.int .i64 (AS (a*b))):=fun w=>by simp [eqGuard_mul,binOp_mul,Op.intArith,AS]
end
/-- divided, and rounded up, as it comes out -/
def Sh (n by_:Int):Int:=(AS (AS (n+by_)-1)).tdiv by_
theorem PX {a b:Int} (ha: -9223372036854775808≤a∧a≤9223372036854775807) (hb:2≤b):ql (a.tdiv b):=by
 have A:a.tdiv b=a/b+if a % b≠0∧a<0 then 1 else 0:=by
  rcases Int.lt_or_le a 0 with h|h
  ·rw [Int.tdiv_eq_ediv]
   have:b.sign=1:=Int.sign_eq_one_of_pos om
   rw [this]
   by_cases hd:b∣a
   ·have:a % b=0:=Int.emod_eq_zero_of_dvd hd
    simp [hd,this]
   ·have:a % b≠0:=fun e=>hd (Int.dvd_of_emod_eq_zero e)
    have hn: ¬ 0≤a:=by omega
    simp [hd,this,h,hn]
  ·rw [Int.tdiv_eq_ediv_of_nonneg h]
   have: ¬ a<0:=by omega
   simp [this]
 have B:a/b*b+a % b=a:=by rw [Int.mul_comm]; exact Int.mul_ediv_add_emod a b
 have C:0≤a % b:=Int.emod_nonneg _ om
 have D:a % b<b:=Int.emod_lt_of_pos _ om
 have E: -9223372036854775808≤a/b∧a/b≤4611686018427387904:=by
  constructor
  ·refine Int.le_ediv_of_mul_le om ?_
   have:(-9223372036854775808:Int)*b≤ -9223372036854775808*1:=Int.mul_le_mul_of_nonpos_left om om
   omega
  ·refine Int.ediv_le_of_le_mul om ?_
   have:(4611686018427387904:Int)*2≤4611686018427387904*b:=Int.mul_le_mul_of_nonneg_left hb om
   omega
 rw [A]
 unfold ql
 split<;>omega
theorem Qq {n by_:Int} (h0:0≤n) (h1:n≤1000000000000000000) (hb:1≤by_∧by_≤1000000000000):Sh n by_=(n+by_-1)/by_:=by
 unfold Sh
 rw [Ad (show ql (n+by_) from ⟨om,om⟩),Ad (show ql (n+by_-1) from ⟨om,om⟩),Int.tdiv_eq_ediv_of_nonneg om]
end
section
def lZ (c:au) (i:Nat) (x:cG) (k:Nat):Prop:=fu c i x∧ ∀ (j:Nat) o,j<k→c.bu[j]? =some o→nu c x o
def rM (c:au) (n:Nat):Prop:= ∀ (i:Nat) x,i<n→c.bu[i]? =some x→lZ c i x i
noncomputable instance (c:au) (i:Nat) (x:cG) (k:Nat):Decidable (lZ c i x k):=Classical.propDecidable _
instance (c:au) (i:Nat) (x:cG):Decidable (fu c i x):=by unfold fu; infer_instance
theorem DN {c:au} {i:Nat} {x:cG}:lZ c i x 0↔fu c i x:=⟨fun h=>h.1,fun h=>⟨h,fun j o hj=>by omega⟩⟩
theorem sv {c:au} {i k:Nat} {x o:cG} (h:c.bu[k]? =some o):lZ c i x (k+1)↔lZ c i x k∧nu c x o:=by
 constructor
 ·intro hr
  exact ⟨⟨hr.1,fun j o' hj ho=>hr.2 j o' om ho⟩,hr.2 k o om h⟩
 ·rintro ⟨hr,hp⟩
  refine ⟨hr.1,fun j o' hj ho=>?_⟩
  by_cases e:j=k
  ·subst e; rw [h] at ho; cases ho; exact hp
  ·exact hr.2 j o' om ho
theorem GI {c:au}:rM c 0:=fun i x hi=>by omega
theorem GZ {c:au} {i:Nat} {x:cG} (h:rM c i) (hx:c.bu[i]? =some x) (hr:lZ c i x i):rM c (i+1):=fun j y hj hy=>by
 by_cases e:j=i
 ·subst e; rw [hx] at hy; cases hy; exact hr
 ·exact h j y om hy
theorem Lv {c:au} {i:Nat} {x:cG} (hx:c.bu[i]? =some x) (h: ¬ lZ c i x i): ¬ eY c:=fun hc=>h ⟨hc.sync i x hx,fun j o hj ho=>hc.pair i j x o hx hj ho⟩
theorem GL {c:au} (h1:0≤c.dk∧c.dk≤1000) (h2:1≤c.bu.length∧c.bu.length≤5) (h:rM c c.bu.length):eY c:=
 ⟨h1,h2,fun i x hx=>(h i x (List.getElem?_eq_some_iff.1 hx).1 hx).1,fun i k x o hx hk ho=>(h i x (List.getElem?_eq_some_iff.1 hx).1 hx).2 k o hk ho⟩
/-- syncs so far -/
theorem uL {c:au} {n:Nat} (h: ∀ (i:Nat) x,i<n→c.bu[i]? =some x→fu c i x): ∀ (i:Nat) x,i<n→c.bu[i]? =some x→0≤x.At∧ ∀ (k:Nat) o,k<i→c.bu[k]? =some o→o.At<x.At:=by
 intro i
 induction i with
 |zero=>
  intro x hn hx
  have:=(h 0 x hn hx).1.1
  rw [gG rfl] at this
  exact ⟨om,fun k o hk=>by omega⟩
 |succ i ih=>
  intro x hn hx
  have hi:=(List.getElem?_eq_some_iff.1 hx).1
  have hy:c.bu[i]? =some (c.bu[i]'om):=e9 om
  have B:=ih _ om hy
  have A:=(h (i+1) x hn hx).1.1
  rw [nZ hy] at A
  refine ⟨om,fun k o hk ho=>?_⟩
  by_cases e:k=i
  ·subst e; rw [hy] at ho; cases ho; exact A
  ·have:=B.2 k o om ho; omega
theorem IG {c:au} {i:Nat} (hi:i≤c.bu.length) (h: ∀ (j:Nat) y,j<i→c.bu[j]? =some y→fu c j y): -1≤kd c i∧kd c i≤86400000:=by
 cases i with
 |zero=>rw [gG rfl]; omega
 |succ i=>
  have hy:c.bu[i]? =some (c.bu[i]'om):=e9 om
  have A:=(uL (n:=i+1) h i _ om hy).1
  have B:=(h i _ om hy).1.2
  rw [nZ hy]; omega
theorem PZ {c:au} {i:Nat} (hi:i≤c.bu.length) (h:rM c i): -1≤kd c i∧kd c i≤86400000:=IG hi fun j y hj hy=>(h j y hj hy).1
theorem ub {c:au} {i k:Nat} {x o:cG} (hs: ∀ (j:Nat) y,j<i→c.bu[j]? =some y→fu c j y) (hx:c.bu[i]? =some x) (hok:fu c i x) (hk:k<i) (ho:c.bu[k]? =some o):
 (0≤o.At∧o.At<x.At∧x.At≤86400000)∧(-10000≤x.eB.Lo∧x.eB.Lo≤x.eB.Hi∧x.eB.Hi≤10000)∧ -10000≤o.eB.Lo∧o.eB.Lo≤o.eB.Hi∧o.eB.Hi≤10000:=by
 have h: ∀ (j:Nat) y,j<i+1→c.bu[j]? =some y→fu c j y:=fun j y hj hy=>by
  by_cases e:j=i
  ·subst e; rw [hx] at hy; cases hy; exact hok
  ·exact hs j y om hy
 have A:=(uL h i x om hx).2 k o hk ho
 have B:=(uL h k o om ho).1
 exact ⟨⟨B,A,hok.1.2⟩,hok.2,(h k o om ho).2⟩
theorem Nl {d a b:Int} (hd:0≤d∧d≤1000) (h:0≤b∧b<a∧a≤86400000):Sh (AS (d*AS (a-b))) 1000000=o5 (d*(a-b)) 1000000:=by
 have C:0≤d*(a-b)∧d*(a-b)≤90000000000:=by
  have:=P5 (a:=d) (b:=a-b) (A:=1000) (B:=90000000) hd.1 hd.2 om om
  omega
 rw [Ad (show ql (a-b) from ⟨om,om⟩),Ad (show ql (d*(a-b)) from ⟨om,om⟩),Qq C.1 om om]
 rfl
/-- what is asked of a line, however wrong it is -/
structure eE (l:bf) (asl:List RA):Prop where
 sD:l.aJ.length≤1000000
 side: ∀ x∈l.aJ,0≤x.iX∧x.iX≤255
 sG:l.ai.length≤1000000
 oi:asl.length=l.ai.length
 sE:l.ag.length≤1000000
 QN: ∀ (k:Nat) m (a:RA),l.ai[k]? =some m→asl[k]? =some a→m.bu.length≤a.2∧m.bu.length≤1000000
noncomputable instance (l:bf):Decidable (gn l):=by unfold gn; infer_instance
noncomputable instance (l:bf) (b:bE):Decidable (jU l b):=Classical.propDecidable _
theorem yT {l:bf} (h:gn l) (h2: ∀ c∈l.ai,eY c) (h3: ∀ b∈l.ag,jU l b) (h4: ∀ i,i<l.ag.length→1≤lV l i):kY l:=⟨h,h2,h3,h4⟩
theorem Ew {l:bf}:((!(l.ai.any fun m=> !decide (eY m)))=true)↔ ∀ c∈l.ai,eY c:=by simp
theorem Hf {l:bf}:((!(l.ag.any fun b=> !decide (jU l b)))=true)↔ ∀ b∈l.ag,jU l b:=by simp
theorem kP {c:au} (h:eY c) {r x:Int} (h0:0≤x) (h1:x<86400001):
 (x<fx (gd c r) 86400001→gd c r x=false)∧(fx (gd c r) 86400001≤x→gd c r x=true)∧(x<fx (gf c r) 86400001→gf c r x=false)∧(fx (gf c r) 86400001≤x→gf c r x=true):=by
 have up: ∀ (q:Int→Bool),(∀ a b,0≤a→a≤b→b<86400001→q a=true→q b=true)→fx q 86400001≤x→q x=true:=fun q hq hx=>by
  have hb:=hZ (p:=q) (n:=86400001)
  exact hq _ _ hb.1 hx h1 (yW om)
 refine ⟨uG h0,up _ fun a b ha A hb hq=>?_,uG h0,up _ fun a b ha A hb hq=>?_⟩
 ·have:=nS h ha A om
  simp only [gd,decide_eq_true_eq] at hq ⊢; omega
 ·have:=nS h ha A om
  simp only [gf,decide_eq_true_eq] at hq ⊢; omega
theorem v_ {l:bf} {s:aO} {b:bE} {c:au} (hb:l.ag[s.gj.toNat]? =some b) (hc:l.ai[b.jK.toNat]? =some c):pJ l s=c:=by
 unfold pJ; rw [hb]; simp only [Option.bind_some]; rw [hc]; rfl
end
section
def mH (sg:List aO) (i:Nat):aO:=if i=0 then ⟨-1,0⟩ else (sg[i-1]?).getD ⟨-1,0⟩
theorem pE {sg:List aO} {i:Nat} {s:aO} (h:sg[i]? =some s):mH sg (i+1)=s:=by unfold mH; rw [if_neg om,Nat.add_sub_cancel,h]; rfl
def kX (l:bf) (s:aO):Prop:=(0≤s.gj∧s.gj≤(l.ag.length:Int)-1)∧0≤s.Read∧s.Read≤86400000
def kb (l:bf) (sg:List aO) (i:Nat) (s:aO):Prop:=kX l s∧ ¬ s.gj<(mH sg i).gj∧ ¬ (s.gj=(mH sg i).gj∧s.Read≤(mH sg i).Read)
def p9 (l:bf) (sg:List aO) (i:Nat):Prop:= ∀ (j:Nat) s,j<i→sg[j]? =some s→kb l sg j s
structure fm (l:bf) (r:cE):Prop where
 time:0≤r.Start∧r.Start≤r.gi∧r.gi≤86400000
 len:r.aj.length≤10
 sig: ∀ (i:Nat) s,r.aj[i]? =some s→kb l r.aj i s
noncomputable instance (l:bf) (r:cE):Decidable (fm l r):=Classical.propDecidable _
theorem zg {l:bf} {sg:List aO}:p9 l sg 0:=fun j s hj=>absurd hj (Nat.not_lt_zero _)
theorem lJ {l:bf} {sg:List aO} {i:Nat} {s:aO} (h:p9 l sg i) (hs:sg[i]? =some s) (ho:kb l sg i s):p9 l sg (i+1):=fun j z hj hz=>by
 rcases Nat.lt_or_ge j i with q|q
 ·exact h j z q hz
 ·obtain rfl:j=i:=by omega
  rw [hs] at hz; cases hz; exact ho
theorem AW {l:bf} {r:cE} {i:Nat} (h1:0≤r.Start∧r.Start≤r.gi∧r.gi≤86400000) (h2:r.aj.length≤10) (h:p9 l r.aj i) (hi:r.aj.length≤i):fm l r:=
 ⟨h1,h2,fun j s hs=>h j s (by have:=(List.getElem?_eq_some_iff.1 hs).1; omega) hs⟩
noncomputable def m8 (l:bf) (sg:List aO) (b k:Nat):Option (Int×aa):=(sg[k]?).bind fun s=>if s.gj=(b:Int)∧(cH l s).Lo≤(cH l s).Hi then some ((k:Int),cH l s) else none
noncomputable def kI (l:bf) (sg:List aO) (i b:Nat):TM:=(List.range i).filterMap (m8 l sg b)
noncomputable def ei (l:bf) (sg:List aO) (i:Nat):List TM:=(List.range l.ag.length).map (kI l sg i)
noncomputable def cL (l:bf) (n:Nat):List Int:=(List.range n).map (eg l)
theorem uR {l:bf} {n:Nat}:cL l (n+1)=cL l n++[eg l n]:=by simp [cL,List.range_succ]
theorem ep {l:bf} {n:Nat}:(cL l n).length=n:=by simp [cL]
theorem jh {l:bf} {sg:List aO} {i:Nat}:(ei l sg i).length=l.ag.length:=by simp [ei]
theorem oQ {l:bf} {sg:List aO} {i b:Nat} (h:b<l.ag.length):(ei l sg i)[b]? =some (kI l sg i b):=by simp [ei,h]
theorem pj {l:bf} {sg:List aO} {b k:Nat} {q:Int×aa}:m8 l sg b k=some q↔ ∃ s,sg[k]? =some s∧(s.gj=(b:Int)∧(cH l s).Lo≤(cH l s).Hi)∧q=((k:Int),cH l s):=by
 unfold m8
 cases h:sg[k]? with
 |none=>simp
 |some s=>
  simp only [Option.bind_some,Option.some.injEq]
  by_cases e:s.gj=(b:Int)∧(cH l s).Lo≤(cH l s).Hi
  ·rw [if_pos e]
   constructor
   ·intro h; cases h; exact ⟨s,rfl,e,rfl⟩
   ·rintro ⟨s',rfl,_,rfl⟩; rfl
  ·rw [if_neg e]
   constructor
   ·intro h; cases h
   ·rintro ⟨s',rfl,e',_⟩; exact absurd e' e
theorem rT {l:bf} {sg:List aO} {i b:Nat} {q:Int×aa}:q∈kI l sg i b↔ ∃ k,k<i∧ ∃ s,sg[k]? =some s∧(s.gj=(b:Int)∧(cH l s).Lo≤(cH l s).Hi)∧q=((k:Int),cH l s):=by
 unfold kI
 simp only [List.mem_filterMap,List.mem_range,pj]
theorem kN {l:bf} {sg:List aO} {i b:Nat}:kI l sg (i+1) b=kI l sg i b++(m8 l sg b i).toList:=by
 unfold kI
 rw [List.range_succ,List.filterMap_append]
 congr 1
theorem DS {l:bf} {sg:List aO}:ei l sg 0=List.replicate l.ag.length []:=by
 unfold ei
 rw [List.eq_replicate_iff]
 refine ⟨sm,fun t ht=>?_⟩
 obtain ⟨b,_,rfl⟩:=List.mem_map.1 ht
 rfl
theorem w7 {l:bf} {sg:List aO} {i:Nat} {s:aO} (hs:sg[i]? =some s) (h: ¬ (cH l s).Lo≤(cH l s).Hi):ei l sg (i+1)=ei l sg i:=by
 unfold ei
 apply List.map_congr_left
 intro b _
 rw [kN]
 have:m8 l sg b i=none:=by
  cases e:m8 l sg b i with
  |none=>rfl
  |some q=>obtain ⟨s',A,⟨_,B⟩,_⟩:=pj.1 e; rw [hs] at A; cases A; exact absurd B h
 rw [this]; simp
theorem yC {l:bf} {sg:List aO} {i:Nat} {s:aO} (hs:sg[i]? =some s) (hb:0≤s.gj∧s.gj≤(l.ag.length:Int)-1) (h:(cH l s).Lo≤(cH l s).Hi) {x:TM} (hx:(ei l sg i)[s.gj.toNat]? =some x):
 (ei l sg i).set s.gj.toNat (dK x (i:Int) (cH l s))=ei l sg (i+1):=by
 have A:s.gj.toNat<l.ag.length:=by omega
 rw [oQ A] at hx
 cases hx
 have B:dK (kI l sg i s.gj.toNat) (i:Int) (cH l s)=kI l sg (i+1) s.gj.toNat:=by
  have hn:(kI l sg i s.gj.toNat).lookup (i:Int)=none:=iz.2 fun p hp e=>by
   obtain ⟨k,hk,_,_,_,rfl⟩:=rT.1 hp
   simp only at e; omega
  have ho:m8 l sg s.gj.toNat i=some ((i:Int),cH l s):=pj.2 ⟨s,hs,⟨om,h⟩,rfl⟩
  rw [kN,ho]
  unfold dK; rw [hn]; rfl
 rw [B]
 apply List.ext_getElem?
 intro b
 rw [List.getElem?_set]
 by_cases e:s.gj.toNat=b
 ·rw [if_pos e,jh,← e,if_pos A,oQ A]
 ·rw [if_neg e]
  by_cases hb':b<l.ag.length
  ·rw [oQ hb',oQ hb',kN]
   have:m8 l sg b i=none:=by
    cases e2:m8 l sg b i with
    |none=>rfl
    |some q=>obtain ⟨s',C,⟨D,_⟩,_⟩:=pj.1 e2; rw [hs] at C; cases C; exact absurd om e
   rw [this]; simp
  ·rw [List.getElem?_eq_none (by rw [jh]; omega),List.getElem?_eq_none (by rw [jh]; omega)]
noncomputable def ct (l:bf) (r:cE):bU:=⟨r.Start,r.gi,cL l l.ag.length,ei l r.aj r.aj.length,l.bL,l.cv,(r.aj.length:Int)⟩
theorem Kr {l:bf} (ht:cV l.aJ=true) (h:kY l) {i:Nat} (hi:i<l.ag.length):1≤eg l i∧eg l i≤500000000:=by
 have A:=FL ht h.vD i
 have B:=h.QQ i hi
 have C:=h.head.1
 unfold eg o5
 refine ⟨(Int.le_ediv_iff_mul_le om).2 om,?_⟩
 have:(1000*lV l i+l.dM-1)/l.dM≤1000*lV l i+l.dM-1:=Int.ediv_le_self _ om
 omega
theorem N7 (l:bf) (s:aO):0≤(cH l s).Lo∧(cH l s).Hi≤86400000:=by
 have A:=hZ (p:=gd (pJ l s) s.Read) (n:=86400001)
 have B:=hZ (p:=gf (pJ l s) s.Read) (n:=86400001)
 unfold cH qh
 simp only
 omega
theorem oN {l:bf} {r:cE} (ht:cV l.aJ=true) (h:kY l) (hr:fm l r):G7 (ct l r):=by
 have hh:=h.head
 unfold gn at hh
 refine ⟨?_,by simp [ct,jh,bU.n,ep],hr.time,fun x hx=>?_,fun t A p hp=>?_⟩
 ·show (cL l l.ag.length).length≤6
  rw [ep]; omega
 ·obtain ⟨i,hi,rfl⟩:=List.mem_map.1 hx
  exact Kr ht h (List.mem_range.1 hi)
 ·obtain ⟨b,hb,rfl⟩:=List.mem_map.1 A
  obtain ⟨k,hk,s,hs,⟨_,B⟩,rfl⟩:=rT.1 hp
  have C:=N7 l s
  have D:=hr.len
  simp only
  omega
noncomputable def eG (l:bf) (r:cE) (me:Int):Int:=if dw l=0 then (if fm l r then (if me=0 then (if jC (ct l r)=[] then 8 else 0) else me) else 51) else dw l
theorem nV {l:bf} {r:cE} {me:Int} (h: ¬ dw l=0):eG l r me=dw l:=if_neg h
theorem jf {l:bf} {r:cE} {me:Int} (h:dw l=0) (h2: ¬ fm l r):eG l r me=51:=by unfold eG; rw [if_pos h,if_neg h2]
theorem qa {l:bf} {r:cE} {me:Int} (h:dw l=0) (h2:fm l r) (h3: ¬ me=0):eG l r me=me:=by unfold eG; rw [if_pos h,if_pos h2,if_neg h3]
theorem pq {l:bf} {r:cE} {me:Int} (h:dw l=0) (h2:fm l r) (h3:me=0) (h4:jC (ct l r)=[]):eG l r me=8:=by unfold eG; rw [if_pos h,if_pos h2,if_pos h3,if_pos h4]
theorem lG {l:bf} {r:cE} {me:Int} (h:dw l=0) (h2:fm l r) (h3:me=0) (h4: ¬ jC (ct l r)=[]):eG l r me=0:=by unfold eG; rw [if_pos h,if_pos h2,if_pos h3,if_neg h4]
theorem jY {l:bf} {r:cE} {me:Int} (h:eG l r me=0):dw l=0∧fm l r∧me=0∧ ¬ jC (ct l r)=[]:=by
 unfold eG at h
 split at h
 ·split at h
  ·split at h
   ·split at h
    ·omega
    ·exact ⟨asm,asm,asm,asm⟩
   ·omega
  ·omega
 ·omega
end
section
def wM (l:List Int):Int:=(l.drop 1).foldl min (l.headD 0)
def Eo (l:List Int):Int:=(l.drop 1).foldl max (l.headD 0)
theorem CV: ∀ (l:List Int) (a:Int),(l.foldl min a=a∨l.foldl min a∈l)∧l.foldl min a≤a∧ ∀ x∈l,l.foldl min a≤x
 |[],a=>⟨.inl rfl,sm,sm⟩
 |y::l,a=>by
  obtain ⟨A,C,B⟩:=CV l (min a y)
  simp only [List.foldl_cons]
  refine ⟨?_,om,?_⟩
  ·rcases A with A|A
   ·rw [A]
    rcases Int.le_total a y with q|q
    ·left; omega
    ·right; rw [show min a y=y by omega]; simp
   ·right; exact cS _ A
  ·intro x hx
   rcases List.mem_cons.1 hx with rfl|hx
   ·omega
   ·exact B x hx
theorem Cb: ∀ (l:List Int) (a:Int),(l.foldl max a=a∨l.foldl max a∈l)∧a≤l.foldl max a∧ ∀ x∈l,x≤l.foldl max a
 |[],a=>⟨.inl rfl,sm,sm⟩
 |y::l,a=>by
  obtain ⟨A,C,B⟩:=Cb l (max a y)
  simp only [List.foldl_cons]
  refine ⟨?_,om,?_⟩
  ·rcases A with A|A
   ·rw [A]
    rcases Int.le_total a y with q|q
    ·right; rw [show max a y=y by omega]; simp
    ·left; omega
   ·right; exact cS _ A
  ·intro x hx
   rcases List.mem_cons.1 hx with rfl|hx
   ·omega
   ·exact B x hx
theorem Ge {l:List Int} (h:l≠[]):wM l∈l∧ ∀ x∈l,wM l≤x:=by
 cases l with
 |nil=>exact absurd rfl h
 |cons y ys=>
  obtain ⟨A,B,C⟩:=CV ys y
  refine ⟨?_,fun x hx=>?_⟩
  ·rcases A with A|A
   ·simp [wM,A]
   ·exact cS _ (by simpa [wM] using A)
  ·rcases List.mem_cons.1 hx with rfl|hx
   ·simpa [wM] using B
   ·simpa [wM] using C x hx
theorem Oi {l:List Int} (h:l≠[]):Eo l∈l∧ ∀ x∈l,x≤Eo l:=by
 cases l with
 |nil=>exact absurd rfl h
 |cons y ys=>
  obtain ⟨A,B,C⟩:=Cb ys y
  refine ⟨?_,fun x hx=>?_⟩
  ·rcases A with A|A
   ·simp [Eo,A]
   ·exact cS _ (by simpa [Eo] using A)
  ·rcases List.mem_cons.1 hx with rfl|hx
   ·simpa [Eo] using B
   ·simpa [Eo] using C x hx
noncomputable def k9 (l:bf) (r:cE):List Int:=if eG l r 0=0 then jC (ct l r) else []
theorem lR {l:bf} {r:cE} (h:eG l r 0=0):k9 l r=jC (ct l r):=if_pos h
theorem tY {l:bf} {r:cE} (h: ¬ eG l r 0=0):k9 l r=[]:=if_neg h
theorem um {l:bf} {r:cE} (h:eG l r 0=0):k9 l r≠[]:=by rw [lR h]; exact (jY h).2.2.2
noncomputable def Ei (l:bf) (r:cE):Int:=if eG l r 0=0 then (if l.bI<wM (k9 l r) then 2 else if Eo (k9 l r)≤l.bI then 0 else 1) else 0
noncomputable def jG (l:bf) (b:Int):Int:=if 0≤b∧b≤(l.ag.length:Int)-1 then 0 else 2
theorem xn {l:bf} {b:Int} (h:0≤b∧b≤(l.ag.length:Int)-1):jG l b=0:=if_pos h
theorem EE {l:bf} {b:Int} (h:jG l b=0):0≤b∧b≤(l.ag.length:Int)-1:=by
 unfold jG at h
 split at h
 ·assumption
 ·omega
noncomputable def mm (l:bf) (r:cE) (b:Nat):aa:=uQ (ml (ct l r) b)
noncomputable def eU (l:bf) (r:cE) (b:Int):Int:=if eG l r (jG l b)=0 then (if mm l r b.toNat=mx then 6 else 0) else eG l r (jG l b)
noncomputable def eZ (l:bf) (r:cE) (b:Int):aa:=if eU l r b=0 then mm l r b.toNat else dE
theorem mZ {l:bf} {r:cE} {b:Int} (h: ¬ eG l r (jG l b)=0):eU l r b=eG l r (jG l b)∧eZ l r b=dE:=by
 have e:eU l r b=eG l r (jG l b):=if_neg h
 exact ⟨e,by unfold eZ; rw [if_neg (by rw [e]; exact h)]⟩
theorem qq {l:bf} {r:cE} {b:Nat} (h:eG l r (jG l b)=0) (h2:mm l r b=mx):eU l r b=6∧eZ l r b=dE:=by
 have e:eU l r b=6:=by unfold eU; rw [if_pos h,Int.toNat_natCast,if_pos h2]
 exact ⟨e,by unfold eZ; rw [if_neg (by rw [e]; omega)]⟩
theorem nQ {l:bf} {r:cE} {b:Nat} (h:eG l r (jG l b)=0) (h2: ¬ mm l r b=mx):eU l r b=0∧eZ l r b=mm l r b:=by
 have e:eU l r b=0:=by unfold eU; rw [if_pos h,Int.toNat_natCast,if_neg h2]
 exact ⟨e,by unfold eZ; rw [if_pos e,Int.toNat_natCast]⟩
theorem LL {w:bU} (h:G7 w) {b:Nat} {q:Int×aa} (hq:q∈ml w b):0≤q.2.Lo∧q.2.Lo≤q.2.Hi∧q.2.Hi≤86400000:=by
 have A:=mK hq
 obtain ⟨o,ho,p,hp,u,hu,e⟩:=hO.1 hq
 obtain ⟨_,_,rfl⟩:=jn.1 e
 have B:=h.opt ho
 simp only [jq] at A ⊢
 omega
theorem xp {l:bf} {r:cE} {b:Int} (h:eU l r b=0):0≤(eZ l r b).Lo∧(eZ l r b).Lo≤(eZ l r b).Hi∧(eZ l r b).Hi≤86400000:=by
 have ho:eG l r (jG l b)=0:=by
  by_cases e:eG l r (jG l b)=0
  ·exact e
  ·rw [(mZ e).1] at h; exact absurd h e
 obtain ⟨B,C,_⟩:=jY ho
 obtain ⟨ht,A⟩:=gK B
 have hw:=oN ht A C
 have hv:eZ l r b=mm l r b.toNat:=by unfold eZ; rw [if_pos h]
 have hn:mm l r b.toNat≠mx:=fun e=>by unfold eU at h; rw [if_pos ho,if_pos e] at h; omega
 have hh:=uf (l:=ml (ct l r) b.toNat) fun q hq=>mK hq
 rw [hv]
 unfold mm at hn ⊢
 rcases hh with ⟨_,e⟩|hh
 ·exact absurd e hn
 ·obtain ⟨x,hx,ex⟩:=hh.lo
  obtain ⟨y,hy,ey⟩:=hh.hi
  have:=LL hw hx
  have:=LL hw hy
  have:=hh.le
  omega
noncomputable def z5 (l:bf) (r:cE):aa:=if eU l r l.bI=0 then ⟨(eZ l r l.bI).Lo-r.Start,(eZ l r l.bI).Hi-r.Start⟩ else dE
theorem Ar {l:bf} {r:cE} (h:eU l r l.bI=0):z5 l r=⟨(eZ l r l.bI).Lo-r.Start,(eZ l r l.bI).Hi-r.Start⟩:=if_pos h
theorem DQ {l:bf} {r:cE} (h: ¬ eU l r l.bI=0):z5 l r=dE:=if_neg h
theorem vj {l:bf} {r:cE} {b:Int} (h:eU l r b=0):fm l r:=by
 by_cases e:eG l r (jG l b)=0
 ·exact (jY e).2.1
 ·rw [(mZ e).1] at h; exact absurd h e
theorem zz {k:List (Int×aa)} {h:aa} {q:Int×aa} {z:aa} (hh:ke k h) (hq:q.2.Lo≤q.2.Hi) (hz:l_ h q.2=z):ke (k++[q]) z:=by subst hz; exact tU hh hq
end
section
set_option maxRecDepth 20000
def SZ:ao:=⟨1,⟨10000,10200⟩,⟨0,100⟩,⟨0,0⟩,0,0⟩
def yk:au:=⟨100,[⟨0,⟨0,2⟩⟩,⟨100000,⟨5,6⟩⟩]⟩
def QK (o:Int):bE:=⟨⟨0,⟨o,o⟩⟩,0⟩
def nO (f:Int):bf:=⟨[SZ],2000,[yk],[QK 1000,QK 4000,QK 9000],1,f,1⟩
def mD:cE:=⟨10000,20000,[⟨0,10600⟩,⟨0,11000⟩,⟨1,12600⟩]⟩
theorem Js:cV [SZ]=true:=by decide
theorem wN:eY yk:=by
 have hi: ∀ (i:Nat) (x:cG),yk.bu[i]? =some x→i=0∧x=⟨0,⟨0,2⟩⟩∨i=1∧x=⟨100000,⟨5,6⟩⟩:=fun i x h=>by
  match i with
  |0=>left; simp [yk] at h; exact ⟨rfl,h.symm⟩
  |1=>right; simp [yk] at h; exact ⟨rfl,h.symm⟩
  |n+2=>simp [yk] at h
 refine ⟨dc,dc,fun i x hx=>?_,fun i k x o hx hk ho=>?_⟩
 ·rcases hi i x hx with ⟨rfl,rfl⟩|⟨rfl,rfl⟩<;>(unfold fu; decide)
 ·rcases hi i x hx with ⟨rfl,rfl⟩|⟨rfl,rfl⟩
  ·omega
  ·rcases hi k o ho with ⟨rfl,rfl⟩|⟨rfl,rfl⟩
   ·unfold nu; decide
   ·omega
theorem Aj {o:Int} (h:0≤o∧o<10000):fr [SZ] ⟨0,⟨o,o⟩⟩:=⟨sm,SZ,rfl,by show o≤o∧0≤o∧o≤10000-1; omega⟩
theorem Na {f:Int} (hf:0≤f∧f≤3):kY (nO f):=by
 refine ⟨?_,fun c hc=>?_,fun b hb=>?_,fun i hi=>?_⟩
 ·unfold gn; simp [nO]; omega
 ·simp [nO] at hc; subst hc; exact wN
 ·simp [nO] at hb
  rcases hb with rfl|rfl|rfl
  ·exact ⟨Aj om,by simp [QK,nO]⟩
  ·exact ⟨Aj om,by simp [QK,nO]⟩
  ·exact ⟨Aj om,by simp [QK,nO]⟩
 ·have A:i<3:=hi
  have:i=0∨i=1∨i=2:=by omega
  rcases this with rfl|rfl|rfl
  ·show (1:Int)≤lV (nO 0) 0; decide
  ·show (1:Int)≤lV (nO 0) 1; decide
  ·show (1:Int)≤lV (nO 0) 2; decide
def mP:bf:=nO 1
theorem OJ:dw mP=0:=xo Js (Na om)
theorem AK {r x:Int} (h0:0<x) (h1:x≤86400000) (hy:gd yk r x=true) (hn:gd yk r (x-1)=false):fx (gd yk r) 86400001=x:=
 yH om om hy fun z hz A=>by
  cases e:gd yk r z with
  |false=>rfl
  |true=>
   unfold gd at e hn
   have:=(nS wN hz (show z≤x-1 by omega) om).2
   have B:=of_decide_eq_true e
   have C:=of_decide_eq_false hn
   omega
theorem zV {r x:Int} (h0:0<x) (h1:x≤86400000) (hy:gf yk r x=true) (hn:gf yk r (x-1)=false):fx (gf yk r) 86400001=x:=
 yH om om hy fun z hz A=>by
  cases e:gf yk r z with
  |false=>rfl
  |true=>
   unfold gf at e hn
   have:=(nS wN hz (show z≤x-1 by omega) om).1
   have B:=of_decide_eq_true e
   have C:=of_decide_eq_false hn
   omega
theorem RL:qh yk 10600=⟨10596,10602⟩:=by unfold qh; rw [AK (x:=10596) om om dc dc,zV (x:=10603) om om dc dc]; rfl
theorem Rn:qh yk 11000=⟨10996,11002⟩:=by unfold qh; rw [AK (x:=10996) om om dc dc,zV (x:=11003) om om dc dc]; rfl
theorem SR:qh yk 12600=⟨12596,12602⟩:=by unfold qh; rw [AK (x:=12596) om om dc dc,zV (x:=12603) om om dc dc]; rfl
def SP (f:Int):bU:=⟨10000,20000,[500,1500,2500],[[(0,⟨10596,10602⟩),(1,⟨10996,11002⟩)],[(2,⟨12596,12602⟩)],[]],1,f,3⟩
theorem SV (f:Int):cH (nO f) ⟨0,10600⟩=⟨10596,10602⟩:=RL
theorem Ti (f:Int):cH (nO f) ⟨0,11000⟩=⟨10996,11002⟩:=Rn
theorem Rs (f:Int):cH (nO f) ⟨1,12600⟩=⟨12596,12602⟩:=SR
theorem Km (f:Int):ei (nO f) mD.aj 3=[[(0,⟨10596,10602⟩),(1,⟨10996,11002⟩)],[(2,⟨12596,12602⟩)],[]]:=by
 have o: ∀ b:Nat,kI (nO f) mD.aj 3 b=(m8 (nO f) mD.aj b 0).toList++((m8 (nO f) mD.aj b 1).toList++(m8 (nO f) mD.aj b 2).toList):=fun b=>by
  rw [kN,kN,kN]; simp [kI]
 have A: ∀ b:Nat,m8 (nO f) mD.aj b 0=if (0:Int)=(b:Int) then some (0,⟨10596,10602⟩) else none:=fun b=>by
  show (if (0:Int)=(b:Int)∧(cH (nO f) ⟨0,10600⟩).Lo≤(cH (nO f) ⟨0,10600⟩).Hi then some ((0:Int),cH (nO f) ⟨0,10600⟩) else none)=_
  rw [SV]; by_cases h:(0:Int)=(b:Int)
  ·rw [if_pos h,if_pos ⟨h,dc⟩]<;>rfl
  ·rw [if_neg h,if_neg fun q=>h q.1]
 have B: ∀ b:Nat,m8 (nO f) mD.aj b 1=if (0:Int)=(b:Int) then some (1,⟨10996,11002⟩) else none:=fun b=>by
  show (if (0:Int)=(b:Int)∧(cH (nO f) ⟨0,11000⟩).Lo≤(cH (nO f) ⟨0,11000⟩).Hi then some ((1:Int),cH (nO f) ⟨0,11000⟩) else none)=_
  rw [Ti]; by_cases h:(0:Int)=(b:Int)
  ·rw [if_pos h,if_pos ⟨h,dc⟩]<;>rfl
  ·rw [if_neg h,if_neg fun q=>h q.1]
 have C: ∀ b:Nat,m8 (nO f) mD.aj b 2=if (1:Int)=(b:Int) then some (2,⟨12596,12602⟩) else none:=fun b=>by
  show (if (1:Int)=(b:Int)∧(cH (nO f) ⟨1,12600⟩).Lo≤(cH (nO f) ⟨1,12600⟩).Hi then some ((2:Int),cH (nO f) ⟨1,12600⟩) else none)=_
  rw [Rs]; by_cases h:(1:Int)=(b:Int)
  ·rw [if_pos h,if_pos ⟨h,dc⟩]<;>rfl
  ·rw [if_neg h,if_neg fun q=>h q.1]
 show [kI (nO f) mD.aj 3 0,kI (nO f) mD.aj 3 1,kI (nO f) mD.aj 3 2]=_
 rw [o,o,o,A,A,A,B,B,B,C,C,C]
 rfl
theorem Cq (f:Int):ct (nO f) mD=SP f:=by
 unfold ct SP
 rw [show mD.aj.length=3 from rfl,Km]
 rfl
theorem NB (f:Int):fm (nO f) mD:=by
 refine ⟨dc,dc,fun i s hs=>?_⟩
 match i with
 |0=>simp [mD] at hs; subst hs; unfold kb kX; simp [nO,mH]
 |1=>simp [mD] at hs; subst hs; unfold kb kX; simp [nO,mH,mD]
 |2=>simp [mD] at hs; subst hs; unfold kb kX; simp [nO,mH,mD]
 |n+3=>simp [mD] at hs
theorem I8:jC (ct mP mD)=[2,3]:=by rw [show ct mP mD=SP 1 from Cq 1]; decide
theorem KF:eG mP mD 0=0:=lG OJ (NB 1) rfl (by rw [I8]; decide)
theorem KB {b:Nat} (hb:b<3):eG mP mD (jG mP b)=0:=by rw [xn (by show 0≤(b:Int)∧(b:Int)≤3-1; omega)]; exact KF
theorem M4 {b:Nat} {z:aa} (hb:b<3) (hz:uQ (ml (SP 1) b)=z) (hn:z≠mx):eU mP mD b=0∧eZ mP mD b=z:=by
 have e:mm mP mD b=z:=by unfold mm; rw [show ct mP mD=SP 1 from Cq 1]; exact hz
 have h:=nQ (KB hb) (by rw [e]; exact hn)
 exact ⟨h.1,h.2.trans e⟩
theorem wb:eU mP mD 1=0∧eZ mP mD 1=⟨12596,12602⟩:=M4 (b:=1) om dc dc
theorem Ea:eU mP mD mP.bI=0∧z5 mP mD=⟨2596,2602⟩:=by
 refine ⟨wb.1,?_⟩
 rw [Ar (l:=mP) (r:=mD) wb.1]
 rw [show eZ mP mD mP.bI=⟨12596,12602⟩ from wb.2]
 rfl
theorem SK (f:Int) {a:OA} {c:Nat} (hc:2≤c):eE (nO f) [(a,c)]:=by
 refine ⟨by simp [nO],?_,by simp [nO],U,by simp [nO],fun k m a' hm ha=>?_⟩
 ·intro x hx; simp [nO] at hx; subst hx; simp [SZ]
 ·match k with
  |0=>simp [nO] at hm ha; subst hm; subst ha; simp [yk]; exact hc
  |n+1=>simp at ha
end
section
def mC (l:bf):Prop:=(20<(l.aJ.length:Int)∨8<(l.ai.length:Int)∨10<(l.ag.length:Int))∨ ∃ c∈l.ai,10<(c.bu.length:Int)
noncomputable instance (l:bf):Decidable (mC l):=Classical.propDecidable _
/-- what is asked of a line that comes in -/
structure tf (l:bf) (az:List RA):Prop where
 sD:l.aJ.length≤9223372036854775807
 side: ∀ x∈l.aJ,0≤x.iX∧x.iX≤255
 sG:l.ai.length≤9223372036854775807
 oi:az.length=l.ai.length
 sE:l.ag.length≤9223372036854775807
 QN: ∀ (k:Nat) m (a:RA),l.ai[k]? =some m→az[k]? =some a→m.bu.length≤a.2∧m.bu.length≤9223372036854775807
def z7 (l:bf) (i:Nat):Prop:= ∀ (j:Nat) c,j<i→l.ai[j]? =some c→(c.bu.length:Int)≤10
theorem Ia {l:bf} {i:Nat} (h: ¬ (20<(l.aJ.length:Int))∧ ¬ (8<(l.ai.length:Int))∧ ¬ (10<(l.ag.length:Int))) (hi:l.ai.length≤i) (hs:z7 l i): ¬ mC l:=by
 rintro (A|⟨c,hc,B⟩)
 ·omega
 ·obtain ⟨k,hk⟩:=List.getElem?_of_mem hc
  have:=hs k c (by have:=(List.getElem?_eq_some_iff.1 hk).1; omega) hk
  omega
theorem Ic {l:bf} {i:Nat} {c:au} (hc:l.ai[i]? =some c) (h:10<(c.bu.length:Int)):mC l:= .inr ⟨c,aX hc,h⟩
theorem lT {α:Type} {l:List α} {P:Nat→α→Prop} {i:Nat} {x:α} (h: ∀ (j:Nat) y,j<i→l[j]? =some y→P j y) (hx:l[i]? =some x) (hp:P i x): ∀ (j:Nat) y,j<i+1→l[j]? =some y→P j y:=fun j y hj hy=>by
 by_cases e:j=i
 ·subst e; rw [hx] at hy; cases hy; exact hp
 ·exact h j y om hy
theorem wj {α:Type} {l:List α} {P:Nat→α→Prop} {i:Nat} (hi:l.length≤i) (h: ∀ (j:Nat) y,j<i→l[j]? =some y→P j y): ∀ (j:Nat) y,l[j]? =some y→P j y:=fun j y hy=>h j y (by have:=(List.getElem?_eq_some_iff.1 hy).1; omega) hy
theorem wO {α:Type} {l:List α} {P:α→Prop} {i:Nat} (hi:l.length≤i) (h: ∀ (j:Nat) y,j<i→l[j]? =some y→P y): ∀ y∈l,P y:=fun y hy=>by
 obtain ⟨k,hk⟩:=List.getElem?_of_mem hy
 exact wj (P:=fun _ y=>P y) hi h k y hk
theorem JC {l:bf} (h: ¬ mC l):(l.aJ.length:Int)≤20∧(l.ai.length:Int)≤8∧(l.ag.length:Int)≤10∧ ∀ c∈l.ai,(c.bu.length:Int)≤10:=by
 unfold mC at h
 rw [not_or] at h
 refine ⟨om,om,om,fun c hc=>?_⟩
 have:=h.2
 rcases Int.lt_or_le 10 (c.bu.length:Int) with q|q
 ·exact absurd ⟨c,hc,q⟩ this
 ·exact q
theorem tf.small {l:bf} {az:List RA} (h:tf l az) (hg: ¬ mC l):eE l az:=by
 have A:=JC hg
 exact ⟨om,h.side,om,h.oi,om,fun k m a hm ha=>⟨(h.QN k m a hm ha).1,by have:=A.2.2.2 m (aX hm); omega⟩⟩
def Ga (c:au) (x:cG) (k:Nat):Prop:= ∀ (j:Nat) o,j<k→c.bu[j]? =some o→nu c x o
def ti (c:au) (m:Nat):Prop:= ∀ (i:Nat) x,i<m→c.bu[i]? =some x→Ga c x i
theorem JV {c:au} {m:Nat} (h1:0≤c.dk∧c.dk≤1000) (h2:1≤c.bu.length∧c.bu.length≤5) (hs: ∀ (i:Nat) x,c.bu[i]? =some x→fu c i x) (hm:c.bu.length≤m) (hp:ti c m):eY c:=
 ⟨h1,h2,hs,fun i k x o hx hk ho=>hp i x (by have:=(List.getElem?_eq_some_iff.1 hx).1; omega) hx k o hk ho⟩
theorem Eu {c:au} {m k:Nat} (h:ti c m) (hk: ∀ y,c.bu[m]? =some y→Ga c y k) (e:k=m):ti c (m+1):=by
 subst e
 intro i x hi hx
 by_cases e:i=k
 ·subst e; exact hk x hx
 ·exact h i x om hx
noncomputable def kK (c:au) (at_:Int) (i:Nat):aa:=if i=0 then dE else gp c at_ i
theorem Dl {c:au} {at_:Int} {i:Nat} (h:eY c) (hi:c.bu.length≤i):kK c at_ i=ic c at_:=by
 have:=h.len
 unfold kK; rw [if_neg om,nG hi]
theorem AJ {c:au} {at_:Int} {i:Nat} {x:cG} (h:eY c) (ha:0≤at_∧at_≤90000000) (hx:c.bu[i]? =some x) (hi:i=0):
 kK c at_ (i+1)=⟨max (x.eB.Lo-si c at_ x) (x.eB.Lo-si c at_ x),min (x.eB.Hi+si c at_ x) (x.eB.Hi+si c at_ x)⟩:=by
 subst hi
 have hb:=h.ur hx
 have ho:=uE h.ry ha hb.1
 unfold kK
 rw [if_neg om,jQ hx]
 unfold lK gp
 simp only [List.take_zero,List.foldl_nil,aa.mk.injEq]
 omega
theorem BQ {c:au} {at_:Int} {i:Nat} {x:cG} (hx:c.bu[i]? =some x) (hi: ¬ i=0):kK c at_ (i+1)=⟨max (kK c at_ i).Lo (x.eB.Lo-si c at_ x),min (kK c at_ i).Hi (x.eB.Hi+si c at_ x)⟩:=by
 unfold kK
 rw [if_neg om,if_neg hi,jQ hx]; rfl
def g6 (ts:List ao) (n:Nat):List aa:=(List.range n).map fun k=>eI ts 0 k
theorem Bu {ts:List ao} {n:Nat}:g6 ts (n+1)=g6 ts n++[eI ts 0 n]:=by simp [g6,List.range_succ]
theorem oh {ts:List ao} {n:Nat}:(g6 ts n).length=n:=by simp [g6]
theorem o_ {ts:List ao} {n k:Nat} {x:aa} (h:(g6 ts n)[k]? =some x):x=eI ts 0 k:=by
 unfold g6 at h
 rw [fB] at h
 cases hk:(List.range n)[k]? with
 |none=>simp [hk] at h
 |some v=>
  have:=List.getElem?_eq_some_iff.1 hk
  simp at this
  simp [hk] at h
  rw [← h,← this.2]
theorem DV {ts:List ao} {a b:cJ} (h:b.a_<a.a_):j0 ts a b=nW (j0 ts b a):=by
 unfold j0
 rw [if_pos h,if_neg om]
 unfold wW
 rw [Int.min_comm b.a_ a.a_,Int.max_comm b.a_ a.a_]
 unfold nW mz
 simp only [aa.mk.injEq]
 omega
theorem qd {ts:List ao} {a b:cJ} (h: ¬ b.a_<a.a_):j0 ts a b=mz (mz (eI ts a.a_.toNat (b.a_-a.a_).toNat) b.mB) (nW a.mB):=by
 unfold j0 wW
 rw [if_neg h,Int.min_eq_left om,Int.max_eq_right om]
end
section
def hP (m:List aA) (a:cQ):List av:=rd a.1.1 m.length 7 (List.zipWith aA.cells m a.2)::aU aA.gX m a.2
structure QD (h:List aA) (a:cQ):Prop where
 len:h.length≤1000000
 oi:a.2.length=h.length
 sig: ∀ d∈h,d.cx.aj.length≤1000000
structure fg (r:cd) (az:List RA) (ha:List cQ):Prop where
 line:eE r.ah az
 iM:r.aI.length≤1000000
 draw:r.bD.length≤12
 iN:r.aq.length≤1000000
 has:ha.length=r.aq.length
 oF: ∀ (k:Nat) h (a:cQ),r.aq[k]? =some h→ha[k]? =some a→QD h a
structure qI (r:cd) (az:List RA) (ha:List cQ):Prop where
 line:tf r.ah az
 iM:r.aI.length≤9223372036854775807
 draw:r.bD.length≤9223372036854775807
 iN:r.aq.length≤9223372036854775807
 has:ha.length=r.aq.length
 oF: ∀ (k:Nat) h (a:cQ),r.aq[k]? =some h→ha[k]? =some a→h.length≤9223372036854775807∧a.2.length=h.length∧ ∀ d∈h,d.cx.aj.length≤9223372036854775807
def oE (h:List aA):Prop:=8<(h.length:Int)∨ ∃ d∈h,15<(d.cx.aj.length:Int)
def ot (r:cd):Prop:=(mC r.ah∨8<(r.aI.length:Int)∨8<(r.bD.length:Int)∨5<(r.aq.length:Int))∨ ∃ h∈r.aq,oE h
noncomputable instance (r:cd):Decidable (ot r):=Classical.propDecidable _
theorem Mt {r:cd} (h: ¬ ot r): ¬ mC r.ah∧(r.aI.length:Int)≤8∧(r.bD.length:Int)≤8∧(r.aq.length:Int)≤5∧ ∀ h∈r.aq,(h.length:Int)≤8∧ ∀ d∈h,(d.cx.aj.length:Int)≤15:=by
 unfold ot at h
 obtain ⟨A,B⟩:=not_or.1 h
 obtain ⟨C,E⟩:=not_or.1 A
 refine ⟨C,om,om,om,fun x hx=>?_⟩
 have hn: ¬ oE x:=fun q=>B ⟨x,hx,q⟩
 obtain ⟨F,D⟩:=not_or.1 hn
 refine ⟨om,fun d hd=>?_⟩
 rcases Int.lt_or_le 15 (d.cx.aj.length:Int) with q|q
 ·exact absurd ⟨d,hd,q⟩ D
 ·exact q
theorem qI.small {r:cd} {az:List RA} {ha:List cQ} (h:qI r az ha) (hg: ¬ ot r):fg r az ha:=by
 have B:=Mt hg
 refine ⟨h.line.small B.1,om,om,om,h.has,fun k x a hx A=>?_⟩
 have C:=B.2.2.2.2 x (aX hx)
 have D:=h.oF k x a hx A
 exact ⟨om,D.2.1,fun d hd=>by have:=C.2 d hd; omega⟩
def mw (r:cE):Prop:=r.Start=0∧r.gi=0∧(r.aj.length:Int)=0
instance (r:cE):Decidable (mw r):=by unfold mw; infer_instance
def iH (s:aa):Prop:=1≤s.Lo∧s.Lo≤s.Hi∧s.Hi≤600000
instance (s:aa):Decidable (iH s):=by unfold iH; infer_instance
def ig (l:bf) (d:aA):Prop:=if d.Out=true then d.eO=false∧d.Time=dE∧mw d.cx else if d.eO=true then iH d.Time∧mw d.cx else eU l d.cx l.bI=0∧d.Time=dE
noncomputable instance (l:bf) (d:aA):Decidable (ig l d):=Classical.propDecidable _
noncomputable def dD (l:bf) (d:aA):aa:=if d.Out=true∨d.eO=true then d.Time else z5 l d.cx
/-- which kind a descent is of -/
def oj (d:aA):Int:=if d.Out=true then 0 else if d.eO=true then 1 else 2
theorem ME {w:bU} (h:G7 w): ∀ (b:Nat) (p:aC×Int),p∈fwd w b→w.Start≤p.2:=by
 have hl: ∀ b,0≤bV w b:=fun b=>by
  unfold bV
  cases e:w.pO[b]? with
  |none=>simp
  |some x=>have:=h.least x (aX e); simp; omega
 intro b
 induction b with
 |zero=>intro p hp; simp only [fwd,bW] at hp; subst hp; exact Int.le_refl _
 |succ b ih=>
  intro q hq
  obtain ⟨p,hp,o,ho,e⟩:=fP.1 hq
  unfold kH at e
  split at e
  ·simp only [Option.some.injEq] at e
   subst e
   have:=ih p hp
   have:=hl b
   simp only; omega
  ·cases e
theorem ND {l:bf} {r:cE} {b:Int} (h:eU l r b=0):r.Start≤(eZ l r b).Lo:=by
 have ho:eG l r (jG l b)=0:=by
  by_cases e:eG l r (jG l b)=0
  ·exact e
  ·rw [(mZ e).1] at h; exact absurd h e
 obtain ⟨B,C,_⟩:=jY ho
 obtain ⟨ht,A⟩:=gK B
 have hw:=oN ht A C
 have hv:eZ l r b=mm l r b.toNat:=by unfold eZ; rw [if_pos h]
 have hn:mm l r b.toNat≠mx:=fun e=>by unfold eU at h; rw [if_pos ho,if_pos e] at h; omega
 have hh:=uf (l:=ml (ct l r) b.toNat) fun q hq=>mK hq
 rw [hv]
 unfold mm at hn ⊢
 rcases hh with ⟨_,e⟩|hh
 ·exact absurd e hn
 ·obtain ⟨x,hx,ex⟩:=hh.lo
  obtain ⟨o,ho,p,hp,u,hu,e⟩:=hO.1 hx
  obtain ⟨_,_,rfl⟩:=jn.1 e
  have D:r.Start≤p.2:=ME hw _ p hp
  have E:0≤bV (ct l r) b.toNat:=by
   unfold bV
   cases e:(ct l r).pO[b.toNat]? with
   |none=>simp
   |some x=>have:=hw.least x (aX e); simp; omega
  simp only [jq] at ex
  omega
theorem FJ {l:bf} {d:aA} (h:ig l d):0≤(dD l d).Lo∧(dD l d).Lo≤(dD l d).Hi∧(dD l d).Hi≤86400000:=by
 unfold ig at h
 unfold dD
 split at h
 ·rename_i q; rw [if_pos (Or.inl q),h.2.1]; simp [dE]
 ·rename_i q
  split at h
  ·rename_i A
   rw [if_pos (Or.inr A)]
   obtain ⟨⟨B,C,D⟩,_⟩:=h
   omega
  ·rename_i A
   rw [if_neg (fun z=>z.elim q A),Ar h.1]
   have B:=xp h.1
   have C:=(vj h.1).time
   have D:=ND h.1
   simp only
   omega
theorem Fl {l:bf} {d:aA} (h:d.Out=true):dD l d=d.Time:=if_pos (Or.inl h)
theorem As {l:bf} {d:aA} (h:d.Out=false∧d.eO=true):dD l d=d.Time:=if_pos (Or.inr h.2)
theorem vR {l:bf} {d:aA} (h:d.Out=false∧d.eO=false):dD l d=z5 l d.cx:=if_neg (by simp [h])
theorem p7 {l:bf} {d:aA} (h:d.Out=true):ig l d=(d.eO=false∧d.Time=dE∧mw d.cx):=if_pos h
theorem sV {l:bf} {d:aA} (h:d.Out=false∧d.eO=true):ig l d=(iH d.Time∧mw d.cx):=by unfold ig; rw [if_neg (by simp [h]),if_pos h.2]
theorem sN {l:bf} {d:aA} (h:d.Out=false∧d.eO=false):ig l d=(eU l d.cx l.bI=0∧d.Time=dE):=by unfold ig; rw [if_neg (by simp [h]),if_neg (by simp [h])]
structure eW (r:cd):Prop where
 num:1≤(r.aI.length:Int)∧(r.aI.length:Int)≤5
 xT:0≤r.ed∧r.ed≤5
 nh:1≤(r.aq.length:Int)∧(r.aq.length:Int)≤3
 ids: ∀ (i:Nat) x,r.aI[i]? =some x→(0≤x∧x≤9999)∧ ∀ y,0<i→r.aI[i-1]? =some y→y<x
 draw:r.bD.Perm ((List.range r.aI.length).map fun (k:Nat)=>(k:Int))
 oF: ∀ h∈r.aq,h.length=r.aI.length∧ ∀ d∈h,ig r.ah d
noncomputable instance (r:cd):Decidable (eW r):=Classical.propDecidable _
noncomputable def bX (r:cd):Int:=if dw r.ah=0 then (if eW r then 0 else 60) else dw r.ah
end
section
theorem ng {α β:Type} {f g:α→Option β}: ∀ {l:List α},(∀ x∈l,f x=g x)→l.filterMap f=l.filterMap g
 |[],_=>rfl
 |x::l,h=>by simp only [List.filterMap_cons,h x cm,ng (l:=l) (fun y hy=>h y (cS _ hy))]
abbrev gk:=List (Int×aa)
/-- the sum of a sled in some heats, the first ones -/
noncomputable def fT (l:bf) (hs:List (List aA)) (i:Nat):Nat→Option aa
 |0=>some ⟨0,0⟩
 |k+1=>match fT l hs i k,(hs[k]?).bind (·[i]?) with
  |some s,some d=>if d.Out=true then none else some ⟨s.Lo+(dD l d).Lo/10,s.Hi+(dD l d).Hi/10⟩
  |_,_=>none
noncomputable def er (l:bf) (hs:List (List aA)) (n h i:Nat):gk:=(List.range n).filterMap fun q=>(fT l hs q (if q<i then h+1 else h)).map fun s=>((q:Int),s)
noncomputable def eM (r:cd) (k:Nat):gk:=(List.range r.aI.length).filterMap fun q=>(fT r.ah r.aq q k).map fun s=>((q:Int),s)
noncomputable def aB (r:cd):gk:=eM r r.aq.length
section
variable {l:bf} {hs:List (List aA)} {n h i q:Nat} {s:aa} {d:aA}
theorem BD:er l hs n h 0=(List.range n).filterMap fun q=>(fT l hs q h).map fun s=>((q:Int),s):=by
 unfold er
 apply ng
 intro q _
 rw [if_neg (Nat.not_lt_zero _)]
theorem Nw:er l hs n h n=er l hs n (h+1) 0:=by
 rw [BD]
 unfold er
 apply ng
 intro q hq
 rw [if_pos (List.mem_range.1 hq)]
theorem GY {x:List aA} (hx:hs[h]? =some x) (hd:x[i]? =some d) (ho:d.Out=true):fT l hs i (h+1)=none:=by
 unfold fT
 rw [hx]
 simp only [Option.bind_some,hd]
 cases fT l hs i h with
 |none=>rfl
 |some s=>simp [ho]
theorem Ek (h0:fT l hs i h=none):fT l hs i (h+1)=none:=by unfold fT; rw [h0]
theorem ES {x:List aA} (hx:hs[h]? =some x) (hd:x[i]? =some d) (ho: ¬ d.Out=true) (hs0:fT l hs i h=some s):fT l hs i (h+1)=some ⟨s.Lo+(dD l d).Lo/10,s.Hi+(dD l d).Hi/10⟩:=by
 unfold fT
 rw [hx,hs0]
 simp only [Option.bind_some,hd,if_neg ho]
end
section
variable {l:bf} {hs:List (List aA)} {n h i q:Nat} {s t:aa}
theorem QH {K β:Type} [DecidableEq K] {L Y:List (K×β)} {t:K}:(L++Y).lookup t=match L.lookup t with |some v=>some v|none=>Y.lookup t:=by
 induction L with
 |nil=>rfl
 |cons p L ih=>
  obtain ⟨k,u⟩:=p
  by_cases e:t==k
  ·simp [List.lookup,e]
  ·have:(t==k)=false:=by simpa using e
   simp only [List.cons_append,List.lookup,this,ih]
theorem oW {f:Nat→Option aa}: ∀ (n i:Nat),((List.range n).filterMap fun q=>(f q).map fun s=>((q:Int),s)).lookup (i:Int)=if i<n then f i else none
 |0,i=>by simp
 |n+1,i=>by
  rw [List.range_succ,List.filterMap_append,QH,oW n i]
  by_cases c:i<n
  ·rw [if_pos c,if_pos om]
   cases e:f i with
   |some s=>rfl
   |none=>
    simp only
    cases e2:f n with
    |none=>simp [e2]
    |some u=>
     have:((i:Int)==(n:Int))=false:=by simp only [beq_eq_false_iff_ne,ne_eq]; omega
     simp [e2,List.lookup,this]
  ·rw [if_neg c]
   simp only
   by_cases A:i=n
   ·subst A
    rw [if_pos om]
    cases e2:f i with
    |none=>simp [e2]
    |some u=>simp [e2]
   ·rw [if_neg om]
    have:((i:Int)==(n:Int))=false:=by simp only [beq_eq_false_iff_ne,ne_eq]; omega
    cases e2:f n with
    |none=>simp [e2]
    |some u=>simp [e2,List.lookup,this]
theorem xJ:(er l hs n h i).lookup (q:Int)=if q<n then fT l hs q (if q<i then h+1 else h) else none:=oW n q
theorem Pv {f g:Nat→Option aa} {n i:Nat} (hi:i<n) {s:aa} (hf:(f i).isSome=true) (hg:g i=some s) (hfg: ∀ q,q≠i→f q=g q):dK ((List.range n).filterMap fun q=>(f q).map fun s=>((q:Int),s)) (i:Int) s=(List.range n).filterMap fun q=>(g q).map fun s=>((q:Int),s):=by
 unfold dK
 rw [if_pos (by rw [oW,if_pos hi]; exact hf),List.map_filterMap]
 apply ng
 intro q _
 by_cases e:q=i
 ·subst e
  obtain ⟨u,hu⟩:=Option.isSome_iff_exists.1 hf
  rw [hu,hg]; simp
 ·rw [hfg q e]
  cases g q with
  |none=>rfl
  |some u=>
   have: ¬ ((q:Int)=(i:Int)):=by omega
   simp [this]
theorem PC {f g:Nat→Option aa} {n i:Nat} (hg:g i=none) (hfg: ∀ q,q≠i→f q=g q):cf ((List.range n).filterMap fun q=>(f q).map fun s=>((q:Int),s)) (i:Int)=(List.range n).filterMap fun q=>(g q).map fun s=>((q:Int),s):=by
 unfold cf
 rw [List.filter_filterMap]
 apply ng
 intro q _
 by_cases e:q=i
 ·subst e
  rw [hg]
  cases f q with
  |none=>rfl
  |some u=>simp
 ·rw [hfg q e]
  cases g q with
  |none=>rfl
  |some u=>
   have: ¬ ((q:Int)=(i:Int)):=by omega
   simp [this]
theorem Nb (hi:i<n) (h0:(fT l hs i h).isSome=true) (h1:fT l hs i (h+1)=some s):dK (er l hs n h i) (i:Int) s=er l hs n h (i+1):=by
 unfold er
 refine Pv hi (by rw [if_neg (Nat.lt_irrefl i)]; exact h0) (by rw [if_pos (Nat.lt_succ_self i)]; exact h1) fun q hq=>?_
 by_cases c:q<i
 ·rw [if_pos c,if_pos om]
 ·rw [if_neg c,if_neg om]
theorem FZ (h1:fT l hs i (h+1)=none):cf (er l hs n h i) (i:Int)=er l hs n h (i+1):=by
 unfold er
 refine PC (by rw [if_pos (Nat.lt_succ_self i)]; exact h1) fun q hq=>?_
 by_cases c:q<i
 ·rw [if_pos c,if_pos om]
 ·rw [if_neg c,if_neg om]
end
theorem Bg {r:cd} {k i:Nat}:(eM r k).lookup (i:Int)=if i<r.aI.length then fT r.ah r.aq i k else none:=oW _ _
def mQ (m:gk) (i:Int):gk:=m.filter fun p=> !decide (p.1=i)
def gE (m:gk) (i n:Int):Nat:=(mQ m i).countP fun p=>decide (p.2.Hi<n)
def jt (m:gk) (i n:Int):Nat:=(mQ m i).countP fun p=>decide (p.2.Lo<n)
def iP (m:gk) (i:Int) (own:aa):List Int:=own.Lo::((mQ m i).flatMap fun p=>[p.2.Lo+1,p.2.Hi+1]).filter fun n=>decide (own.Lo≤n∧n≤own.Hi)
def qu (m:gk) (i:Int) (own:aa) (k:Int):Prop:= ∃ n∈iP m i own,(gE m i n:Int)+1≤k∧k≤(jt m i n:Int)+1
noncomputable instance (m:gk) (i:Int) (own:aa) (k:Int):Decidable (qu m i own k):=Classical.propDecidable _
noncomputable def di (m:gk) (i:Int) (own:aa):List Int:=((List.range m.length).map fun (k:Nat)=>(k:Int)+1).filter fun k=>decide (qu m i own k)
section
variable {m:gk} {i:Int} {own:aa}
/-- what a point stands for -/
theorem Ki {x:Int} (h1:own.Lo≤x) (h2:x≤own.Hi): ∃ n∈iP m i own,n≤x∧gE m i n=gE m i x∧jt m i n=jt m i x:=by
 -- the greatest point that is no greater
 have key: ∀ (d:Nat) (x:Int),own.Lo≤x→x≤own.Hi→(x-own.Lo).toNat=d→ ∃ n∈iP m i own,n≤x∧gE m i n=gE m i x∧jt m i n=jt m i x:=by
  intro d
  induction d with
  |zero=>
   intro x h1 h2 hd
   have:x=own.Lo:=by omega
   exact ⟨own.Lo,cm ..,om,by rw [this],by rw [this]⟩
  |succ d ih=>
   intro x h1 h2 hd
   by_cases c:x∈iP m i own
   ·exact ⟨x,c,Int.le_refl _,U,U⟩
   ·obtain ⟨n,hn,D,B,C⟩:=ih (x-1) om om om
    have A: ∀ p∈mQ m i,p.2.Lo+1≠x∧p.2.Hi+1≠x:=fun p hp=>by
     constructor<;>intro e<;>apply c<;>refine cS _ (List.mem_filter.2 ⟨List.mem_flatMap.2 ⟨p,hp,by rw [← e]; simp⟩,fM ⟨h1,h2⟩⟩)
    refine ⟨n,hn,om,?_,?_⟩
    ·rw [B]
     unfold gE
     apply List.countP_congr
     intro p hp
     have:=(A p hp).2
     rw [decide_eq_true_eq,decide_eq_true_eq]
     omega
    ·rw [C]
     unfold jt
     apply List.countP_congr
     intro p hp
     have:=(A p hp).1
     rw [decide_eq_true_eq,decide_eq_true_eq]
     omega
 exact key _ x h1 h2 U
theorem Cm {n:Int} (ho:own.Lo≤own.Hi) (h:n∈iP m i own):own.Lo≤n∧n≤own.Hi:=by
 rcases List.mem_cons.1 h with rfl|h
 ·omega
 ·exact of_decide_eq_true (List.mem_filter.1 h).2
/-- a rank comes about at some sum -/
theorem CJ (ho:own.Lo≤own.Hi) {k:Int}:qu m i own k↔ ∃ x,own.Lo≤x∧x≤own.Hi∧(gE m i x:Int)+1≤k∧k≤(jt m i x:Int)+1:=by
 constructor
 ·rintro ⟨n,hn,A,B⟩
  have:=Cm ho hn
  exact ⟨n,this.1,this.2,A,B⟩
 ·rintro ⟨x,A,B,E,F⟩
  obtain ⟨n,hn,_,C,D⟩:=Ki (m:=m) (i:=i) A B
  exact ⟨n,hn,by rw [C]; exact E,by rw [D]; exact F⟩
theorem Iq (hi:m.lookup i≠none) {x:Int}:jt m i x+1≤m.length:=by
 unfold jt
 refine Nat.lt_of_le_of_lt List.countP_le_length ?_
 unfold mQ
 obtain ⟨v,hv⟩:=Option.ne_none_iff_exists'.1 hi
 have hm: ∃ p∈m,p.1=i:=by
  clear hi
  induction m with
  |nil=>simp at hv
  |cons p m ih=>
   obtain ⟨a,b⟩:=p
   by_cases e:i=a
   ·exact ⟨_,cm ..,e.symm⟩
   ·have:(i==a)=false:=by simpa using e
    simp only [List.lookup,this] at hv
    obtain ⟨p,hp,e⟩:=ih hv
    exact ⟨p,cS _ hp,e⟩
 obtain ⟨p,hp,e⟩:=hm
 refine Nat.lt_of_le_of_ne (List.length_filter_le _ _) fun q=>?_
 have:=(List.filter_eq_self (p:=fun p:Int×aa=> !decide (p.1=i))).1 (List.filter_sublist.eq_of_length q) p hp
 simp [e] at this
theorem zl (hi:m.lookup i≠none) {k:Int}:k∈di m i own↔qu m i own k:=by
 unfold di
 rw [List.mem_filter,tn,decide_eq_true_eq]
 constructor
 ·rintro ⟨_,h⟩; exact h
 ·intro h
  refine ⟨?_,h⟩
  obtain ⟨n,_,A,B⟩:=h
  have:=Iq hi (x:=n)
  exact ⟨(k-1).toNat,List.mem_range.2 om,om⟩
end
end
section
def pX (l:List Int):List (List Value):=l.map fun x=>[vI x]
theorem sI {l:List Int}:(pX l).length=l.length:=by simp [pX]
theorem Hu {l:List Int} {k:Nat} {x:Int} (h:l[k]? =some x):(pX l)[k]? =some [vI x]:=by simp [pX,h]
theorem Hc {l:List Int} {k:Nat} {x:List Value} (h:(pX l)[k]? =some x): ∃ y,l[k]? =some y∧x=[vI y]:=by
 simp only [pX,fB,Option.map_eq_some_iff] at h
 obtain ⟨y,hy,rfl⟩:=h
 exact ⟨y,hy,U⟩
theorem D3 {l:List Int}: ∀ x∈pX l,x.length=1:=fun x hx=>by
 simp only [pX,tn] at hx
 obtain ⟨y,_,rfl⟩:=hx
 rfl
theorem yf {l:List Int}:l.take (pX l).length=l:=by rw [sI,List.take_of_length_le (Nat.le_refl _)]
theorem jJ {l:List Int} {k:Nat} {x:Int} (h:l[k]? =some x):l.take (k+1)=l.take k++[x]:=by
 rw [List.take_add_one,h]; rfl
def dj (l:List Int):List Int:=l.mergeSort fun a b=>decide (a≤b)
theorem fF {l:List Int}:(dj l).Perm l:=List.mergeSort_perm _ _
theorem lf {l:List Int}:(dj l).Pairwise (· ≤ ·):=by
 have:=List.pairwise_mergeSort (le:=fun (a b:Int)=>decide (a≤b)) (fun a b c A B=>by simp at A B ⊢; omega) (fun a b=>by simp; omega) l
 exact this.imp fun h=>by simpa using h
@[simp] theorem gD {l:List Int}:(dj l).length=l.length:=fF.length_eq
theorem qk {l m:List Int} (h1:m.Perm l) (h2:m.Pairwise (· ≤ ·)):m=dj l:=rG (h1.trans fF.symm) h2 lf
end
section
open Go.RowKit
def sC (s:aM):List Value:=[vS s.a s.n s.c]
theorem yx: ∀ s,(sC s).length=1:=fun s=>rfl
theorem JP (l:List aM): ∀ v∈(l.map sC).flatten,v.oneCell'=true:=my (fun s=>rfl) l
def Bs (l:List aa) (a:RA):aM:=⟨a.1,l.length,a.2⟩
def DD (l:List aa) (a:RA):List Value:=[vS a.1 l.length a.2]
def L9 (l:List aa) (a:RA):List av:=[rd a.1 l.length 2 (l.map aa.cells)]
def De (l:List aa) (a:RA):List av:=[own a.1 a.2 JG 2 (l.map aa.cells)]
theorem zC {ls:List (List aa)} {az:List RA}:(List.zipWith Bs ls az).map sC=List.zipWith DD ls az:=by
 rw [List.map_zipWith]; rfl
theorem td: ∀ (m:List aa) (a:RA) (w:World),(∀ X∈De m a,X.holds w)→ ∀ X∈L9 m a,X.holds w:=fun m a w h X hX=>by
 simp only [L9,bW] at hX
 subst hX
 have:=mY (h _ (List.mem_singleton.2 rfl))
 simpa using this
theorem xZ {l:List (List aa)} {bz:List RA}:(bo (aU De l bz)).wr=true:=by
 show (aU De l bz).all (·.wr)=true
 rw [fc]
 intro X hX
 obtain ⟨k,m,a,_,_,h⟩:=jN hX
 simp only [De,bW] at h
 subst h; rfl
theorem mM {ls:List (List aa)} {az:List RA} (h:az.length=ls.length):(List.zipWith DD ls az).length=ls.length:=by simp [h]
noncomputable def gH (r:cd) (i:Nat):List (List aa):=(r.aq.take i).map fun h=>h.map (dD r.ah)
noncomputable def cP (r:cd):List (List aa):=gH r r.aq.length
section
variable {r:cd} {i:Nat} {h:List aA} {tz:List RA} {a:RA}
theorem uS (hh:r.aq[i]? =some h):gH r (i+1)=gH r i++[h.map (dD r.ah)]:=by unfold gH; rw [List.take_add_one,hh,List.map_append]; rfl
theorem kM (hi:i≤r.aq.length):(gH r i).length=i:=by unfold gH; rw [List.length_map,List.length_take]; omega
theorem dH:(cP r).length=r.aq.length:=kM (Nat.le_refl _)
theorem Dy (hh:r.aq[i]? =some h):(cP r)[i]? =some (h.map (dD r.ah)):=by
 unfold cP gH
 rw [List.take_length,fB,hh]; rfl
theorem yn {m:List aa} (hh:r.aq[i]? =some h) (hm:(cP r)[i]? =some m):m=h.map (dD r.ah):=by
 rw [Dy hh] at hm
 exact (Option.some.inj hm).symm
theorem sU (hh:r.aq[i]? =some h) (hl:tz.length=i):List.zipWith Bs (gH r (i+1)) (tz++[a])=List.zipWith Bs (gH r i) tz++[Bs (h.map (dD r.ah)) a]:=by
 have hi:=(List.getElem?_eq_some_iff.1 hh).1
 rw [uS hh,List.zipWith_append (by rw [kM om,hl])]
 rfl
theorem CK (hh:r.aq[i]? =some h) (hl:tz.length=i):aU De (gH r i) tz++[own a.1 a.2 JG 2 ((h.map (dD r.ah)).map aa.cells)]=aU De (gH r (i+1)) (tz++[a]):=by
 have hi:=(List.getElem?_eq_some_iff.1 hh).1
 rw [uS hh,jT (by rw [kM om,hl])]
 simp [aU,De]
end
theorem yU {lo hi:Int} {l:List Int}:pP lo hi l=true↔ ∀ x∈l,lo≤x∧x≤hi:=by
 unfold pP
 rw [Bool.not_eq_true',List.any_eq_false]
 constructor
 ·intro h x hx; have:=h x hx; simp only [decide_eq_true_eq] at this; omega
 ·intro h x hx; have:=h x hx; simp only [decide_eq_true_eq]; omega
abbrev G3 (n:Nat):List Int:=(List.range n).map fun (k:Nat)=>(k:Int)
theorem xh (n:Nat):(G3 n).Pairwise (· ≤ ·):=by
 unfold G3
 rw [List.pairwise_map]
 exact List.pairwise_lt_range.imp fun h=>by omega
theorem vk {l:List Int} {n:Nat} (h:l.Perm (G3 n)):dj l=G3 n:=(qk h.symm (xh n)).symm
theorem G6 {l:List Int} {n:Nat} (hl:l.length=n) (h: ∀ j,j<n→ ∀ x,(dj l)[j]? =some x→x=(j:Int)):l.Perm (G3 n):=by
 have e:dj l=G3 n:=by
  apply List.ext_getElem
  ·simp [hl]
  ·intro j A B
   have C:j<n:=by simpa using B
   have:=h j C _ (e9 A)
   simpa using this
 rw [← e]; exact fF.symm
def qJ (r:cd) (i:Nat):Prop:= ∀ j,j<i→(∀ x,(dj r.bD)[j]? =some x→x=(j:Int))∧ ∀ x y,r.aI[j]? =some x→0<j→r.aI[j-1]? =some y→y<x
def Ds (r:cd) (h:List aA):Prop:=h.length=r.aI.length∧ ∀ d∈h,ig r.ah d
def j7 (r:cd) (i:Nat):Prop:= ∀ (j:Nat) h,j<i→r.aq[j]? =some h→Ds r h
def nP (l:bf) (h:List aA) (k:Nat):Prop:= ∀ (j:Nat) d,j<k→h[j]? =some d→ig l d
section
variable {r:cd} {i:Nat}
theorem DE:qJ r 0:=fun j hj=>absurd hj (Nat.not_lt_zero _)
theorem wu {x:Int} (h:qJ r i) (hd:(dj r.bD)[i]? =some x) (e:x=(i:Int)) (hs: ∀ x y,r.aI[i]? =some x→0<i→r.aI[i-1]? =some y→y<x):qJ r (i+1):=fun j hj=>by
 rcases Nat.lt_or_ge j i with q|q
 ·exact h j q
 ·obtain rfl:j=i:=by omega
  exact ⟨fun y hy=>by rw [hd] at hy; cases hy; exact e,hs⟩
theorem xr:j7 r 0:=fun j h hj=>absurd hj (Nat.not_lt_zero _)
theorem w9 {h:List aA} (hh:j7 r i) (hx:r.aq[i]? =some h) (ho:Ds r h):j7 r (i+1):=fun j y hj hy=>by
 rcases Nat.lt_or_ge j i with q|q
 ·exact hh j y q hy
 ·obtain rfl:j=i:=by omega
  rw [hx] at hy; cases hy; exact ho
theorem uV {l:bf} {h:List aA}:nP l h 0:=fun j d hj=>absurd hj (Nat.not_lt_zero _)
theorem u0 {l:bf} {h:List aA} {d:aA} (ht:nP l h i) (hx:h[i]? =some d) (ho:ig l d):nP l h (i+1):=fun j y hj hy=>by
 rcases Nat.lt_or_ge j i with q|q
 ·exact ht j y q hy
 ·obtain rfl:j=i:=by omega
  rw [hx] at hy; cases hy; exact ho
theorem F3 {h:List aA} (hl:h.length=r.aI.length) (ht:nP r.ah h i) (hi:h.length≤i):Ds r h:=⟨hl,fun d hd=>by
 obtain ⟨j,hj⟩:=List.getElem?_of_mem hd
 exact ht j d (by have:=(List.getElem?_eq_some_iff.1 hj).1; omega) hj⟩
theorem JF {n:Nat} (hn:n=r.aI.length) (h1:1≤(r.aI.length:Int)∧(r.aI.length:Int)≤5) (h2:r.bD.length=r.aI.length) (h3:0≤r.ed∧r.ed≤5) (h4:1≤(r.aq.length:Int)∧(r.aq.length:Int)≤3) (h5:pP 0 9999 r.aI=true)
 (h6:qJ r n) (h7:j7 r i) (hi:r.aq.length≤i):eW r:=by
 subst hn
 refine ⟨h1,h3,h4,fun k x hx=>⟨yU.1 h5 x (aX hx),fun y hk hy=>?_⟩,G6 h2 fun j hj=>(h6 j hj).1,fun h hh=>?_⟩
 ·exact (h6 k (List.getElem?_eq_some_iff.1 hx).1).2 x y hx hk hy
 ·obtain ⟨j,hj⟩:=List.getElem?_of_mem hh
  exact h7 j h (by have:=(List.getElem?_eq_some_iff.1 hj).1; omega) hj
theorem eW.ym (h:eW r):r.bD.length=r.aI.length:=by have:=h.draw.length_eq; simpa using this
theorem eW.ins (h:eW r):pP 0 9999 r.aI=true:=yU.2 fun x hx=>by
 obtain ⟨j,hj⟩:=List.getElem?_of_mem hx
 exact (h.ids j x hj).1
theorem eW.drawn (h:eW r) {x:Int} (hx:(dj r.bD)[i]? =some x):x=(i:Int):=by
 rw [vk h.draw] at hx
 have hi:=(List.getElem?_eq_some_iff.1 hx).1
 simp at hi
 rw [fB,List.getElem?_range hi] at hx
 exact (Option.some.inj hx).symm
theorem eW.AD (h:eW r):j7 r i:=fun j x _ hx=>h.oF x (aX hx)
theorem yz (h: ¬ dw r.ah=0):bX r=dw r.ah:=if_neg h
theorem kq (h:dw r.ah=0) (hn: ¬ eW r):bX r=60:=by unfold bX; rw [if_pos h,if_neg hn]
theorem Cs (h:dw r.ah=0) (hn:eW r):bX r=0:=by unfold bX; rw [if_pos h,if_pos hn]
theorem iJ (h:bX r=0):dw r.ah=0∧eW r:=by
 unfold bX at h
 split at h
 ·split at h
  ·exact ⟨asm,asm⟩
  ·cases h
 ·exact absurd h asm
end
section
variable {r:cd} {k i n h:Nat} {s:aa} {l:bf} {hs:List (List aA)}
theorem zJ: ∀ {k:Nat} {s:aa},j7 r k→k≤r.aq.length→fT r.ah r.aq i k=some s→0≤s.Lo∧s.Lo≤s.Hi∧s.Hi≤8640000*(k:Int)
 |0,s,_,_,h=>by
  simp only [fT,Option.some.injEq] at h
  subst h; simp
 |k+1,s,hh,hk,h=>by
  unfold fT at h
  split at h
  ·rename_i u d hu hd
   split at h
   ·cases h
   ·cases h
    have A:=zJ (fun j x hj hx=>hh j x om hx) om hu
    obtain ⟨x,hx,hd⟩:=Option.bind_eq_some_iff.1 hd
    have B:=FJ ((hh k x om hx).2 d (aX hd))
    simp only
    push_cast
    omega
  ·cases h
theorem Ns:dK (er l hs i 0 0) (i:Int) ⟨0,0⟩=er l hs (i+1) 0 0:=by
 have A:(er l hs i 0 0).lookup (i:Int)=none:=by rw [xJ,if_neg (Nat.lt_irrefl i)]
 unfold dK
 rw [A]
 simp only [Option.isSome_none,Bool.false_eq_true,if_false]
 unfold er
 rw [List.range_succ,List.filterMap_append]
 simp [fT]
theorem IS (hi:i<n):(er l hs n h i).lookup (i:Int)=fT l hs i h:=by rw [xJ,if_pos hi,if_neg (Nat.lt_irrefl i)]
theorem Ib {α β:Type} {f:α→β} {tr:List β} {ht:List α} {x:β} {d:α} (e:tr=ht.map f) (hx:tr[i]? =some x) (hd:ht[i]? =some d):x=f d:=by
 rw [e,fB,hd] at hx
 exact (Option.some.inj hx).symm
theorem ML:er r.ah r.aq r.aI.length h 0=eM r h:=BD
end
end
section
def vz (key:Int→Int) (l:List Int) (x:Int):List Int:=l.takeWhile (fun y=>decide (key y≤key x))++x::l.dropWhile (fun y=>decide (key y≤key x))
def eD (key:Int→Int) (l:List Int):List Int:=l.foldl (vz key) []
def D1 (key:Int→Int) (l:List Int):Prop:=l.Pairwise fun a b=>key a≤key b
section
variable {key:Int→Int} {l A B D:List Int} {x u v:Int} {i j:Nat}
theorem Hb:(vz key l x).Perm (x::l):=by
 unfold vz
 refine List.perm_middle.trans ?_
 rw [List.takeWhile_append_dropWhile]
theorem Ow (hA: ∀ y∈A,key y≤key x) (hB: ∀ y∈B,key x<key y):(A++B).takeWhile (fun y=>decide (key y≤key x))=A∧(A++B).dropWhile (fun y=>decide (key y≤key x))=B:=by
 induction A with
 |nil=>
  cases B with
  |nil=>simp
  |cons b B=>
   have h:=hB b cm
   have:decide (key b≤key x)=false:=cr om
   rw [List.nil_append,List.takeWhile_cons,List.dropWhile_cons,this]
   exact ⟨U,U⟩
 |cons a A ih=>
  have h:=ih fun y hy=>hA y (cS _ hy)
  have:decide (key a≤key x)=true:=fM (hA a cm)
  simp only [List.cons_append,List.takeWhile,List.dropWhile,this]
  exact ⟨by rw [h.1],h.2⟩
theorem xV (hA: ∀ y∈A,key y≤key x) (hB: ∀ y∈B,key x<key y):vz key (A++B) x=A++x::B:=by
 unfold vz
 rw [(Ow hA hB).1,(Ow hA hB).2]
theorem Bq (x:Int): ∀ {l:List Int},D1 key l→ ∃ A B,l=A++B∧(∀ y∈A,key y≤key x)∧ ∀ y∈B,key x<key y
 |[],_=>⟨[],[],rfl,(fun y h=>by cases h),fun y h=>by cases h⟩
 |a::l,h=>by
  unfold D1 at h
  rw [List.pairwise_cons] at h
  by_cases c:key a≤key x
  ·obtain ⟨A,B,e,hA,hB⟩:=Bq x (l:=l) h.2
   refine ⟨a::A,B,by rw [e]; rfl,fun y hy=>?_,hB⟩
   rcases List.mem_cons.1 hy with rfl|hy
   ·exact c
   ·exact hA y hy
  ·refine ⟨[],a::l,rfl,fun y hy=>(by cases hy),fun y hy=>?_⟩
   rcases List.mem_cons.1 hy with rfl|hy
   ·omega
   ·have:=h.1 y hy; omega
theorem N9 (h:D1 key l):D1 key (vz key l x):=by
 obtain ⟨A,B,rfl,hA,hB⟩:=Bq x h
 rw [xV hA hB]
 unfold D1 at h ⊢
 rw [List.pairwise_append] at h ⊢
 refine ⟨h.1,List.pairwise_cons.2 ⟨fun y hy=>by have:=hB y hy; omega,h.2.1⟩,fun y hy z hz=>?_⟩
 rcases List.mem_cons.1 hz with rfl|hz
 ·exact hA y hy
 ·exact h.2.2 y hy z hz
theorem Cc:eD key (l++[x])=vz key (eD key l) x:=by unfold eD; rw [List.foldl_append]; rfl
theorem BL (h:l[i]? =some x):eD key (l.take (i+1))=vz key (eD key (l.take i)) x:=by rw [jJ h,Cc]
theorem wD: ∀ {l m:List Int},(l.foldl (vz key) m).Perm (m++l)
 |[],m=>by simp
 |x::l,m=>(wD (l:=l) (m:=vz key m x)).trans (((Hb).append_right l).trans (by
  rw [List.cons_append]
  exact List.perm_middle.symm))
theorem qb:(eD key l).Perm l:=by simpa [eD] using wD (key:=key) (l:=l) (m:=[])
theorem CO: ∀ {l m:List Int},D1 key m→D1 key (l.foldl (vz key) m)
 |[],m,h=>h
 |x::l,m,h=>CO (l:=l) (N9 h)
theorem uo:D1 key (eD key l):=CO List.Pairwise.nil
theorem kx:(eD key l).length=l.length:=qb.length_eq
def B4 (key:Int→Int) (l:List Int) (i j:Nat) (D:List Int):Prop:= ∃ A B x,l[i]? =some x∧A.length=j∧eD key (l.take i)=A++B∧(∀ y∈B,key x<key y)∧D=A++x::(B++l.drop (i+1))
def tJ (key:Int→Int) (l:List Int) (i:Nat) (D:List Int):Prop:=D=eD key (l.take i)++l.drop i
theorem Ku (h:0<l.length):tJ key l 1 l:=by
 cases l with
 |nil=>simp at h
 |cons a l=>simp [tJ,eD,vz]
theorem Ie (hi:l.length≤i) (h:tJ key l i D):D=eD key l:=by
 subst h; rw [List.take_of_length_le hi,List.drop_of_length_le hi,List.append_nil]
theorem EM (hi:i<l.length) (h:tJ key l i D):B4 key l i i D:=by
 have hx:l[i]? =some l[i]:=e9 hi
 refine ⟨eD key (l.take i),[],l[i],hx,by rw [kx,List.length_take]; omega,sm,fun y hy=>(by cases hy),?_⟩
 rw [h,List.nil_append,List.drop_eq_getElem_cons hi]
theorem xd: ∀ {A:List Int},0<A.length→ ∃ A' y,A=A'++[y]:=fun {A} h=>⟨A.dropLast,A.getLast (by intro e; subst e; simp at h),(List.dropLast_concat_getLast _).symm⟩
theorem HO (hj:0<j) (h:B4 key l i j D) (hu:D[j]? =some u) (hv:D[j-1]? =some v) (hlt:key u<key v):B4 key l i (j-1) ((D.set j v).set (j-1) u):=by
 obtain ⟨A,B,x,hx,hl,he,hB,rfl⟩:=h
 obtain ⟨A',y,rfl⟩:=xd (A:=A) om
 simp only [List.length_append,List.length_cons,List.length_nil] at hl
 subst hl
 have C:(A'++[y]++x::(B++l.drop (i+1)))=A'++y::x::(B++l.drop (i+1)):=by simp
 rw [C] at hu hv ⊢
 rw [List.getElem?_append_right om,show A'.length+(0+1)-A'.length=1 by omega] at hu
 rw [show A'.length+(0+1)-1=A'.length by omega,List.getElem?_append_right (Nat.le_refl _),Nat.sub_self] at hv
 simp at hu hv
 subst hu hv
 refine ⟨A',y::B,x,hx,om,by rw [he]; simp,fun z hz=>?_,?_⟩
 ·rcases List.mem_cons.1 hz with rfl|hz
  ·exact hlt
  ·exact hB z hz
 ·rw [show A'.length+(0+1)-1=A'.length by omega,List.set_append_right _ _ om,List.set_append_right _ _ (Nat.le_refl _),show A'.length+(0+1)-A'.length=1 by omega,Nat.sub_self]
  simp
theorem zc (h:B4 key l i j D) (hc: ∀ A,A.length=j→(∃ C,D=A++C)→D1 key A→ ∀ x,l[i]? =some x→D[j]? =some x→ ∀ y∈A,key y≤key x):tJ key l (i+1) D:=by
 obtain ⟨A,B,x,hx,hl,he,hB,rfl⟩:=h
 unfold tJ
 have E:D1 key (A++B):=he▸uo
 rw [BL hx,he,xV (hc A hl ⟨_,rfl⟩ (by unfold D1 at E ⊢; rw [List.pairwise_append] at E; exact E.1) x hx (by rw [List.getElem?_append_right om,← hl]; simp)) hB]
 simp
theorem zk (hj: ¬ 0<j) (h:B4 key l i j D):tJ key l (i+1) D:=zc h fun A hl _ _ x _ _ y hy=>by
 have:A=[]:=jH om
 subst this; cases hy
theorem zp (hj:0<j) (h:B4 key l i j D) (hu:D[j]? =some u) (hv:D[j-1]? =some v) (hlt: ¬ key u<key v):tJ key l (i+1) D:=zc h fun A hl hC hA x hx hd y hy=>by
 obtain ⟨C,hC⟩:=hC
 obtain ⟨A',z,rfl⟩:=xd (A:=A) om
 simp only [List.length_append,List.length_cons,List.length_nil] at hl
 rw [hd] at hu; cases hu
 have e:D[j-1]? =some z:=by
  rw [hC,List.append_assoc,List.getElem?_append_right om,show j-1-A'.length=0 by omega]; simp
 rw [e] at hv; cases hv
 unfold D1 at hA
 rw [List.pairwise_append] at hA
 rcases List.mem_append.1 hy with hy|hy
 ·have:=hA.2.2 y hy v sm; omega
 ·rw [bW] at hy; subst hy; omega
end
end
section
def rF (k:Nat) (l:List Int):List Int:=(l.take k).reverse++l.drop k
def HS (l:List Int) (k i:Nat) (D:List Int):Prop:=D.length=l.length∧ ∀ p,p<l.length→D[p]? =l[if p<k∧(p<i∨k≤p+i) then k-1-p else p]?
section
variable {l D:List Int} {k i j:Nat} {u v:Int}
theorem j9:(rF k l).length=l.length:=by unfold rF; rw [List.length_append,List.length_reverse,List.length_take,List.length_drop]; omega
theorem L7:HS l k 0 l:=⟨rfl,fun p hp=>by rw [if_neg om]⟩
theorem IH (hk:k≤l.length) (hij:i<j) (hj:j+i+1=k) (h:HS l k i D) (hu:D[i]? =some u) (hv:D[j]? =some v):HS l k (i+1) ((D.set i v).set j u):=by
 refine ⟨by rw [List.length_set,List.length_set]; exact h.1,fun p hp=>?_⟩
 have hl:=h.1
 have hi:=h.2 i om
 have A:=h.2 j om
 rw [hu,if_neg om] at hi
 rw [hv,if_neg om] at A
 by_cases B:p=j
 ·subst B
  rw [List.getElem?_set_self (by rw [List.length_set]; omega),if_pos om,show k-1-p=i by omega,hi]
 ·rw [List.getElem?_set_ne (fun e=>B e.symm)]
  by_cases C:p=i
  ·subst C
   rw [List.getElem?_set_self om,if_pos om,show k-1-p=j by omega,A]
  ·rw [List.getElem?_set_ne (fun e=>C e.symm),h.2 p hp]
   by_cases c:p<k∧(p<i∨k≤p+i)
   ·rw [if_pos c,if_pos om]
   ·rw [if_neg c,if_neg om]
theorem MS (hk:k≤l.length) (hi:k≤2*i+1) (h:HS l k i D):D=rF k l:=by
 apply List.ext_getElem?
 intro p
 by_cases hp:p<l.length
 ·rw [h.2 p hp]
  unfold rF
  by_cases c:p<k
  ·rw [List.getElem?_append_left (by rw [List.length_reverse,List.length_take]; omega),List.getElem?_reverse (by rw [List.length_take]; omega),List.length_take,Nat.min_eq_left hk,List.getElem?_take]
   rw [if_pos (show k-1-p<k by omega)]
   by_cases A:p<k∧(p<i∨k≤p+i)
   ·rw [if_pos A]
   ·rw [if_neg A,show k-1-p=p by omega]
  ·rw [if_neg om,List.getElem?_append_right (by rw [List.length_reverse,List.length_take]; omega),List.length_reverse,List.length_take,Nat.min_eq_left hk,List.getElem?_drop,show k+(p-k)=p by omega]
 ·rw [List.getElem?_eq_none (by rw [h.1]; omega),List.getElem?_eq_none (by rw [j9]; omega)]
end
end
end Go.Proofs.YtdllkkdchkhimaaGreatDoor
