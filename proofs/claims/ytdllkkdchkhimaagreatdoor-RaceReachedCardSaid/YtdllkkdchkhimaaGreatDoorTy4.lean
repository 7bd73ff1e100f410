/-
 The statement raceReached_said, part 4 of 8: Short, Grow, Global, RunA, Tab, Run, Comp, Ret, LoopK, MapK, Watch, Passes, Keys, MapR, RangeG, Nest, WMaps, WBounds, PassG, Drop, Spot, First, Line, Wrap, Goes, OpenW, Wheres, ExL6, LineR, Race, RaceS, Vals, RaceO, Ord, Rev.
 Conditions: none.
-/
import Derived.Test.YtdllkkdchkhimaaGreatDoorTy1
import Derived.Test.YtdllkkdchkhimaaGreatDoorTy2
import Derived.Test.YtdllkkdchkhimaaGreatDoorTy3
import Derived.Test.YtdllkkdchkhimaaGreatDoorProg
import Derived.KernelRfl
import Derived.WideKeyRuns
namespace Go.Proofs.YtdllkkdchkhimaaGreatDoor
set_option maxRecDepth 100000
set_option maxHeartbeats 4000000
set_option linter.unusedVariables false
section
open Go.RowKit
/-- an operation that hands v to its slot d -/
structure SE (E:ff) (ops:Array Oper) (o:Oper) (D:List Deferred) (L:List (Nat×Value)) (C:List av) (v:Value) (d:Nat):Prop where
 h:SD E ops o D L C v
 o:o.dst=some d
 n:Nat.blt d E.n=true
theorem rS {E:ff} {ops:Array Oper} {Q:cZ} {o:Oper} {rest:List Oper} {D:List Deferred} {L:List (Nat×Value)} {C:List av} {v:Value} {d:Nat}
 (h:SE E ops o D L C v d) (k:RJ E ops Q rest D ((d,v)::L) C):RJ E ops Q (o::rest) D L C:=RG h.h h.o h.n k
theorem dS {E:ff} {ops:Array Oper} {F:List (Nat×Value)→Prop} {o:Oper} {rest:List Oper} {D:List Deferred} {L:List (Nat×Value)} {C:List av} {v:Value} {d:Nat}
 (h:SE E ops o D L C v d) (k:DJ E ops D C F rest ((d,v)::L)):DJ E ops D C F (o::rest) L:=RN h.h h.o h.n k
theorem eS {E:ff} {ops:Array Oper} {D:List Deferred} {C' C1:List av} {F:List (Nat×Value)→Prop} {bs:List Bool} {o:Oper} {l rest:List Oper} {L:List (Nat×Value)} {v:Value} {d:Nat}
 (hl:l=o::rest) (h:SE E ops o D L C' v d) (k:pW E ops D C' C1 F bs rest ((d,v)::L)):pW E ops D C' C1 F (false::bs) l L:=SH h.h hl h.o h.n k
theorem fS {E:ff} {ops:Array Oper} {D:List Deferred} {C' C1:List av} {F:List (Nat×Value)→Prop} {bs:List Bool} {o:Oper} {l rest:List Oper} {L:List (Nat×Value)} {v:Value} {d:Nat}
 (hl:l=o::rest) (h:SE E ops o D L C1 v d) (k:pW E ops D C' C1 F bs rest ((d,v)::L)):pW E ops D C' C1 F (true::bs) l L:=Rq h.h hl h.o h.n k
def gB (n:Nat) (ops:Array Oper) (L:List (Nat×Value)) (d:Nat) (g:Option (Nat×Bool)):Bool:=ju ops L g&&Nat.blt d n
theorem O6 {n:Nat} {ops:Array Oper} {L:List (Nat×Value)} {d:Nat} {g:Option (Nat×Bool)} (h:gB n ops L d g=true):ju ops L g=true:=by
 unfold gB at h; rw [cR] at h; exact h.1
theorem OV {n:Nat} {ops:Array Oper} {L:List (Nat×Value)} {d:Nat} {g:Option (Nat×Bool)} (h:gB n ops L d g=true):Nat.blt d n=true:=by
 unfold gB at h; rw [cR] at h; exact h.2
def vF (n:Nat) (ops:Array Oper) (L:List (Nat×Value)) (d:Nat) (g:Option (Nat×Bool)) (x:Operand):Option Value:=match gB n ops L d g with
 |true=>ev L x
 |false=>none
def bF (n:Nat) (ops:Array Oper) (L:List (Nat×Value)) (d:Nat) (g:Option (Nat×Bool)) (x y:Operand):Option (Value×Value):=match gB n ops L d g with
 |true=>match ev L x,ev L y with
  |some u,some v=>some (u,v)
  |_,_=>none
 |false=>none
def pF (n:Nat) (ops:Array Oper) (L:List (Nat×Value)) (d:Nat) (g:Option (Nat×Bool)) (c x y:Operand):Option Value:=match gB n ops L d g with
 |true=>match ev L c with
  |some (.bool true)=>ev L x
  |some (.bool false)=>ev L y
  |_=>none
 |false=>none
def xF (n:Nat) (ops:Array Oper) (L:List (Nat×Value)) (d:Nat) (g:Option (Nat×Bool)) (x:Operand) (i:Nat):Option Value:=match vF n ops L d g x with
 |some (.tuple vs)=>vs.toList[i]?
 |_=>none
def uF (n:Nat) (ops:Array Oper) (L:List (Nat×Value)) (d:Nat) (g:Option (Nat×Bool)) (xs ys:List Operand):Option (List Value×List Value):=match gB n ops L d g with
 |true=>match evs L xs,evs L ys with
  |some u,some v=>some (u,v)
  |_,_=>none
 |false=>none
def cF (n:Nat) (ops:Array Oper) (L:List (Nat×Value)) (d:Nat) (g:Option (Nat×Bool)) (fop:Operand) (xs:List Operand):Option (FuncId×List Value):=match gB n ops L d g with
 |true=>match ev L fop,evs L xs with
  |some (.func (.func f) fi ca),some vs=>some (f,fi.toList++vs++ca.toList)
  |_,_=>none
 |false=>none
theorem i_ {n:Nat} {ops:Array Oper} {L:List (Nat×Value)} {d:Nat} {g:Option (Nat×Bool)} {x:Operand} {v:Value} (h:vF n ops L d g x=some v):ju ops L g=true∧Nat.blt d n=true∧ev L x=some v:=by
 unfold vF at h
 split at h
 ·rename_i hb; exact ⟨O6 hb,OV hb,h⟩
 ·cases h
theorem qA {n:Nat} {ops:Array Oper} {L:List (Nat×Value)} {d:Nat} {g:Option (Nat×Bool)} {x y:Operand} {u v:Value} (h:bF n ops L d g x y=some (u,v)):ju ops L g=true∧Nat.blt d n=true∧ev L x=some u∧ev L y=some v:=by
 unfold bF at h
 split at h
 ·rename_i hb
  split at h
  ·rename_i hx hy; cases h; exact ⟨O6 hb,OV hb,hx,hy⟩
  ·cases h
 ·cases h
theorem QD {n:Nat} {ops:Array Oper} {L:List (Nat×Value)} {d:Nat} {g:Option (Nat×Bool)} {x y:List Operand} {u v:List Value} (h:uF n ops L d g x y=some (u,v)):ju ops L g=true∧Nat.blt d n=true∧evs L x=some u∧evs L y=some v:=by
 unfold uF at h
 split at h
 ·rename_i hb
  split at h
  ·rename_i hx hy; cases h; exact ⟨O6 hb,OV hb,hx,hy⟩
  ·cases h
 ·cases h
section
variable {E:ff} {ops:Array Oper} {Q:cZ} {rest:List Oper} {D:List Deferred} {L:List (Nat×Value)} {C:List av}
variable {d:Nat} {ty:TypeId} {ps:String} {af:Array Edge} {g:Option (Nat×Bool)}
theorem SX {o:Oper} {v:Value} (h:SD E ops o D L C v) (ho:o.dst=some d) (hd:Nat.blt d E.n=true):SE E ops o D L C v d:=⟨h,ho,hd⟩
theorem MV {x:Operand} {v:Value} (h:vF E.n ops L d g x=some v):SE E ops ⟨some d,.move x,ty,ps,af,g⟩ D L C v d:=by
 obtain ⟨A,B,F⟩:=i_ h; exact ⟨FD A F,rfl,B⟩
theorem AG {x:Operand} {v:Value} (h:vF E.n ops L d g x=some v):SE E ops ⟨some d,.assign x,ty,ps,af,g⟩ D L C v d:=by
 obtain ⟨A,B,F⟩:=i_ h; exact ⟨zA A F,rfl,B⟩
theorem OX {op:Op} (h:(Dc ops L g&&Nat.blt d E.n)=true):SE E ops ⟨some d,op,ty,ps,af,g⟩ D L C undef d:=by
 rw [cR] at h; exact ⟨Kq h.1,rfl,h.2⟩
theorem NT {xt:TypeId} {x:Operand} {b:Bool} (h:vF E.n ops L d g x=some (.bool b)):SE E ops ⟨some d,.unOp .not xt x,ty,ps,af,g⟩ D L C (.bool !b) d:=by
 obtain ⟨A,B,F⟩:=i_ h; exact ⟨Ju A F,rfl,B⟩
theorem NG {xt:TypeId} {x:Operand} {n:Int} (h:vF E.n ops L d g x=some (.int .i64 n)) (hb:qi (-n)):SE E ops ⟨some d,.unOp .neg xt x,ty,ps,af,g⟩ D L C (.int .i64 (-n)) d:=by
 obtain ⟨A,B,F⟩:=i_ h; exact ⟨Qx A F hb,rfl,B⟩
theorem PK {c x y:Operand} {v:Value} (h:pF E.n ops L d g c x y=some v):SE E ops ⟨some d,.pick c x y,ty,ps,af,g⟩ D L C v d:=by
 unfold pF at h
 split at h
 ·rename_i hb
  split at h
  ·rename_i hc; exact ⟨yK (O6 hb) hc h,rfl,OV hb⟩
  ·rename_i hc; exact ⟨yw (O6 hb) hc h,rfl,OV hb⟩
  ·cases h
 ·cases h
theorem EX {x:Operand} {i:Nat} {v:Value} (h:xF E.n ops L d g x i=some v):SE E ops ⟨some d,.extract x i,ty,ps,af,g⟩ D L C v d:=by
 unfold xF at h
 split at h
 ·rename_i vs hv
  obtain ⟨A,B,F⟩:=i_ hv
  exact ⟨xp (vs:=vs.toList) A (by simpa using F) h,U,B⟩
 ·cases h
theorem LN {x:Operand} {t e:TypeId} {A:OA} {n c:Nat} (h:vF E.n ops L d g x=some (.slice A n c)) (ht:E.P.underlying t=some (.slice e)):
 SE E ops ⟨some d,.call {callee:= .builtin .len,args:= #[x],argTypes:= #[t]},ty,ps,af,g⟩ D L C (.int .i64 n) d:=by
 obtain ⟨B,F,G⟩:=i_ h; exact ⟨Is B G ht,rfl,F⟩
theorem BI {op:BinOp} {xt yt:TypeId} {x y:Operand} {u v r:Value} (h:bF E.n ops L d g x y=some (u,v)) (hb:g6 E.P op xt x y u v r):SE E ops ⟨some d,.binOp op xt x y yt,ty,ps,af,g⟩ D L C r d:=by
 obtain ⟨A,B,F,G⟩:=qA h; exact ⟨b_ A F G hb,rfl,B⟩
theorem MN {x y:Operand} {ts:Array TypeId} {a b:Int} {k:IntKind} (h:bF E.n ops L d g x y=some (.int k a,.int k b)):
 SE E ops ⟨some d,.call {callee:= .builtin .min,args:= #[x,y],argTypes:=ts},ty,ps,af,g⟩ D L C (.int k (min a b)) d:=by
 obtain ⟨A,B,F,G⟩:=qA h; exact ⟨PX A F G,rfl,B⟩
theorem MX {x y:Operand} {ts:Array TypeId} {a b:Int} {k:IntKind} (h:bF E.n ops L d g x y=some (.int k a,.int k b)):
 SE E ops ⟨some d,.call {callee:= .builtin .max,args:= #[x,y],argTypes:=ts},ty,ps,af,g⟩ D L C (.int k (max a b)) d:=by
 obtain ⟨A,B,F,G⟩:=qA h; exact ⟨PM A F G,rfl,B⟩
theorem FA (o':Nat) {x:Operand} {b o s f k:Nat} (h:vF E.n ops L d g x=some (.pointer (some ⟨b,o,none⟩))) (hf:sx E.P s f=some k) (ho:o+k=o'):
 SE E ops ⟨some d,.fieldAddr s x f,ty,ps,af,g⟩ D L C (.pointer (some ⟨b,o',none⟩)) d:=by
 obtain ⟨A,B,F⟩:=i_ h; exact ⟨OK A F hf ho,rfl,B⟩
theorem nK (k':Nat) {x:Operand} {A:OA} {n sz:Nat} {es:List (List Value)} {k0 s f k:Nat} (h:vF E.n ops L d g x=some (.pointer (lG A k0))) (hR:jc C (rd A n sz es).holds) (hn:0<n*sz)
 (hf:sx E.P s f=some k) (ho:k0+k=k'):SE E ops ⟨some d,.fieldAddr s x f,ty,ps,af,g⟩ D L C (.pointer (lG A k')) d:=by
 obtain ⟨B,F,G⟩:=i_ h; exact ⟨Km B G hR hn hf ho,rfl,F⟩
theorem TF (k':Nat) {x:Operand} {A:OA} {ad:Addr} {k0 s f k:Nat} (h:vF E.n ops L d g x=some (.pointer (lG A k0))) (hA:A=some ad)
 (hf:sx E.P s f=some k) (ho:k0+k=k'):SE E ops ⟨some d,.fieldAddr s x f,ty,ps,af,g⟩ D L C (.pointer (lG A k')) d:=by
 obtain ⟨B,F,G⟩:=i_ h; exact ⟨Kt B G hA hf ho,rfl,F⟩
theorem IA (k:Nat) {x ix:Operand} {A:OA} {n c sz e t:Nat} {es:List (List Value)} {j:Int} (h:bF E.n ops L d g x ix=some (.slice A n c,.int .i64 j)) (hR:jc C (rd A n sz es).holds)
 (ht:tE E.P t=some (e,sz)) (hz:0<sz) (hj:j=(k:Int)) (hk:k<n):SE E ops ⟨some d,.indexAddr t x ix,ty,ps,af,g⟩ D L C (.pointer (lG A (k*sz))) d:=by
 obtain ⟨B,F,G,H⟩:=qA h; exact ⟨S_ B G H hR ht hz hj hk,rfl,F⟩
theorem Tw (k o':Nat) {x ix:Operand} {b o n c sz e t:Nat} {j:Int} (h:bF E.n ops L d g x ix=some (.slice (some ⟨b,o,none⟩) n c,.int .i64 j))
 (ht:tE E.P t=some (e,sz)) (hj:j=(k:Int)) (hk:k<n) (ho:o+k*sz=o'):SE E ops ⟨some d,.indexAddr t x ix,ty,ps,af,g⟩ D L C (.pointer (some ⟨b,o',none⟩)) d:=by
 obtain ⟨A,B,F,G⟩:=qA h; exact ⟨M1 A F G ht hj hk ho,rfl,B⟩
/-- the whole of a block, a part of it, one cell -/
theorem LW (i:Nat) {x:Operand} {b t tt n:Nat} {cs:List Value} (h:vF E.n ops L d g x=some (.pointer (some ⟨b,0,none⟩))) (ht:tK E.P t=some (true,n)) (hC:C[i]? =some (bZ b tt cs)) (hn:cs.length=n):
 SE E ops ⟨some d,.load t x,ty,ps,af,g⟩ D L C (.agg cs.toArray) d:=by
 obtain ⟨A,B,F⟩:=i_ h; exact ⟨xX A F ht (pH i hC sm) hn,rfl,B⟩
theorem LP (vs:List Value) (i:Nat) {x:Operand} {b o t tt n:Nat} {cs:List Value} (h:vF E.n ops L d g x=some (.pointer (some ⟨b,o,none⟩))) (ht:tK E.P t=some (true,n)) (hC:C[i]? =some (bZ b tt cs)) (hv:(cs.drop o).take vs.length=vs) (hn:vs.length=n):
 SE E ops ⟨some d,.load t x,ty,ps,af,g⟩ D L C (.agg vs.toArray) d:=by
 obtain ⟨A,B,F⟩:=i_ h; exact ⟨xX A F ht (pH i hC hv) hn,rfl,B⟩
theorem Vf (vs:List Value) (i:Nat) {x:Operand} {b o t tt n:Nat} {cs:List Value} (h:vF E.n ops L d g x=some (.pointer (some ⟨b,o,none⟩))) (ht:tK E.P t=some (true,n)) (hC:C[i]? =some (bZ b tt cs).ro) (hv:(cs.drop o).take vs.length=vs) (hn:vs.length=n):
 SE E ops ⟨some d,.load t x,ty,ps,af,g⟩ D L C (.agg vs.toArray) d:=by
 obtain ⟨A,B,F⟩:=i_ h; exact ⟨xX A F ht (vR i hC hv) hn,rfl,B⟩
theorem L1 (v:Value) (i:Nat) {x:Operand} {b o t tt n:Nat} {cs:List Value} (h:vF E.n ops L d g x=some (.pointer (some ⟨b,o,none⟩))) (ht:tK E.P t=some (false,n)) (hC:C[i]? =some (bZ b tt cs)) (hv:(cs.drop o).take 1=[v]):
 SE E ops ⟨some d,.load t x,ty,ps,af,g⟩ D L C v d:=by
 obtain ⟨A,B,F⟩:=i_ h; exact ⟨uj A F ht (pH i hC hv),rfl,B⟩
theorem H0 (v:Value) (i:Nat) {x:Operand} {b o t tt n:Nat} {cs:List Value} (h:vF E.n ops L d g x=some (.pointer (some ⟨b,o,none⟩))) (ht:tK E.P t=some (false,n)) (hC:C[i]? =some (bZ b tt cs).ro) (hv:(cs.drop o).take 1=[v]):
 SE E ops ⟨some d,.load t x,ty,ps,af,g⟩ D L C v d:=by
 obtain ⟨A,B,F⟩:=i_ h; exact ⟨uj A F ht (vR i hC hv),rfl,B⟩
theorem Dl (i:Nat) {x:Operand} {b t tt n:Nat} {v:Value} (h:vF E.n ops L d g x=some (.pointer (some ⟨b,0,none⟩))) (ht:tK E.P t=some (false,n)) (hC:C[i]? =some (bZ b tt [v])):
 SE E ops ⟨some d,.load t x,ty,ps,af,g⟩ D L C v d:=by
 obtain ⟨A,B,F⟩:=i_ h; exact ⟨uj A F ht (pH i hC rfl),rfl,B⟩
theorem Ts (i:Nat) {x:Operand} {b t tt n:Nat} {v:Value} (h:vF E.n ops L d g x=some (.pointer (some ⟨b,0,none⟩))) (ht:tK E.P t=some (false,n)) (hC:C[i]? =some (bZ b tt [v]).ro):
 SE E ops ⟨some d,.load t x,ty,ps,af,g⟩ D L C v d:=by
 obtain ⟨A,B,F⟩:=i_ h; exact ⟨uj A F ht (vR i hC rfl),rfl,B⟩
/-- what is read of a row -/
theorem gF (k o:Nat) (v:Value) {x:Operand} {A:OA} {t m n sz:Nat} {es:List (List Value)} {e:List Value} (h:vF E.n ops L d g x=some (.pointer (lG A m))) {nn:Nat} (ht:tK E.P t=some (false,nn)) (hR:jc C (rd A n sz es).holds) (he:es[k]? =some e) (hm:m=k*sz+o) (hz:0<sz) (hv:(e.drop o).take 1=[v]):
 SE E ops ⟨some d,.load t x,ty,ps,af,g⟩ D L C v d:=by
 obtain ⟨B,F,G⟩:=i_ h; exact ⟨uj B G ht (OU hR he hm hz hv),rfl,F⟩
theorem oB (k o:Nat) (vs:List Value) {x:Operand} {A:OA} {t m n sz:Nat} {es:List (List Value)} {e:List Value} (h:vF E.n ops L d g x=some (.pointer (lG A m))) {nn:Nat} (ht:tK E.P t=some (true,nn)) (hR:jc C (rd A n sz es).holds) (he:es[k]? =some e) (hm:m=k*sz+o) (hz:0<sz) (hv:(e.drop o).take vs.length=vs) (hn:vs.length=nn):
 SE E ops ⟨some d,.load t x,ty,ps,af,g⟩ D L C (.agg vs.toArray) d:=by
 obtain ⟨B,F,G⟩:=i_ h; exact ⟨xX B G ht (OU hR he hm hz hv) hn,rfl,F⟩
theorem CL {fop:Operand} {xs:Array Operand} {ts:Array TypeId} {f:FuncId} {args:List Value} {Cp:List av} {v:Value} (c:ej E.P f args Cp v) (hC:kh C Cp) (h:cF E.n ops L d g fop xs.toList=some (f,args)):
 SE E ops ⟨some d,.call {callee:= .value fop,args:=xs,argTypes:=ts},ty,ps,af,g⟩ D L C v d:=by
 unfold cF at h
 split at h
 ·rename_i hb
  split at h
  ·rename_i hf hx; cases h; exact ⟨Fk (O6 hb) hf hx rfl c hC,rfl,OV hb⟩
  ·cases h
 ·cases h
theorem FU {fn:Fn} {xs ys:Array Operand} {us vs:List Value} (h:uF E.n ops L d g xs.toList ys.toList=some (us,vs)):SE E ops ⟨some d,.makeFunc fn xs ys,ty,ps,af,g⟩ D L C (.func fn us.toArray vs.toArray) d:=by
 obtain ⟨A,B,F,G⟩:=QD h; exact ⟨Mo A F G,rfl,B⟩
theorem cX {fop:Operand} {xs:Array Operand} {ts:Array TypeId} {f:FuncId} {args:List Value} {Cp:List av} {α:Type} {V:α→Value} {p:α→Prop} {N:α→List av} (c:lv E.P f args Cp V p N) (hC:kh C Cp)
 (h:cF E.n ops L d g fop xs.toList=some (f,args)) (k: ∀ x,p x→RJ E ops Q rest D ((d,V x)::L) (N x++C)):
 RJ E ops Q (⟨some d,.call {callee:= .value fop,args:=xs,argTypes:=ts},ty,ps,af,g⟩::rest) D L C:=by
 unfold cF at h
 split at h
 ·rename_i hb
  split at h
  ·rename_i hf hx; cases h; exact Qm (O6 hb) hf hx rfl c hC (OV hb) k
  ·cases h
 ·cases h
/-- a box of a struct, of one cell -/
theorem fV {t:TypeId} {x:Operand} {cs:List Value} (h:vF E.n ops L d g x=some (.agg cs.toArray)) (k: ∀ b,RJ E ops Q rest D ((d,.pointer (some ⟨b,0,none⟩))::L) (bZ b t cs::C)):
 RJ E ops Q (⟨some d,.box t x,ty,ps,af,g⟩::rest) D L C:=by
 obtain ⟨A,B,F⟩:=i_ h; exact OB A F rfl B k
theorem uy {t:TypeId} {x:Operand} {v:Value} (h:vF E.n ops L d g x=some v) (hv:v.cells.toList=[v]) (k: ∀ b,RJ E ops Q rest D ((d,.pointer (some ⟨b,0,none⟩))::L) (bZ b t [v]::C)):
 RJ E ops Q (⟨some d,.box t x,ty,ps,af,g⟩::rest) D L C:=by
 obtain ⟨A,B,F⟩:=i_ h; exact OB A F hv B k
theorem AL {t:TypeId} {cs:List Value} (h:gB E.n ops L d g=true) (hz:tZ E.P t=some cs) (k: ∀ b,RJ E ops Q rest D ((d,.pointer (some ⟨b,0,none⟩))::L) (bZ b t cs::C)):
 RJ E ops Q (⟨some d,.alloc t,ty,ps,af,g⟩::rest) D L C:=N9 (O6 h) hz (OV h) k
/-- a store into the block at the place i of the state -/
def sF (ops:Array Oper) (L:List (Nat×Value)) (g:Option (Nat×Bool)) (x y:Operand):Option (Value×Value):=match ju ops L g with
 |true=>match ev L x,ev L y with
  |some u,some v=>some (u,v)
  |_,_=>none
 |false=>none
theorem DM {ops:Array Oper} {L:List (Nat×Value)} {g:Option (Nat×Bool)} {x y:Operand} {u v:Value} (h:sF ops L g x y=some (u,v)):ju ops L g=true∧ev L x=some u∧ev L y=some v:=by
 unfold sF at h
 split at h
 ·rename_i hb
  split at h
  ·rename_i hx hy; cases h; exact ⟨hb,hx,hy⟩
  ·cases h
 ·cases h
theorem Sm {t n b o tt:Nat} {x y:Operand} {v:Value} {cs cs':List Value} {C':List av} (i:Nat) (h:sF ops L g x y=some (.pointer (some ⟨b,o,none⟩),v)) (ht:(tK E.P t).map (·.2)=some n) (hC:C[i]? =some (bZ b tt cs))
 (hk:(v.cells.toList.length==n&&v.cells.toList.all Value.oneCell'&&Nat.ble (o+n) cs.length)=true) (hcs:cs.take o++v.cells.toList++cs.drop (o+n)=cs') (hC':C.set i (bZ b tt cs')=C') (k:RJ E ops Q rest D L C'):
 RJ E ops Q (⟨none,.store t x y,ty,ps,af,g⟩::rest) D L C:=by
 obtain ⟨A,B,F⟩:=DM h
 simp only [cR,beq_iff_eq] at hk
 exact jh i A B F ht U hk.1.1 hk.1.2 hC hk.2 hcs hC' k
/-- a store of a whole block, by a struct, by one cell -/
theorem NK {t n b tt:Nat} {x y:Operand} {cs cs':List Value} {C':List av} (i:Nat) (h:sF ops L g x y=some (.pointer (some ⟨b,0,none⟩),.agg cs'.toArray)) (ht:(tK E.P t).map (·.2)=some n) (hC:C[i]? =some (bZ b tt cs))
 (hk:(Nat.beq cs'.length n&&cs'.all Value.oneCell'&&Nat.beq n cs.length)=true) (hC':C.set i (bZ b tt cs')=C') (k:RJ E ops Q rest D L C'):
 RJ E ops Q (⟨none,.store t x y,ty,ps,af,g⟩::rest) D L C:=by
 obtain ⟨AA,J,K⟩:=DM h
 simp only [cR] at hk
 obtain ⟨⟨A,B⟩,F⟩:=hk
 have H:=Nat.eq_of_beq_eq_true A
 have G:=Nat.eq_of_beq_eq_true F
 exact jh i AA J K ht U H B hC (by rw [Nat.zero_add,G]; exact Nat.ble_self_eq_true _) (by rw [Nat.zero_add,G,List.take_zero,List.drop_length]; show []++cs'++[]=cs'; simp) hC' k
theorem U7 {t n b tt:Nat} {x y:Operand} {v u:Value} {C':List av} (i:Nat) (h:sF ops L g x y=some (.pointer (some ⟨b,0,none⟩),v)) (ht:(tK E.P t).map (·.2)=some n) (hC:C[i]? =some (bZ b tt [u]))
 (hv:v.cells.toList=[v]) (hk:(Nat.beq n 1&&v.oneCell')=true) (hC':C.set i (bZ b tt [v])=C') (k:RJ E ops Q rest D L C'):
 RJ E ops Q (⟨none,.store t x y,ty,ps,af,g⟩::rest) D L C:=by
 obtain ⟨G,H,AA⟩:=DM h
 rw [cR] at hk
 obtain ⟨A,B⟩:=hk
 have F:=Nat.eq_of_beq_eq_true A
 subst F
 exact jh i G H AA ht hv U (by simp [B]) hC U U hC' k
theorem fR {t n b tt:Nat} {x y:Operand} {cs cs':List Value} (h:sF ops L g x y=some (.pointer (some ⟨b,0,none⟩),.agg cs'.toArray)) (ht:(tK E.P t).map (·.2)=some n) (hk:(Nat.beq cs'.length n&&cs'.all Value.oneCell'&&Nat.beq n cs.length)=true) (k:RJ E ops Q rest D L (bZ b tt cs'::C)):RJ E ops Q (⟨none,.store t x y,ty,ps,af,g⟩::rest) D L (bZ b tt cs::C):=NK 0 h ht rfl hk rfl k
theorem Hz {t n b tt:Nat} {x y:Operand} {v u:Value} (h:sF ops L g x y=some (.pointer (some ⟨b,0,none⟩),v)) (ht:(tK E.P t).map (·.2)=some n) (hv:v.cells.toList=[v]) (hk:(Nat.beq n 1&&v.oneCell')=true) (k:RJ E ops Q rest D L (bZ b tt [v]::C)):RJ E ops Q (⟨none,.store t x y,ty,ps,af,g⟩::rest) D L (bZ b tt [u]::C):=U7 0 h ht rfl hv hk rfl k
theorem tP {t n b tt:Nat} {x y:Operand} {cs cs':List Value} {A0:av} (h:sF ops L g x y=some (.pointer (some ⟨b,0,none⟩),.agg cs'.toArray)) (ht:(tK E.P t).map (·.2)=some n) (hk:(Nat.beq cs'.length n&&cs'.all Value.oneCell'&&Nat.beq n cs.length)=true) (k:RJ E ops Q rest D L (A0::bZ b tt cs'::C)):RJ E ops Q (⟨none,.store t x y,ty,ps,af,g⟩::rest) D L (A0::bZ b tt cs::C):=NK 1 h ht rfl hk rfl k
theorem Ht {t n b tt:Nat} {x y:Operand} {cs cs':List Value} {A0 A1:av} (h:sF ops L g x y=some (.pointer (some ⟨b,0,none⟩),.agg cs'.toArray)) (ht:(tK E.P t).map (·.2)=some n) (hk:(Nat.beq cs'.length n&&cs'.all Value.oneCell'&&Nat.beq n cs.length)=true) (k:RJ E ops Q rest D L (A0::A1::bZ b tt cs'::C)):RJ E ops Q (⟨none,.store t x y,ty,ps,af,g⟩::rest) D L (A0::A1::bZ b tt cs::C):=NK 2 h ht rfl hk rfl k
theorem Vn (cs':List Value) {t n b o tt:Nat} {x y:Operand} {v:Value} {cs:List Value} {A0 A1:av} (h:sF ops L g x y=some (.pointer (some ⟨b,o,none⟩),v)) (ht:(tK E.P t).map (·.2)=some n) (hk:(v.cells.toList.length==n&&v.cells.toList.all Value.oneCell'&&Nat.ble (o+n) cs.length)=true) (hcs:cs.take o++v.cells.toList++cs.drop (o+n)=cs') (k:RJ E ops Q rest D L (A0::A1::bZ b tt cs'::C)):RJ E ops Q (⟨none,.store t x y,ty,ps,af,g⟩::rest) D L (A0::A1::bZ b tt cs::C):=Sm 2 h ht rfl hk hcs rfl k
theorem Tv {t n b tt:Nat} {x y:Operand} {cs cs':List Value} {A0 A1 A2:av} (h:sF ops L g x y=some (.pointer (some ⟨b,0,none⟩),.agg cs'.toArray)) (ht:(tK E.P t).map (·.2)=some n) (hk:(Nat.beq cs'.length n&&cs'.all Value.oneCell'&&Nat.beq n cs.length)=true) (k:RJ E ops Q rest D L (A0::A1::A2::bZ b tt cs'::C)):RJ E ops Q (⟨none,.store t x y,ty,ps,af,g⟩::rest) D L (A0::A1::A2::bZ b tt cs::C):=NK 3 h ht rfl hk rfl k
theorem UI {t n b tt:Nat} {x y:Operand} {v u:Value} {A0 A1 A2:av} (h:sF ops L g x y=some (.pointer (some ⟨b,0,none⟩),v)) (ht:(tK E.P t).map (·.2)=some n) (hv:v.cells.toList=[v]) (hk:(Nat.beq n 1&&v.oneCell')=true) (k:RJ E ops Q rest D L (A0::A1::A2::bZ b tt [v]::C)):RJ E ops Q (⟨none,.store t x y,ty,ps,af,g⟩::rest) D L (A0::A1::A2::bZ b tt [u]::C):=U7 3 h ht rfl hv hk rfl k
theorem RQ (cs':List Value) {t n b o tt:Nat} {x y:Operand} {v:Value} {cs:List Value} {A0 A1 A2:av} (h:sF ops L g x y=some (.pointer (some ⟨b,o,none⟩),v)) (ht:(tK E.P t).map (·.2)=some n) (hk:(v.cells.toList.length==n&&v.cells.toList.all Value.oneCell'&&Nat.ble (o+n) cs.length)=true) (hcs:cs.take o++v.cells.toList++cs.drop (o+n)=cs') (k:RJ E ops Q rest D L (A0::A1::A2::bZ b tt cs'::C)):RJ E ops Q (⟨none,.store t x y,ty,ps,af,g⟩::rest) D L (A0::A1::A2::bZ b tt cs::C):=Sm 3 h ht rfl hk hcs rfl k
theorem OW {t n b tt:Nat} {x y:Operand} {cs cs':List Value} {A0 A1 A2 A3:av} (h:sF ops L g x y=some (.pointer (some ⟨b,0,none⟩),.agg cs'.toArray)) (ht:(tK E.P t).map (·.2)=some n) (hk:(Nat.beq cs'.length n&&cs'.all Value.oneCell'&&Nat.beq n cs.length)=true) (k:RJ E ops Q rest D L (A0::A1::A2::A3::bZ b tt cs'::C)):RJ E ops Q (⟨none,.store t x y,ty,ps,af,g⟩::rest) D L (A0::A1::A2::A3::bZ b tt cs::C):=NK 4 h ht rfl hk rfl k
theorem UF (cs':List Value) {t n b o tt:Nat} {x y:Operand} {v:Value} {cs:List Value} {A0 A1 A2 A3:av} (h:sF ops L g x y=some (.pointer (some ⟨b,o,none⟩),v)) (ht:(tK E.P t).map (·.2)=some n) (hk:(v.cells.toList.length==n&&v.cells.toList.all Value.oneCell'&&Nat.ble (o+n) cs.length)=true) (hcs:cs.take o++v.cells.toList++cs.drop (o+n)=cs') (k:RJ E ops Q rest D L (A0::A1::A2::A3::bZ b tt cs'::C)):RJ E ops Q (⟨none,.store t x y,ty,ps,af,g⟩::rest) D L (A0::A1::A2::A3::bZ b tt cs::C):=Sm 4 h ht rfl hk hcs rfl k
theorem HZ {t n b tt:Nat} {x y:Operand} {cs cs':List Value} {A0 A1 A2 A3 A4:av} (h:sF ops L g x y=some (.pointer (some ⟨b,0,none⟩),.agg cs'.toArray)) (ht:(tK E.P t).map (·.2)=some n) (hk:(Nat.beq cs'.length n&&cs'.all Value.oneCell'&&Nat.beq n cs.length)=true) (k:RJ E ops Q rest D L (A0::A1::A2::A3::A4::bZ b tt cs'::C)):RJ E ops Q (⟨none,.store t x y,ty,ps,af,g⟩::rest) D L (A0::A1::A2::A3::A4::bZ b tt cs::C):=NK 5 h ht rfl hk rfl k
theorem OM {t n b tt:Nat} {x y:Operand} {cs cs':List Value} {A0 A1 A2 A3 A4 A5:av} (h:sF ops L g x y=some (.pointer (some ⟨b,0,none⟩),.agg cs'.toArray)) (ht:(tK E.P t).map (·.2)=some n) (hk:(Nat.beq cs'.length n&&cs'.all Value.oneCell'&&Nat.beq n cs.length)=true) (k:RJ E ops Q rest D L (A0::A1::A2::A3::A4::A5::bZ b tt cs'::C)):RJ E ops Q (⟨none,.store t x y,ty,ps,af,g⟩::rest) D L (A0::A1::A2::A3::A4::A5::bZ b tt cs::C):=NK 6 h ht rfl hk rfl k
theorem Vk {t n b tt:Nat} {x y:Operand} {v u:Value} {A0 A1 A2 A3 A4 A5:av} (h:sF ops L g x y=some (.pointer (some ⟨b,0,none⟩),v)) (ht:(tK E.P t).map (·.2)=some n) (hv:v.cells.toList=[v]) (hk:(Nat.beq n 1&&v.oneCell')=true) (k:RJ E ops Q rest D L (A0::A1::A2::A3::A4::A5::bZ b tt [v]::C)):RJ E ops Q (⟨none,.store t x y,ty,ps,af,g⟩::rest) D L (A0::A1::A2::A3::A4::A5::bZ b tt [u]::C):=U7 6 h ht rfl hv hk rfl k
theorem Uo (cs':List Value) {t n b o tt:Nat} {x y:Operand} {v:Value} {cs:List Value} {A0 A1 A2 A3 A4 A5:av} (h:sF ops L g x y=some (.pointer (some ⟨b,o,none⟩),v)) (ht:(tK E.P t).map (·.2)=some n) (hk:(v.cells.toList.length==n&&v.cells.toList.all Value.oneCell'&&Nat.ble (o+n) cs.length)=true) (hcs:cs.take o++v.cells.toList++cs.drop (o+n)=cs') (k:RJ E ops Q rest D L (A0::A1::A2::A3::A4::A5::bZ b tt cs'::C)):RJ E ops Q (⟨none,.store t x y,ty,ps,af,g⟩::rest) D L (A0::A1::A2::A3::A4::A5::bZ b tt cs::C):=Sm 6 h ht rfl hk hcs rfl k
theorem Vq {t n b tt:Nat} {x y:Operand} {cs cs':List Value} {A0 A1 A2 A3 A4 A5 A6 A7:av} (h:sF ops L g x y=some (.pointer (some ⟨b,0,none⟩),.agg cs'.toArray)) (ht:(tK E.P t).map (·.2)=some n) (hk:(Nat.beq cs'.length n&&cs'.all Value.oneCell'&&Nat.beq n cs.length)=true) (k:RJ E ops Q rest D L (A0::A1::A2::A3::A4::A5::A6::A7::bZ b tt cs'::C)):RJ E ops Q (⟨none,.store t x y,ty,ps,af,g⟩::rest) D L (A0::A1::A2::A3::A4::A5::A6::A7::bZ b tt cs::C):=NK 8 h ht rfl hk rfl k
theorem U8 (cs':List Value) {t n b o tt:Nat} {x y:Operand} {v:Value} {cs:List Value} {A0 A1 A2 A3 A4 A5 A6 A7 A8 A9:av} (h:sF ops L g x y=some (.pointer (some ⟨b,o,none⟩),v)) (ht:(tK E.P t).map (·.2)=some n) (hk:(v.cells.toList.length==n&&v.cells.toList.all Value.oneCell'&&Nat.ble (o+n) cs.length)=true) (hcs:cs.take o++v.cells.toList++cs.drop (o+n)=cs') (k:RJ E ops Q rest D L (A0::A1::A2::A3::A4::A5::A6::A7::A8::A9::bZ b tt cs'::C)):RJ E ops Q (⟨none,.store t x y,ty,ps,af,g⟩::rest) D L (A0::A1::A2::A3::A4::A5::A6::A7::A8::A9::bZ b tt cs::C):=Sm 10 h ht rfl hk hcs rfl k
theorem Uk {t n b tt:Nat} {x y:Operand} {cs cs':List Value} {A0 A1 A2 A3 A4 A5 A6 A7 A8 A9 A10:av} (h:sF ops L g x y=some (.pointer (some ⟨b,0,none⟩),.agg cs'.toArray)) (ht:(tK E.P t).map (·.2)=some n) (hk:(Nat.beq cs'.length n&&cs'.all Value.oneCell'&&Nat.beq n cs.length)=true) (k:RJ E ops Q rest D L (A0::A1::A2::A3::A4::A5::A6::A7::A8::A9::A10::bZ b tt cs'::C)):RJ E ops Q (⟨none,.store t x y,ty,ps,af,g⟩::rest) D L (A0::A1::A2::A3::A4::A5::A6::A7::A8::A9::A10::bZ b tt cs::C):=NK 11 h ht rfl hk rfl k
end
section
variable {E:ff} {y:Code} {Q:cZ} {D:List Deferred} {L:List (Nat×Value)} {C:List av}
theorem WS {id:Nat} {ops:Array Oper} (h: ∀ K:Act→World→Prop,(∀ D L C,WJ E y Q D L C→KJ E K D L C)→RJ E ops (Exit.then K Q) ops.toList D L C):WJ E (.seq (.region id ops false) y) Q D L C:=al fun K hK=>an (h K hK)
theorem RK {ops:Array Oper} {K:Act→World→Prop} {Q':cZ} (hK: ∀ D L C,WJ E y Q D L C→KJ E K D L C) (k:WJ E y Q D L C):RJ E ops (Exit.then K Q') [] D L C:=aH (aT (hK _ _ _ k))
theorem KK {K:Act→World→Prop} {Q':cZ} (hK: ∀ D L C,WJ E y Q D L C→KJ E K D L C) (k:WJ E y Q D L C):KJ E (Exit.then K Q' .normal) D L C:=aT (hK _ _ _ k)
theorem WK {K:Act→World→Prop} {Q':cZ} (hK: ∀ D L C,WJ E y Q D L C→KJ E K D L C) (k:WJ E y Q D L C):WJ E .skip (Exit.then K Q') D L C:=bY (aT (hK _ _ _ k))
end
theorem DT {p:Prop} [Decidable p] (h:decide p=true):p:=of_decide_eq_true h
theorem DF {p:Prop} [Decidable p] (h:decide p=false): ¬ p:=of_decide_eq_false h
theorem XT {p:Prop} [Decidable p] (h:(!decide p)=true): ¬ p:=by simpa using h
theorem XF {p:Prop} [Decidable p] (h:(!decide p)=false):p:=by simpa using h
/-- what a function hands back: one result, two, three, that lie in slots -/
theorem Q1 {E:ff} {fn:Func} {K:Act→World→Prop} {L:List (Nat×Value)} {C:List av} {t:Nat} {u v:Value} (hQ: ∀ D L C,LJ E fn (Bq E.w0 v) D L C→KJ E K D L C) (hS:E.S=td) (hr:fn.results.toList=[.tmp t]) (hl:L.lookup t=some u) (e:u=v):KJ E K [] L C:=
 hQ _ _ _ (gW (vs:=[u]) (by rw [hr]; exact ⟨hl,trivial⟩) fun w hs=>Du e (by rw [hS] at hs; exact hs))
theorem Q2 {E:ff} {fn:Func} {K:Act→World→Prop} {L:List (Nat×Value)} {C:List av} {t s:Nat} {u x v:Value} (hQ: ∀ D L C,LJ E fn (Bq E.w0 v) D L C→KJ E K D L C) (hS:E.S=td) (hr:fn.results.toList=[.tmp t,.tmp s]) (hl:L.lookup t=some u) (hm:L.lookup s=some x) (e:vT [u,x]=v):KJ E K [] L C:=
 hQ _ _ _ (gW (vs:=[u,x]) (by rw [hr]; exact ⟨hl,hm,trivial⟩) fun w hs=>Du e (by rw [hS] at hs; exact hs))
theorem N1 {E:ff} {ops:Array Oper} {D:List Deferred} {C' C1:List av} {F:List (Nat×Value)→List av→Prop} {tb rem:List Nat} {n:Nat} {L:List (Nat×Value)} {C:List av} (i:Nat)
 (h:Cc E ops D C' C1 F tb n (rem.filter (· != i)) i L C) (hm:rem.filter (fun i=>rem.all fun j=> !ir (pV ops) j i)=[i]:=by kernel_rfl):TN E ops D C' C1 F tb (n+1) rem L C:=iT [i] hm (eN h kT)
theorem NO {E:ff} {ops:Array Oper} {D:List Deferred} {C' C1:List av} {F:List (Nat×Value)→List av→Prop} {tb rem:List Nat} {n i:Nat} {L:List (Nat×Value)} {C:List av} {o:Oper} (ho:ops[i]? =some o) (ht:tb.contains i=false) (rem':List Nat)
 (h: ∀ K:Act→World→Prop,(∀ L' C'',(∀ w,St E.S E.w0 C'' w→St E.S E.w0 C' w)→TN E ops D C' C1 F tb n rem' L' C''→KJ E K D L' C'')→RJ E ops (NQ K) [o] D L C) (hr:rem=rem':=by kernel_rfl):Cc E ops D C' C1 F tb n rem i L C:=Uw ho hr ht h
theorem RD {E:ff} {ops:Array Oper} {K:Act→World→Prop} {D:List Deferred} {L:List (Nat×Value)} {C C':List av} {X:List (Nat×Value)→List av→Prop} (hT: ∀ L' C'',(∀ w,St E.S E.w0 C'' w→St E.S E.w0 C' w)→X L' C''→KJ E K D L' C'')
 (k:Nat) (h2:C.drop k=C') (h:X L C):RJ E ops (NQ K) [] D L C:=aH (hT _ _ (fun w hs=>h2▸hs.take (List.drop_sublist k C)) h)
theorem aQ {L L':List (Nat×Value)} (h:L'.map (fun p=>L.lookup p.1)=L'.map (fun p=>some p.2)):dx L L':=by
 induction L' with
 |nil=>exact dx.nil _
 |cons p t ih=>
  simp only [List.map_cons,List.cons.injEq] at h
  exact dx.cons h.1 (ih h.2)
theorem Nb {C:List av} {A A' B B' D D':av} (i j k:Nat) (h1:C[i]? =some A') (e1:A'.holds=A.holds) (h2:C[j]? =some B') (e2:B'.holds=B.holds) (h3:C[k]? =some D') (e3:D'.holds=D.holds):kh C [A,B,D]:=fH i h1 e1 (fH j h2 e2 (fH k h3 e3 aL))
theorem bR {E:ff} {c:Operand} {x y:Code} {b:Bool} {Q:cZ} {D:List Deferred} {L:List (Nat×Value)} {C:List av} (hc:ev L c=some (.bool b)) (h2:b=false→WJ E y Q D L C) (h1:b=true→WJ E x Q D L C):WJ E (.cond c x y) Q D L C:=cM hc h1 h2
theorem cb {E:ff} {ops:Array Oper} {Q:cZ} {rest:List Oper} {D:List Deferred} {L:List (Nat×Value)} {C:List av} {t:Nat} {b:Bool} (h:L.lookup t=some (.bool b)) (h2:b=false→RJ E ops Q rest D ((t,.bool false)::L) C) (h1:b=true→RJ E ops Q rest D ((t,.bool true)::L) C):RJ E ops Q rest D L C:=db h h1 h2
theorem jk {E:ff} {ops:Array Oper} {Q:cZ} {rest:List Oper} {D:List Deferred} {L:List (Nat×Value)} {C:List av} {t:Nat} {b:Bool} {os:List Oper} (h:L.lookup t=some (.bool b)) (h2:b=false→DJ E ops D C (fun L2=>RJ E ops Q rest D L2 C) os ((t,.bool false)::L)) (h1:b=true→DJ E ops D C (fun L2=>RJ E ops Q rest D L2 C) os ((t,.bool true)::L)):DJ E ops D C (fun L2=>RJ E ops Q rest D L2 C) os L:=iS h h1 h2
theorem cN {L:List (Nat×Value)}: ∀ (k:Nat) {L2:List (Nat×Value)} (q:dx L (L2.drop k)) (h:(L2.take k).map (fun p=>L.lookup p.1)=(L2.take k).map (fun p=>some p.2):=by rfl),dx L L2
 |0,_,q,_=>q
 |_+1,[],_,_=>dx.nil _
 |k+1,p::L2,q,h=>by
  obtain ⟨A,B⟩:=List.cons.inj (show L.lookup p.1::(L2.take k).map (fun p=>L.lookup p.1)=some p.2::(L2.take k).map (fun p=>some p.2) from h)
  exact dx.cons (t:=p.1) (v:=p.2) A (cN k q B)
theorem oX {E:ff} {ops:Array Oper} {Q:cZ} {rest:List Oper} {D:List Deferred} {L:List (Nat×Value)} {C:List av} {d:Nat} {ty:TypeId} {ps:String} {af:Array Edge} {g:Option (Nat×Bool)} {op:Op} (k:RJ E ops Q rest D ((d,undef)::L) C) (h:(Dc ops L g&&Nat.blt d E.n)=true:=by rfl):RJ E ops Q (⟨some d,op,ty,ps,af,g⟩::rest) D L C:=rS (OX h) k
theorem dX {E:ff} {ops:Array Oper} {F:List (Nat×Value)→Prop} {rest:List Oper} {D:List Deferred} {L:List (Nat×Value)} {C:List av} {d:Nat} {ty:TypeId} {ps:String} {af:Array Edge} {g:Option (Nat×Bool)} {op:Op} (k:DJ E ops D C F rest ((d,undef)::L)) (h:(Dc ops L g&&Nat.blt d E.n)=true:=by rfl):DJ E ops D C F (⟨some d,op,ty,ps,af,g⟩::rest) L:=dS (OX h) k
end
section
open Go.RowKit
/-- what of a slice is left from k on -/
def Ab (A:OA) (c k sz:Nat):OA:=if c=k then A else A.map (·.add (k*sz))
section
variable {E:ff} {ops:Array Oper} {Q:cZ} {rest:List Oper} {D:List Deferred} {L:List (Nat×Value)} {C:List av}
variable {d:Nat} {ty:TypeId} {ps:String} {af:Array Edge} {g:Option (Nat×Bool)}
theorem E1 {P:Program} {t e sz:Nat} (h:tE P t=some (e,sz)) (w:World):P.underlying t=some (.slice e)∧(sizeOf e).run P w= .ok sz w:=by
 unfold tE at h
 split at h
 ·rename_i e' hu
  split at h
  ·rename_i i hi
   cases h
   exact ⟨hu,by simp [sizeOf,typeInfo,hi]⟩
  ·cases h
 ·cases h
theorem vX {P:Program} {t e:Nat} (h:P.underlying t=some (.slice e)):P.underlying t=some (.slice (P.elem t)):=by
 rw [h]; simp [Program.elem,h]
theorem Fe {P:Program} {t e:Nat} (h:P.underlying t=some (.slice e)):P.elem t=e:=by simp [Program.elem,h]
/-- s[k:] -/
theorem Vg (k:Nat) {x lo:Operand} {t e sz n c:Nat} {A:OA} {j:Int} (h:bF E.n ops L d g x lo=some (.slice A n c,.int .i64 j)) (ht:tE E.P t=some (e,sz)) (hj:j=(k:Int)) (hk:k≤n):
 SE E ops ⟨some d,.slice t x (some lo) none none,ty,ps,af,g⟩ D L C (.slice (Ab A c k sz) (n-k) (c-k)) d:=by
 obtain ⟨G,H,AA,J⟩:=qA h
 subst hj
 refine ⟨dJ G sm fun a w B hs=>?_,U,H⟩
 obtain ⟨hu,hz⟩:=E1 ht w
 have hr:=run_slice_l (P:=E.P) w t A n c (vX hu) .i64 (k:Int) om om
 rw [Fe hu,hz] at hr
 simp only [Result.andThen,Int.toNat_natCast,sliced] at hr
 have F:=run_sliceAt_slice (P:=E.P) w t (.slice A n c) (some (.int .i64 (k:Int))) none none (vX hu)
 simp [execOp,B.ev AA,B.ev J,F,hr,Ab]
/-- s[:k] -/
theorem TQ (k:Nat) {x hi:Operand} {t e sz n c:Nat} {A:OA} {j:Int} (h:bF E.n ops L d g x hi=some (.slice A n c,.int .i64 j)) (ht:tE E.P t=some (e,sz)) (hj:j=(k:Int)) (hk:k≤c):
 SE E ops ⟨some d,.slice t x none (some hi) none,ty,ps,af,g⟩ D L C (.slice A k c) d:=by
 obtain ⟨H,AA,J,K⟩:=qA h
 subst hj
 refine ⟨dJ H sm fun a w B hs=>?_,U,AA⟩
 obtain ⟨hu,hz⟩:=E1 ht w
 have hr:=run_slice_h (P:=E.P) w t A n c (vX hu) .i64 (k:Int) om om
 rw [Fe hu,hz] at hr
 have G:(if c=0 then A else A.map (·.add (0*sz)))=A:=by
  split
  ·rfl
  ·cases A with
   |none=>rfl
   |some ad=>simp [Addr.add]
 simp only [Result.andThen,Int.toNat_natCast,sliced,G,Nat.sub_zero] at hr
 have F:=run_sliceAt_slice (P:=E.P) w t (.slice A n c) none (some (.int .i64 (k:Int))) none (vX hu)
 simp [execOp,B.ev J,B.ev K,F,hr]
/-- an element of a row whose place is known -/
theorem Vm (k:Nat) {x ix:Operand} {A:OA} {ad:Addr} {n c sz e t:Nat} {j:Int} (h:bF E.n ops L d g x ix=some (.slice A n c,.int .i64 j)) (hA:A=some ad) (ht:tE E.P t=some (e,sz)) (hj:j=(k:Int)) (hk:k<n):
 SE E ops ⟨some d,.indexAddr t x ix,ty,ps,af,g⟩ D L C (.pointer (lG A (k*sz))) d:=by
 obtain ⟨F,G,H,AA⟩:=qA h
 refine ⟨dJ F sm fun a w B hs=>?_,U,G⟩
 subst hA hj
 simp [execOp,B.ev H,B.ev AA,lG,ql ht hk]
end
theorem Fb {w:World} {a:OA} {c e sz:Nat} {es:List (List Value)} (h:(own a c e sz es).holds w):es.length≤c:=by
 rcases h.2.2 with ⟨A,B⟩|⟨g,cap,cur,hv,_,_,C,_⟩
 ·omega
 ·injection hv with _ _ hc; omega
end
section
open Go.RowKit
/-- an array's length, its elements' type and their size -/
def aE (P:Program) (t:TypeId):Option (Nat×TypeId×Nat):=
 match P.underlying t with
 |some (.array n e)=>match P.info? e with
  |some i=>some (n,e,i.size)
  |none=>none
 |_=>none
theorem Gd {P:Program} {t n e sz:Nat} (h:aE P t=some (n,e,sz)) (w:World):P.underlying t=some (.array n e)∧(sizeOf e).run P w= .ok sz w:=by
 unfold aE at h
 split at h
 ·rename_i n' e' hu
  split at h
  ·rename_i i hi
   cases h
   exact ⟨hu,by simp [sizeOf,typeInfo,hi]⟩
  ·cases h
 ·cases h
theorem vx {P:Program} {t n e sz:Nat} (h:aE P t=some (n,e,sz)) (a:Addr) (w:World):
 (Instr.sliceAt t (.pointer (some a)) none none none).run P w= .ok (.slice (some a) n n) w:=by
 obtain ⟨hu,hz⟩:=Gd h w
 have A:a.add 0=a:=by simp [Addr.add]
 simp [Instr.sliceAt,underlying,hu,Instr.sureAddr,Instr.sliceBounds,hz,A]
theorem vv {P:Program} {t n e sz:Nat} (h:aE P t=some (n,e,sz)) (a:Addr) {k:Nat} (hk:k<n) (w:World):
 (Instr.indexAt t (.pointer (some a)) (.int .i64 (k:Int))).run P w= .ok (.pointer (some (a.add (k*sz)))) w:=by
 obtain ⟨hu,hz⟩:=Gd h w
 have A: ¬ n≤k:=by omega
 simp [Instr.indexAt,underlying,hu,Instr.sureAddr,asIntOf,hz,A]
 try exact fun h=>absurd h A
 try omega
section
variable {E:ff} {ops:Array Oper} {Q:cZ} {rest:List Oper} {D:List Deferred} {L:List (Nat×Value)} {C:List av}
variable {dst:Option Nat} {ty:TypeId} {ps:String} {af:Array Edge} {g:Option (Nat×Bool)}
theorem ER {x:Operand} {a:Addr} {t n e sz:Nat} (hg:ju ops L g=true) (hx:ev L x=some (.pointer (some a))) (ht:aE E.P t=some (n,e,sz)):
 SD E ops ⟨dst,.slice t x none none none,ty,ps,af,g⟩ D L C (.slice (some a) n n):=
 dJ hg sm fun b w A hs=>by
  simp [execOp,A.ev hx,vx ht]
theorem Dw {x ix:Operand} {a:Addr} {t n e sz k:Nat} {j:Int} (hg:ju ops L g=true) (hx:ev L x=some (.pointer (some a))) (hi:ev L ix=some (.int .i64 j)) (ht:aE E.P t=some (n,e,sz)) (hj:j=(k:Int)) (hk:k<n):
 SD E ops ⟨dst,.indexAddr t x ix,ty,ps,af,g⟩ D L C (.pointer (lG (some a) (k*sz))):=
 dJ hg sm fun b w A hs=>by
  subst hj
  simp [execOp,A.ev hx,A.ev hi,lG,vv ht a hk]
end
end
section
open Go.RowKit
/-- a table of facts on the program's types -/
structure Dh where
 tk:List (Nat×Bool×Nat)
 fo:List (Nat×List (Option Nat))
 sl:List Nat
def QR {α:Type}:List (Nat×α)→Nat→Option α
 |[],_=>none
 |(k,v)::l,t=>match Nat.beq k t with
  |true=>some v
  |false=>QR l t
theorem zT {α:Type}: ∀ {l:List (Nat×α)} {t:Nat} {v:α},QR l t=some v→(t,v)∈l
 |[],t,v,h=>by simp [QR] at h
 |(k,u)::l,t,v,h=>by
  unfold QR at h
  split at h
  ·rename_i hb
   cases h
   rw [Nat.eq_of_beq_eq_true hb]; exact cm
  ·exact cS _ (zT h)
def LZ:List Nat→Nat→Bool
 |[],_=>false
 |k::l,t=>match Nat.beq k t with
  |true=>true
  |false=>LZ l t
theorem BZ: ∀ {l:List Nat} {t:Nat},LZ l t=true→t∈l
 |[],t,h=>by simp [LZ] at h
 |k::l,t,h=>by
  unfold LZ at h
  split at h
  ·rename_i hb
   rw [Nat.eq_of_beq_eq_true hb]; exact cm
  ·exact cS _ (BZ h)
def Dh.Ie (T:Dh) (t:Nat):Option (Bool×Nat):=QR T.tk t
def Dh.foF (T:Dh) (s f:Nat):Option Nat:=match QR T.fo s with
 |some l=>match l[f]? with
  |some (some k)=>some k
  |_=>none
 |none=>none
structure kZ (P:Program) (T:Dh):Prop where
 tk: ∀ p∈T.tk,tK P p.1=some p.2
 fo: ∀ p∈T.fo,∀ f k,p.2[f]? =some (some k)→sx P p.1 f=some k
 sl: ∀ t∈T.sl,∃ e,P.underlying t=some (.slice e)
theorem kZ.Ie {P:Program} {T:Dh} (h:kZ P T) {t:Nat} {r:Bool×Nat} (e:T.Ie t=some r):tK P t=some r:=h.tk _ (zT e)
theorem kZ.foF {P:Program} {T:Dh} (h:kZ P T) {s f k:Nat} (e:T.foF s f=some k):sx P s f=some k:=by
 unfold Dh.foF at e
 split at e
 ·rename_i l hl
  split at e
  ·rename_i k' hk
   cases e
   exact h.fo _ (zT hl) f k hk
  ·cases e
 ·cases e
def Tr (P:Program) (T:Dh):Bool:=(T.tk.all fun p=>decide (tK P p.1=some p.2))&&(T.fo.all fun p=>(List.range p.2.length).all fun f=>match p.2[f]? with
 |some (some k)=>decide (sx P p.1 f=some k)
 |_=>true)&&T.sl.all fun t=>match P.underlying t with
 |some (.slice _)=>true
 |_=>false
theorem QA {P:Program} {T:Dh} (h:Tr P T=true):kZ P T:=by
 unfold Tr at h
 rw [cR,cR] at h
 obtain ⟨⟨B,C⟩,D⟩:=h
 refine ⟨fun p hp=>by simpa using List.all_eq_true.1 B p hp,fun p hp f k hk=>?_,fun t ht=>?_⟩
 ·have A:=List.all_eq_true.1 (List.all_eq_true.1 C p hp) f (List.mem_range.2 (List.getElem?_eq_some_iff.1 hk).1)
  rw [hk] at A
  simpa using A
 ·have A:=List.all_eq_true.1 D t ht
  split at A
  ·rename_i e he; exact ⟨e,he⟩
  ·cases A
end
section
theorem M6:tK Tryz.prog 3=some (false,1):=by kernel_rfl
theorem Vp:tK Tryz.prog 4=some (false,1):=by kernel_rfl
theorem UX:tK Tryz.prog 22=some (false,1):=by kernel_rfl
theorem UE:tK Tryz.prog 25=some (false,1):=by kernel_rfl
theorem U2:tK Tryz.prog 26=some (false,1):=by kernel_rfl
theorem Ux:tK Tryz.prog 28=some (true,7):=by kernel_rfl
theorem T3:tK Tryz.prog 29=some (false,1):=by kernel_rfl
theorem TO:tK Tryz.prog 30=some (false,1):=by kernel_rfl
theorem Tc:tK Tryz.prog 32=some (true,11):=by kernel_rfl
theorem T1:tK Tryz.prog 38=some (true,2):=by kernel_rfl
theorem Ub:tK Tryz.prog 42=some (false,1):=by kernel_rfl
theorem TS:tK Tryz.prog 44=some (true,3):=by kernel_rfl
theorem UJ:tK Tryz.prog 46=some (true,7):=by kernel_rfl
theorem Pt:tK Tryz.prog 47=some (false,1):=by kernel_rfl
theorem U9:tK Tryz.prog 58=some (false,1):=by kernel_rfl
theorem Ur:tK Tryz.prog 62=some (false,1):=by kernel_rfl
theorem Ui:tK Tryz.prog 80=some (false,1):=by kernel_rfl
theorem TU:tK Tryz.prog 85=some (false,1):=by kernel_rfl
theorem TK:tK Tryz.prog 86=some (false,1):=by kernel_rfl
theorem Rc:tK Tryz.prog 119=some (true,3):=by kernel_rfl
theorem SS:tK Tryz.prog 122=some (true,9):=by kernel_rfl
theorem SJ:tK Tryz.prog 124=some (true,3):=by kernel_rfl
theorem RP:tK Tryz.prog 125=some (false,1):=by kernel_rfl
theorem Rj:tK Tryz.prog 127=some (true,2):=by kernel_rfl
theorem Rl:tK Tryz.prog 131=some (true,2):=by kernel_rfl
theorem Sd:tK Tryz.prog 143=some (true,1):=by kernel_rfl
theorem RR:tK Tryz.prog 144=some (true,4):=by kernel_rfl
theorem SQ:tK Tryz.prog 203=some (true,1):=by kernel_rfl
theorem RW:tK Tryz.prog 231=some (false,1):=by kernel_rfl
theorem QW:tK Tryz.prog 233=some (true,3):=by kernel_rfl
theorem Ss:tK Tryz.prog 268=some (false,1):=by kernel_rfl
theorem Rz:tK Tryz.prog 274=some (false,1):=by kernel_rfl
theorem Ra:tK Tryz.prog 276=some (true,2):=by kernel_rfl
theorem BF:(tK Tryz.prog 3).map (·.2)=some 1:=by rw [M6]; rfl
theorem UU:(tK Tryz.prog 22).map (·.2)=some 1:=by rw [UX]; rfl
theorem UK:(tK Tryz.prog 25).map (·.2)=some 1:=by rw [UE]; rfl
theorem U1:(tK Tryz.prog 26).map (·.2)=some 1:=by rw [U2]; rfl
theorem Vb:(tK Tryz.prog 28).map (·.2)=some 7:=by rw [Ux]; rfl
theorem z7:(tK Tryz.prog 29).map (·.2)=some 1:=by rw [T3]; rfl
theorem TP:(tK Tryz.prog 30).map (·.2)=some 1:=by rw [TO]; rfl
theorem sY:(tK Tryz.prog 32).map (·.2)=some 11:=by rw [Tc]; rfl
theorem cu:(tK Tryz.prog 38).map (·.2)=some 2:=by rw [T1]; rfl
theorem Uu:(tK Tryz.prog 42).map (·.2)=some 1:=by rw [Ub]; rfl
theorem UA:(tK Tryz.prog 44).map (·.2)=some 3:=by rw [TS]; rfl
theorem QE:(tK Tryz.prog 46).map (·.2)=some 7:=by rw [UJ]; rfl
theorem UL:(tK Tryz.prog 47).map (·.2)=some 1:=by rw [Pt]; rfl
theorem Nm:(tK Tryz.prog 58).map (·.2)=some 1:=by rw [U9]; rfl
theorem UZ:(tK Tryz.prog 62).map (·.2)=some 1:=by rw [Ur]; rfl
theorem RS:(tK Tryz.prog 80).map (·.2)=some 1:=by rw [Ui]; rfl
theorem TR:(tK Tryz.prog 85).map (·.2)=some 1:=by rw [TU]; rfl
theorem UD:(tK Tryz.prog 86).map (·.2)=some 1:=by rw [TK]; rfl
theorem IT:(tK Tryz.prog 119).map (·.2)=some 3:=by rw [Rc]; rfl
theorem JQ:(tK Tryz.prog 122).map (·.2)=some 9:=by rw [SS]; rfl
theorem sU:(tK Tryz.prog 124).map (·.2)=some 3:=by rw [SJ]; rfl
theorem Tg:(tK Tryz.prog 125).map (·.2)=some 1:=by rw [RP]; rfl
theorem O1:(tK Tryz.prog 127).map (·.2)=some 2:=by rw [Rj]; rfl
theorem we:(tK Tryz.prog 131).map (·.2)=some 2:=by rw [Rl]; rfl
theorem E8:(tK Tryz.prog 143).map (·.2)=some 1:=by rw [Sd]; rfl
theorem SY:(tK Tryz.prog 144).map (·.2)=some 4:=by rw [RR]; rfl
theorem I_:(tK Tryz.prog 203).map (·.2)=some 1:=by rw [SQ]; rfl
theorem Q5:(tK Tryz.prog 231).map (·.2)=some 1:=by rw [RW]; rfl
theorem Q6:(tK Tryz.prog 233).map (·.2)=some 3:=by rw [QW]; rfl
theorem zn:(tK Tryz.prog 268).map (·.2)=some 1:=by rw [Ss]; rfl
theorem I3:(tK Tryz.prog 274).map (·.2)=some 1:=by rw [Rz]; rfl
theorem ru:(tK Tryz.prog 276).map (·.2)=some 2:=by rw [Ra]; rfl
theorem yC:aE Tryz.prog 151=some (3,150,2):=by kernel_rfl
theorem QF:sx Tryz.prog 46 0=some 0:=by kernel_rfl
theorem TL:rV Tryz.prog 45=true:=by kernel_rfl
theorem TB:rV Tryz.prog 57=true:=by kernel_rfl
theorem gV (l:List aa): ∀ v∈(l.map aa.cells).flatten,v.oneCell'=true:=my (fun _=>rfl) l
theorem sf (l:List ao): ∀ v∈(l.map ao.cells).flatten,v.oneCell'=true:=my (fun _=>rfl) l
theorem vC (l:List cG): ∀ v∈(l.map cG.cells).flatten,v.oneCell'=true:=my (fun _=>rfl) l
theorem vo (l:List bE): ∀ v∈(l.map bE.cells).flatten,v.oneCell'=true:=my (fun _=>rfl) l
theorem sZ (l:List aN): ∀ v∈(l.map aN.cells).flatten,v.oneCell'=true:=my (fun _=>rfl) l
theorem Ug:tA Tryz.prog 22=some (122,9,72,(Value.agg [(vI 0),(vI 0),(vI 0),(vI 0),(vI 0),(vI 0),(vI 0),(Value.int .u8 0),(vI 0)].toArray)):=by kernel_rfl
theorem Uv:tA Tryz.prog 25=some (127,2,32,(Value.agg [(vI 0),(vS none 0 0)].toArray)):=by kernel_rfl
theorem Ua:tA Tryz.prog 26=some (129,4,32,(Value.agg [(vI 0),(vI 0),(vI 0),(vI 0)].toArray)):=by kernel_rfl
theorem pE:tA Tryz.prog 29=some (3,1,8,(vI 0)):=by kernel_rfl
theorem UB:tA Tryz.prog 30=some (47,1,24,(vS none 0 0)):=by kernel_rfl
theorem UT:tA Tryz.prog 42=some (131,2,16,(Value.agg [(vI 0),(vI 0)].toArray)):=by kernel_rfl
theorem UN:tA Tryz.prog 47=some (46,7,64,(Value.agg [(vB false),(vB false),(vI 0),(vI 0),(vI 0),(vI 0),(vS none 0 0)].toArray)):=by kernel_rfl
theorem Ut:tA Tryz.prog 67=some (29,1,24,(vS none 0 0)):=by kernel_rfl
theorem Ek:tA Tryz.prog 85=some (38,2,16,(Value.agg [(vI 0),(vI 0)].toArray)):=by kernel_rfl
theorem Q_:tA Tryz.prog 86=some (85,1,24,(vS none 0 0)):=by kernel_rfl
theorem Rs:tA Tryz.prog 125=some (124,3,24,(Value.agg [(vI 0),(vI 0),(vI 0)].toArray)):=by kernel_rfl
theorem OD:tA Tryz.prog 216=some (236,3,72,(Value.agg [(vS none 0 0),(vS none 0 0),(vS none 0 0)].toArray)):=by kernel_rfl
theorem Te:tA Tryz.prog 231=some (4,1,1,(vB false)):=by kernel_rfl
theorem S4:tA Tryz.prog 267=some (58,1,8,(Value.map none)):=by kernel_rfl
theorem Bh:tA Tryz.prog 268=some (274,1,8,(Value.map none)):=by kernel_rfl
theorem TZ:tB Tryz.prog 24=some ([(vS none 0 0)],[(0,1)]):=by kernel_rfl
theorem TD:tB Tryz.prog 28=some ([(vS none 0 0),(vI 0),(vS none 0 0),(vS none 0 0),(vI 0),(vI 0),(vI 0)],[(0,1),(1,1),(2,1),(3,1),(4,1),(5,1),(6,1)]):=by kernel_rfl
theorem GP:tB Tryz.prog 32=some ([(vS none 0 0),(vI 0),(vS none 0 0),(vS none 0 0),(vI 0),(vI 0),(vI 0),(vS none 0 0),(vS none 0 0),(vI 0),(vS none 0 0)],[(0,7),(7,1),(8,1),(9,1),(10,1)]):=by kernel_rfl
theorem gl:tB Tryz.prog 38=some ([(vI 0),(vI 0)],[(0,1),(1,1)]):=by kernel_rfl
theorem UC:tB Tryz.prog 44=some ([(vI 0),(vI 0),(vS none 0 0)],[(0,1),(1,1),(2,1)]):=by kernel_rfl
theorem Pe:tB Tryz.prog 46=some ([(vB false),(vB false),(vI 0),(vI 0),(vI 0),(vI 0),(vS none 0 0)],[(0,1),(1,1),(2,2),(4,3)]):=by kernel_rfl
theorem UR:tB Tryz.prog 88=some ([(vS none 0 0),(vI 0),(vS none 0 0),(vS none 0 0),(vI 0),(vI 0),(vI 0),(vS none 0 0),(vS none 0 0),(vI 0),(vS none 0 0),(vS none 0 0),(Value.map none)],[(0,11),(11,1),(12,1)]):=by kernel_rfl
theorem S5:tB Tryz.prog 119=some ([(vI 0),(vI 0),(vI 0)],[(0,1),(1,2)]):=by kernel_rfl
theorem SB:tB Tryz.prog 122=some ([(vI 0),(vI 0),(vI 0),(vI 0),(vI 0),(vI 0),(vI 0),(Value.int .u8 0),(vI 0)],[(0,1),(1,2),(3,2),(5,2),(7,1),(8,1)]):=by kernel_rfl
theorem OQ:tB Tryz.prog 124=some ([(vI 0),(vI 0),(vI 0)],[(0,1),(1,2)]):=by kernel_rfl
theorem RC:tB Tryz.prog 127=some ([(vI 0),(vS none 0 0)],[(0,1),(1,1)]):=by kernel_rfl
theorem Kr:tB Tryz.prog 129=some ([(vI 0),(vI 0),(vI 0),(vI 0)],[(0,3),(3,1)]):=by kernel_rfl
theorem Ft:tB Tryz.prog 131=some ([(vI 0),(vI 0)],[(0,1),(1,1)]):=by kernel_rfl
theorem FP:tB Tryz.prog 143=some ([Value.nilFunc],[(0,1)]):=by kernel_rfl
theorem SI:tB Tryz.prog 144=some ([Value.nilFunc,Value.nilFunc,Value.nilFunc,Value.nilFunc],[(0,1),(1,1),(2,1),(3,1)]):=by kernel_rfl
theorem Rn:tB Tryz.prog 156=some ([(vI 0),(vI 0)],[(0,1),(1,1)]):=by kernel_rfl
theorem Sx:tB Tryz.prog 203=some ([(vS none 0 0)],[(0,1)]):=by kernel_rfl
theorem So:tB Tryz.prog 236=some ([(vS none 0 0),(vS none 0 0),(vS none 0 0)],[(0,1),(1,1),(2,1)]):=by kernel_rfl
theorem S8:tB Tryz.prog 270=some ([(vS none 0 0),(vI 0),(vS none 0 0),(vS none 0 0),(vI 0),(vI 0),(vI 0),(vI 0),(vI 0),(vS none 0 0),(vS none 0 0),(vS none 0 0),(vS none 0 0),(vS none 0 0)],[(0,7),(7,3),(10,1),(11,1),(12,1),(13,1)]):=by kernel_rfl
theorem Bb:tB Tryz.prog 276=some ([(vI 0),(vI 0)],[(0,1),(1,1)]):=by kernel_rfl
theorem yi:tE Tryz.prog 22=some (122,9):=by kernel_rfl
theorem zV:tE Tryz.prog 25=some (127,2):=by kernel_rfl
theorem vt:tE Tryz.prog 26=some (129,4):=by kernel_rfl
theorem cy:tE Tryz.prog 29=some (3,1):=by kernel_rfl
theorem rm:tE Tryz.prog 30=some (47,1):=by kernel_rfl
theorem zQ:tE Tryz.prog 42=some (131,2):=by kernel_rfl
theorem wT:tE Tryz.prog 47=some (46,7):=by kernel_rfl
theorem o9:tE Tryz.prog 67=some (29,1):=by kernel_rfl
theorem jK:tE Tryz.prog 85=some (38,2):=by kernel_rfl
theorem Mi:tE Tryz.prog 86=some (85,1):=by kernel_rfl
theorem qd:tE Tryz.prog 125=some (124,3):=by kernel_rfl
theorem Iv:tE Tryz.prog 147=some (150,2):=by kernel_rfl
theorem Fc:tE Tryz.prog 216=some (236,3):=by kernel_rfl
theorem KB:tE Tryz.prog 220=some (119,3):=by kernel_rfl
theorem O7:tE Tryz.prog 231=some (4,1):=by kernel_rfl
theorem Ot:tE Tryz.prog 266=some (262,1):=by kernel_rfl
theorem FC:tE Tryz.prog 267=some (58,1):=by kernel_rfl
theorem nQ:tE Tryz.prog 268=some (274,1):=by kernel_rfl
theorem zO:(match Tryz.prog.underlying 38 with |some (.struct fs)=>(fs[0]?).map (fun fl=>tK Tryz.prog fl.type)|_=>none)=some (some (false,1)):=by kernel_rfl
theorem Ad:(match Tryz.prog.underlying 38 with |some (.struct fs)=>(fs[1]?).map (fun fl=>tK Tryz.prog fl.type)|_=>none)=some (some (false,1)):=by kernel_rfl
theorem Vi:tV Tryz.prog 3=some (vI 0):=by kernel_rfl
theorem Vt:tV Tryz.prog 4=some (vB false):=by kernel_rfl
theorem vD:tV Tryz.prog 38=some (Value.agg [(vI 0),(vI 0)].toArray):=by kernel_rfl
theorem Fu:tX Tryz.prog 144=some (4,143):=by kernel_rfl
theorem FG:tX Tryz.prog 156=some (2,3):=by kernel_rfl
theorem jd:tZ Tryz.prog 3=some [(vI 0)]:=by kernel_rfl
theorem Vs:tZ Tryz.prog 4=some [(vB false)]:=by kernel_rfl
theorem z3:tZ Tryz.prog 12=some [(Value.int .u64 0)]:=by kernel_rfl
theorem Tz:tZ Tryz.prog 28=some [(vS none 0 0),(vI 0),(vS none 0 0),(vS none 0 0),(vI 0),(vI 0),(vI 0)]:=by kernel_rfl
theorem vr:tZ Tryz.prog 29=some [(vS none 0 0)]:=by kernel_rfl
theorem Bk:tZ Tryz.prog 32=some [(vS none 0 0),(vI 0),(vS none 0 0),(vS none 0 0),(vI 0),(vI 0),(vI 0),(vS none 0 0),(vS none 0 0),(vI 0),(vS none 0 0)]:=by kernel_rfl
theorem dg:tZ Tryz.prog 38=some [(vI 0),(vI 0)]:=by kernel_rfl
theorem TG:tZ Tryz.prog 44=some [(vI 0),(vI 0),(vS none 0 0)]:=by kernel_rfl
theorem Mh:tZ Tryz.prog 46=some [(vB false),(vB false),(vI 0),(vI 0),(vI 0),(vI 0),(vS none 0 0)]:=by kernel_rfl
theorem Uh:tZ Tryz.prog 47=some [(vS none 0 0)]:=by kernel_rfl
theorem Uz:tZ Tryz.prog 53=some [Value.nilFunc]:=by kernel_rfl
theorem Q9:tZ Tryz.prog 58=some [(Value.map none)]:=by kernel_rfl
theorem Uy:tZ Tryz.prog 62=some [(Value.map none)]:=by kernel_rfl
theorem Re:tZ Tryz.prog 80=some [(Value.pointer none)]:=by kernel_rfl
theorem QV:tZ Tryz.prog 85=some [(vS none 0 0)]:=by kernel_rfl
theorem Br:tZ Tryz.prog 119=some [(vI 0),(vI 0),(vI 0)]:=by kernel_rfl
theorem E5:tZ Tryz.prog 122=some [(vI 0),(vI 0),(vI 0),(vI 0),(vI 0),(vI 0),(vI 0),(Value.int .u8 0),(vI 0)]:=by kernel_rfl
theorem rv:tZ Tryz.prog 124=some [(vI 0),(vI 0),(vI 0)]:=by kernel_rfl
theorem Jw:tZ Tryz.prog 127=some [(vI 0),(vS none 0 0)]:=by kernel_rfl
theorem SW:tZ Tryz.prog 129=some [(vI 0),(vI 0),(vI 0),(vI 0)]:=by kernel_rfl
theorem Fx:tZ Tryz.prog 131=some [(vI 0),(vI 0)]:=by kernel_rfl
theorem FX:tZ Tryz.prog 143=some [Value.nilFunc]:=by kernel_rfl
theorem Su:tZ Tryz.prog 144=some [Value.nilFunc,Value.nilFunc,Value.nilFunc,Value.nilFunc]:=by kernel_rfl
theorem KF:tZ Tryz.prog 203=some [(vS none 0 0)]:=by kernel_rfl
theorem OE:tZ Tryz.prog 233=some [(vS none 0 0),(vS none 0 0),(vS none 0 0)]:=by kernel_rfl
theorem Rt:tZ Tryz.prog 236=some [(vS none 0 0),(vS none 0 0),(vS none 0 0)]:=by kernel_rfl
theorem SN:tZ Tryz.prog 262=some [Value.nilFunc]:=by kernel_rfl
theorem tO:tZ Tryz.prog 276=some [(vI 0),(vI 0)]:=by kernel_rfl
theorem od:Tryz.prog.underlying 3=some (.int .i64):=by kernel_rfl
theorem Uq:Tryz.prog.underlying 4=some .bool:=by kernel_rfl
theorem QJ:Tryz.prog.underlying 5=some (.int .u8):=by kernel_rfl
theorem Vo:Tryz.prog.underlying 9=some .string:=by kernel_rfl
theorem Qv:Tryz.prog.underlying 22=some (.slice 122):=by kernel_rfl
theorem SM:Tryz.prog.underlying 25=some (.slice 127):=by kernel_rfl
theorem PJ:Tryz.prog.underlying 26=some (.slice 129):=by kernel_rfl
theorem Q7:Tryz.prog.underlying 29=some (.slice 3):=by kernel_rfl
theorem Rh:Tryz.prog.underlying 30=some (.slice 47):=by kernel_rfl
theorem R_:Tryz.prog.underlying 42=some (.slice 131):=by kernel_rfl
theorem Sa:Tryz.prog.underlying 47=some (.slice 46):=by kernel_rfl
theorem lF:Tryz.prog.underlying 58=some (.map 3 38):=by kernel_rfl
theorem wN:Tryz.prog.underlying 62=some (.map 3 4):=by kernel_rfl
theorem OZ:Tryz.prog.underlying 125=some (.slice 124):=by kernel_rfl
theorem RT:Tryz.prog.underlying 135=some (.int .u64):=by kernel_rfl
theorem Sp:Tryz.prog.underlying 170=some (.int .u64):=by kernel_rfl
theorem oW:Tryz.prog.underlying 274=some (.map 276 3):=by kernel_rfl
theorem P1:fL Tryz.prog 38=some [(3,0),(3,1)]:=by kernel_rfl
theorem Ov (d:Nat) (s z:aa) (w:World):(Op.equalIn (d+2) 38 (.agg s.cells.toArray) (.agg z.cells.toArray)).run Tryz.prog w= .ok (decide (s=z)) w:=by
 have hc:(decide (s.Lo=z.Lo)&&(decide (s.Hi=z.Hi)&&true))=decide (s=z):=by rw [Bool.eq_iff_iff]; simp [aa.ext_iff]
 rw [← hc]
 exact xZ (d+1) P1 w (tj w (jW M6 U w) (jW M6 U w) (vZ _ od w) (tj w (jW M6 U w) (jW M6 U w) (vZ _ od w) (F3 w)))
theorem tp (x y:Operand) (s z:aa):g6 Tryz.prog .eql 38 x y (.agg s.cells.toArray) (.agg z.cells.toArray) (.bool (decide (s=z))):=Gw x y (B_ P1) fun w=>Ov 9998 s z w
theorem SA (x y:Operand) (s z:aa):g6 Tryz.prog .neq 38 x y (.agg s.cells.toArray) (.agg z.cells.toArray) (.bool (!decide (s=z))):=G2 x y (B_ P1) fun w=>Ov 9998 s z w
theorem Ok:fL Tryz.prog 276=some [(3,0),(3,1)]:=by kernel_rfl
theorem Qi (d:Nat) (s z:aC) (w:World):(Op.equalIn (d+2) 276 (.agg s.cells.toArray) (.agg z.cells.toArray)).run Tryz.prog w= .ok (decide (s=z)) w:=by
 have hc:(decide (s.right=z.right)&&(decide (s.eU=z.eU)&&true))=decide (s=z):=by rw [Bool.eq_iff_iff]; simp [aC.ext_iff]
 rw [← hc]
 exact xZ (d+1) Ok w (tj w (jW M6 U w) (jW M6 U w) (vZ _ od w) (tj w (jW M6 U w) (jW M6 U w) (vZ _ od w) (F3 w)))
theorem cD:Tryz.prog.follows .mixedOrders=true:=by kernel_rfl
def TT:Dh:=⟨[(1,false,1),(2,false,1),(3,false,1),(4,false,1),(5,false,1),(6,false,1),(7,true,4),(8,true,4),(12,false,1),(15,false,1),(16,false,1),(17,false,1),(18,true,1),(19,true,1),(21,false,1),(22,false,1),(23,true,1),(24,true,1),(25,false,1),(26,false,1),(27,true,7),(28,true,7),(29,false,1),(30,false,1),(31,true,11),(32,true,11),(33,false,1),(34,false,1),(35,false,1),(36,false,1),(37,true,2),(38,true,2),(39,false,1),(41,false,1),(42,false,1),(43,true,3),(44,true,3),(45,true,7),(46,true,7),(47,false,1),(48,false,1),(49,false,1),(50,false,1),(52,false,1),(53,false,1),(55,false,1),(56,false,1),(57,false,1),(58,false,1),(60,false,1),(62,false,1),(63,false,1),(64,false,1),(65,false,1),(66,false,1),(67,false,1),(69,false,1),(71,false,1),(72,false,1),(73,false,1),(74,false,1),(75,false,1),(76,false,1),(77,false,1),(78,false,1),(79,false,1),(80,false,1),(82,false,1),(83,false,1),(84,false,1),(85,false,1),(86,false,1),(87,true,13),(88,true,13),(89,false,1),(91,false,1),(92,false,1),(93,false,1),(94,false,1),(95,false,1),(96,false,1),(97,false,1),(98,false,1),(99,false,1),(100,false,1),(101,false,1),(102,false,1),(103,false,1),(104,false,1),(105,false,1),(107,false,1),(108,false,1),(109,false,1),(110,false,1),(111,false,1),(112,false,1),(113,false,1),(114,false,1),(115,false,1),(116,false,1),(117,false,1),(118,true,3),(119,true,3),(120,false,1),(121,true,9),(122,true,9),(123,true,3),(124,true,3),(125,false,1),(126,true,2),(127,true,2),(128,true,4),(129,true,4),(130,true,2),(131,true,2),(132,false,1),(133,false,1),(134,false,1),(135,false,1),(136,false,1),(137,false,1),(138,false,1),(139,false,1),(141,false,1),(142,false,1),(143,true,1),(144,true,4),(145,false,1),(146,false,1),(147,false,1),(148,false,1),(149,true,2),(150,true,2),(151,true,6),(152,false,1),(153,false,1),(154,false,1),(155,false,1),(156,true,2),(157,false,1),(158,false,1),(159,false,1),(160,false,1),(162,false,1),(163,false,1),(164,false,1),(165,false,1),(167,false,1),(168,false,1),(169,false,1),(170,false,1),(171,false,1),(172,false,1),(173,false,1),(174,false,1),(175,false,1),(176,false,1),(177,false,1),(178,false,1),(179,false,1),(180,false,1),(181,false,1),(182,false,1),(183,false,1),(184,false,1),(185,false,1),(186,false,1),(187,false,1),(188,false,1),(189,false,1),(190,false,1),(191,false,1),(192,false,1),(193,false,1),(194,false,1),(195,false,1),(196,false,1),(197,false,1),(199,false,1),(200,false,1),(201,false,1),(202,true,1),(203,true,1),(205,false,1),(206,false,1),(208,false,1),(209,false,1),(210,false,1),(211,false,1),(213,false,1),(214,false,1),(215,false,1),(216,false,1),(218,false,1),(219,false,1),(220,false,1),(221,false,1),(222,false,1),(223,false,1),(224,false,1),(225,false,1),(226,false,1),(227,false,1),(228,false,1),(229,false,1),(230,false,1),(231,false,1),(232,true,3),(233,true,3),(234,false,1),(235,true,3),(236,true,3),(237,false,1),(238,false,1),(239,false,1),(240,false,1),(241,false,1),(244,true,0),(245,true,0),(246,true,0),(247,false,1),(248,false,1),(249,false,1),(250,false,1),(251,false,1),(252,false,1),(253,false,1),(254,true,11),(255,true,11),(257,false,1),(258,false,1),(259,false,1),(261,false,1),(262,false,1),(263,false,1),(264,false,1),(265,false,1),(266,false,1),(267,false,1),(268,false,1),(269,true,14),(270,true,14),(271,false,1),(272,false,1),(273,false,1),(274,false,1),(275,true,2),(276,true,2),(277,false,1),(278,false,1),(279,false,1),(280,false,1)],[(7,[some 0,some 1,some 2,some 3]),(8,[some 0,some 1,some 2,some 3]),(18,[some 0]),(19,[some 0]),(23,[some 0]),(24,[some 0]),(27,[some 0,some 1,some 2,some 3,some 4,some 5,some 6]),(28,[some 0,some 1,some 2,some 3,some 4,some 5,some 6]),(31,[some 0,some 7,some 8,some 9,some 10]),(32,[some 0,some 7,some 8,some 9,some 10]),(37,[some 0,some 1]),(38,[some 0,some 1]),(43,[some 0,some 1,some 2]),(44,[some 0,some 1,some 2]),(45,[some 0,some 1,some 2,some 4]),(46,[some 0,some 1,some 2,some 4]),(87,[some 0,some 11,some 12]),(88,[some 0,some 11,some 12]),(118,[some 0,some 1]),(119,[some 0,some 1]),(121,[some 0,some 1,some 3,some 5,some 7,some 8]),(122,[some 0,some 1,some 3,some 5,some 7,some 8]),(123,[some 0,some 1]),(124,[some 0,some 1]),(126,[some 0,some 1]),(127,[some 0,some 1]),(128,[some 0,some 3]),(129,[some 0,some 3]),(130,[some 0,some 1]),(131,[some 0,some 1]),(143,[some 0]),(149,[some 0,some 1]),(150,[some 0,some 1]),(202,[some 0]),(203,[some 0]),(232,[some 0,some 1,some 2]),(233,[some 0,some 1,some 2]),(235,[some 0,some 1,some 2]),(236,[some 0,some 1,some 2]),(254,[some 0,some 1,some 2,some 3,some 4,some 5,some 6,some 7,some 8,some 9,some 10]),(255,[some 0,some 1,some 2,some 3,some 4,some 5,some 6,some 7,some 8,some 9,some 10]),(269,[some 0,some 7,some 10,some 11,some 12,some 13]),(270,[some 0,some 7,some 10,some 11,some 12,some 13]),(275,[some 0,some 1]),(276,[some 0,some 1])],[22,25,26,29,30,33,42,47,67,85,86,125,147,216,220,231,266,267,268]⟩
theorem pT:kZ Tryz.prog TT:=QA kr
theorem cq {t:TypeId} {x:Bool×Nat} (h:TT.Ie t=some x:=by rfl):tK Tryz.prog t=some x:=pT.Ie h
theorem fD {s f k:Nat} (h:TT.foF s f=some k:=by rfl):sx Tryz.prog s f=some k:=pT.foF h
end
section
open Go.RowKit
/-- blocks that are read -/
def MM (C:List av) (M:List (Nat×List Value)):Prop:= ∀ p∈M,∀ o vs,(p.2.drop o).take vs.length=vs→At C (some ⟨p.1,o,none⟩) vs
theorem I {C:List av}:MM C []:=fun p h=>by cases h
theorem mc {C:List av} {b t:Nat} {cs:List Value} {M:List (Nat×List Value)} (i:Nat) (hC:C[i]? =some (bZ b t cs)) (h:MM C M):MM C ((b,cs)::M):=fun p hp o vs hv=>by
 rcases List.mem_cons.1 hp with rfl|hp
 ·exact pH i hC hv
 ·exact h p hp o vs hv
theorem mr {C:List av} {b t:Nat} {cs:List Value} {M:List (Nat×List Value)} (i:Nat) (hC:C[i]? =some (bZ b t cs).ro) (h:MM C M):MM C ((b,cs)::M):=fun p hp o vs hv=>by
 rcases List.mem_cons.1 hp with rfl|hp
 ·exact vR i hC hv
 ·exact h p hp o vs hv
def o6:List Prop→Prop
 |[]=>True
 |p::l=>p∧o6 l
theorem j8 {p:Prop} {l:List Prop} (h:p) (h2:o6 l):o6 (p::l):=⟨h,h2⟩
/-- the value of an operation, what it asks for, and what is left of the list of places -/
def pv (T:Dh) (ops:Array Oper) (M:List (Nat×List Value)) (L:List (Nat×Value)) (hs:List Nat) (g:Option (Nat×Bool)) (op:Op):Option (Value×List Prop×List Nat):=
 match Dc ops L g with
 |true=>some (undef,[],hs)
 |false=>match ju ops L g with
  |false=>none
  |true=>match op with
   | .move x=>match ev L x with
    |some v=>some (v,[],hs)
    |none=>none
   | .assign x=>match ev L x with
    |some v=>some (v,[],hs)
    |none=>none
   | .pick c x y=>match ev L c with
    |some (.bool true)=>match ev L x with
     |some v=>some (v,[],hs)
     |none=>none
    |some (.bool false)=>match ev L y with
     |some v=>some (v,[],hs)
     |none=>none
    |_=>none
   | .unOp .not _ x=>match ev L x with
    |some (.bool b)=>some (.bool !b,[],hs)
    |_=>none
   | .extract x i=>match ev L x with
    |some (.tuple vs)=>match vs.toList[i]? with
     |some v=>some (v,[],hs)
     |none=>none
    |_=>none
   | .fieldAddr s x f=>match ev L x with
    |some (.pointer (some ⟨b,o,none⟩))=>match T.foF s f with
     |some k=>some (.pointer (some ⟨b,o+k,none⟩),[],hs)
     |none=>none
    |_=>none
   | .binOp op _ x y _=>match ev L x with
    |some (.int .i64 a)=>match ev L y with
     |some (.int .i64 b)=>match op with
      | .lss=>some (.bool (decide (a<b)),[],hs)
      | .leq=>some (.bool (decide (a≤b)),[],hs)
      | .gtr=>some (.bool (decide (b<a)),[],hs)
      | .geq=>some (.bool (decide (b≤a)),[],hs)
      | .eql=>some (.bool (decide (a=b)),[],hs)
      | .neq=>some (.bool (!decide (a=b)),[],hs)
      | .add=>some (.int .i64 (a+b),[-9223372036854775808≤a+b,a+b≤9223372036854775807],hs)
      | .sub=>some (.int .i64 (a-b),[-9223372036854775808≤a-b,a-b≤9223372036854775807],hs)
      |_=>none
     |_=>none
    |_=>none
   | .load t x=>match ev L x with
    |some (.pointer (some ⟨b,o,none⟩))=>match M[hs.headD 0]? with
     |some (b',cs)=>match T.Ie t with
      |some (false,_)=>match cs[o]? with
       |some v=>some (v,[b'=b],hs.tail)
       |none=>none
      |some (true,n)=>match Nat.beq o 0 with
       |true=>match Nat.beq cs.length n with
        |true=>some (.agg cs.toArray,[b'=b],hs.tail)
        |false=>none
       |false=>none
      |none=>none
     |none=>none
    |_=>none
   | .call c=>match c with
    |{callee:= .builtin .len,args:=xs,argTypes:=ts}=>match xs.toList with
     |[x]=>match ts.toList with
      |[t]=>match ev L x with
       |some (.slice A n c)=>match LZ T.sl t with
        |true=>some (.int .i64 n,[],hs)
        |false=>none
       |_=>none
      |_=>none
     |_=>none
    |_=>none
   |_=>none
section
variable {E:ff} {T:Dh} {ops:Array Oper} {M:List (Nat×List Value)} {D:List Deferred} {L:List (Nat×Value)} {C:List av} {hs hs':List Nat}
theorem u7 {cs:List Value} {o:Nat} {v:Value} (h:cs[o]? =some v):(cs.drop o).take [v].length=[v]:=by
 obtain ⟨hl,rfl⟩:=List.getElem?_eq_some_iff.1 h
 rw [List.drop_eq_getElem_cons hl]; rfl
theorem Q3 {o:Oper} {v:Value} {S:List Prop} (hT:kZ E.P T) (hM:MM C M) (h:pv T ops M L hs o.guard o.op=some (v,S,hs')) (hS:o6 S):SD E ops o D L C v:=by
 obtain ⟨dst,op,ty,ps,af,g⟩:=o
 unfold pv at h
 simp only at h
 split at h
 ·rename_i hg
  cases h
  exact Kq hg
 ·split at h
  ·cases h
  ·rename_i hg
   split at h
   ·split at h
    ·rename_i hx; cases h; exact FD hg hx
    ·cases h
   ·split at h
    ·rename_i hx; cases h; exact zA hg hx
    ·cases h
   ·split at h
    ·rename_i hc
     split at h
     ·rename_i hx; cases h; exact yK hg hc hx
     ·cases h
    ·rename_i hc
     split at h
     ·rename_i hx; cases h; exact yw hg hc hx
     ·cases h
    ·cases h
   ·split at h
    ·rename_i hx; cases h; exact Ju hg hx
    ·cases h
   ·split at h
    ·rename_i vs hx
     split at h
     ·rename_i v' hv; cases h; exact xp (vs:=vs.toList) hg (by simpa using hx) hv
     ·cases h
    ·cases h
   ·split at h
    ·rename_i hx
     split at h
     ·rename_i hk; cases h; exact OK hg hx (hT.foF hk) rfl
     ·cases h
    ·cases h
   ·split at h
    ·rename_i hx
     split at h
     ·rename_i hy
      split at h
      ·cases h; exact b_ hg hx hy gS
      ·cases h; exact b_ hg hx hy SF
      ·cases h; exact b_ hg hx hy RB
      ·cases h; exact b_ hg hx hy F6
      ·cases h; exact b_ hg hx hy mq
      ·cases h; exact b_ hg hx hy ng
      ·cases h; exact b_ hg hx hy (ik ⟨hS.1,hS.2.1⟩)
      ·cases h; exact b_ hg hx hy (rJ ⟨hS.1,hS.2.1⟩)
      ·cases h
     ·cases h
    ·cases h
   ·split at h
    ·rename_i hx
     split at h
     ·rename_i b' cs hm
      have A:=aX hm
      split at h
      ·rename_i hk
       split at h
       ·rename_i hv
        cases h
        obtain rfl:=hS.1
        exact uj hg hx (hT.Ie hk) (hM _ A _ _ (u7 hv))
       ·cases h
      ·rename_i n hk
       split at h
       ·rename_i ho
        split at h
        ·rename_i hn
         cases h
         obtain rfl:=hS.1
         have H:=Nat.eq_of_beq_eq_true ho
         subst H
         exact xX hg hx (hT.Ie hk) (hM _ A 0 cs sm) (Nat.eq_of_beq_eq_true hn)
        ·cases h
       ·cases h
      ·cases h
     ·cases h
    ·cases h
   ·split at h
    ·rename_i xs ts
     split at h
     ·rename_i x G
      split at h
      ·rename_i t F
       split at h
       ·rename_i hx
        split at h
        ·rename_i B
         cases h
         obtain ⟨e,he⟩:=hT.sl t (BZ B)
         have AA:xs= #[x]:=by apply Array.ext'; simpa using G
         have J:ts= #[t]:=by apply Array.ext'; simpa using F
         subst AA J
         exact Is hg hx he
        ·cases h
       ·cases h
      ·cases h
     ·cases h
    ·cases h
   ·cases h
def pr (T:Dh) (n:Nat) (ops:Array Oper) (M:List (Nat×List Value)):Nat→List Nat→List (Nat×Value)→List Oper→Option (List (Nat×Value)×List Oper×List Prop)
 |0,_,L,rest=>some (L,rest,[])
 |k+1,hs,L,[]=>none
 |k+1,hs,L,o::rest=>match o.dst with
  |none=>none
  |some d=>match Nat.blt d n with
   |false=>none
   |true=>match pv T ops M L hs o.guard o.op with
    |none=>none
    |some (v,S,hs')=>match pr T n ops M k hs' ((d,v)::L) rest with
     |none=>none
     |some (L',rest',S')=>some (L',rest',S++S')
theorem wZ: ∀ {S S':List Prop},o6 (S++S')→o6 S∧o6 S'
 |[],S',h=>⟨trivial,h⟩
 |p::S,S',h=>⟨⟨h.1,(wZ h.2).1⟩,(wZ h.2).2⟩
/-- whatever is closed under single steps -/
theorem Lt {J:List Oper→List (Nat×Value)→Prop} (hT:kZ E.P T) (hM:MM C M) (hJ: ∀ o rest L d v,SD E ops o D L C v→o.dst=some d→Nat.blt d E.n=true→J rest ((d,v)::L)→J (o::rest) L):
 ∀ (k:Nat) (hs:List Nat) (L:List (Nat×Value)) (rest:List Oper) {L':List (Nat×Value)} {rest':List Oper} {S:List Prop},pr T E.n ops M k hs L rest=some (L',rest',S)→o6 S→J rest' L'→J rest L
 |0,hs,L,rest,L',rest',S,h,hS,hj=>by
  unfold pr at h
  cases h
  exact hj
 |k+1,hs,L,[],L',rest',S,h,hS,hj=>by unfold pr at h; cases h
 |k+1,hs,L,o::rest,L',rest',S,h,hS,hj=>by
  unfold pr at h
  split at h
  ·cases h
  ·rename_i d hd
   split at h
   ·cases h
   ·rename_i hn
    split at h
    ·cases h
    ·rename_i v S1 A hv
     split at h
     ·cases h
     ·rename_i L1 G S2 hr
      cases h
      obtain ⟨B,F⟩:=wZ hS
      exact hJ o rest L d v (Q3 hT hM hv B) hd hn (Lt hT hM hJ k A _ rest hr F hj)
variable {Q:cZ} {rest rest':List Oper} {L0 L':List (Nat×Value)} {S:List Prop} {F:List (Nat×Value)→Prop}
/-- a run of operations, one after the other -/
theorem rP (k:Nat) (hs:List Nat) (hM:MM C M) (j:RJ E ops Q rest' D L' C) (hT:kZ E.P T:=by exact pT) (h:pr T E.n ops M k hs L rest=some (L0,rest',S):=by rfl) (hL:L0=L':=by (try dsimp only)<;>rfl) (hS:o6 S:=by repeat' first|exact True.intro |refine j8 ?_ ?_ |exact rfl|omega|(dsimp only; omega)):RJ E ops Q rest D L C:=by
 subst hL
 exact Lt (J:=fun r L=>RJ E ops Q r D L C) hT hM (fun o rest L d v A B F G=>RG A B F G) k hs L rest h hS j
theorem dP (k:Nat) (hs:List Nat) (hM:MM C M) (j:DJ E ops D C F rest' L') (hT:kZ E.P T:=by exact pT) (h:pr T E.n ops M k hs L rest=some (L0,rest',S):=by rfl) (hL:L0=L':=by (try dsimp only)<;>rfl) (hS:o6 S:=by repeat' first|exact True.intro |refine j8 ?_ ?_ |exact rfl|omega):DJ E ops D C F rest L:=by
 subst hL
 exact Lt (J:=fun r L=>DJ E ops D C F r L) hT hM (fun o rest L d v A B G H=>RN A B G H) k hs L rest h hS j
end
section
variable {P:Program} {r:Option Nat} {n:Nat} {B:BS} {w0:World} {ops:Array Oper} {M:List (Nat×List Value)} {D:List Deferred} {L L':List (Nat×Value)} {C:List av} {Q:cZ} {rest rest':List Oper} {S:List Prop} {F:List (Nat×Value)→Prop}
theorem fE (k:Nat) (hs:List Nat) (hM:MM C M) (h:pr TT n ops M k hs L rest=some (L',rest',S)) (j:RJ ⟨P,r,n,B,w0⟩ ops Q rest' D L' C) (hS:o6 S:=by repeat' first|exact True.intro |refine j8 ?_ ?_ |exact rfl|omega|(dsimp only; omega)) (hT:kZ P TT:=by exact pT):RJ ⟨P,r,n,B,w0⟩ ops Q rest D L C:=rP k hs hM j hT h rfl hS
theorem mI (k:Nat) (hs:List Nat) (hM:MM C M) (h:pr TT n ops M k hs L rest=some (L',rest',S)) (j:DJ ⟨P,r,n,B,w0⟩ ops D C F rest' L') (hS:o6 S:=by repeat' first|exact True.intro |refine j8 ?_ ?_ |exact rfl|omega|(dsimp only; omega)) (hT:kZ P TT:=by exact pT):DJ ⟨P,r,n,B,w0⟩ ops D C F rest L:=dP k hs hM j hT h rfl hS
theorem bg (k:Nat) (h:pr TT n ops [] k [] L rest=some (L',rest',S)) (j:RJ ⟨P,r,n,B,w0⟩ ops Q rest' D L' C) (hS:o6 S:=by repeat' first|exact True.intro |refine j8 ?_ ?_ |exact rfl|omega|(dsimp only; omega)) (hT:kZ P TT:=by exact pT):RJ ⟨P,r,n,B,w0⟩ ops Q rest D L C:=rP k [] I j hT h rfl hS
theorem lz (k:Nat) (h:pr TT n ops [] k [] L rest=some (L',rest',S)) (j:DJ ⟨P,r,n,B,w0⟩ ops D C F rest' L') (hS:o6 S:=by repeat' first|exact True.intro |refine j8 ?_ ?_ |exact rfl|omega|(dsimp only; omega)) (hT:kZ P TT:=by exact pT):DJ ⟨P,r,n,B,w0⟩ ops D C F rest L:=dP k [] I j hT h rfl hS
end
end
section
open Go.RowKit
/-- parts of a context, reckoned to the end -/
def o2 (C:List av):List Nat→Option (List av)
 |[]=>some []
 |i::is=>match C[i]? with
  |some A=>match o2 C is with
   |some l=>some (A::l)
   |none=>none
  |none=>none
theorem jF {C:List av}: ∀ {is:List Nat} {C':List av},o2 C is=some C'→kj C is=C'
 |[],C',h=>by cases h; rfl
 |i::is,C',h=>by
  unfold o2 at h
  split at h
  ·rename_i A hA
   split at h
   ·rename_i l hl
    cases h
    show List.filterMap (C[·]?) (i::is)=A::l
    rw [List.filterMap_cons_some hA]
    exact congrArg _ (jF hl)
   ·cases h
  ·cases h
/-- a part of a context in place of the whole -/
theorem aK {S:BS} {w0:World} {C C':List av} (is:List Nat) (hn:decide is.Nodup=true:=by rfl) (hC:kj C is=C':=by rfl): ∀ w,St S w0 C w→St S w0 C' w:=fun w h=>St.kj is hn hC h
theorem SO {S:BS} {w0:World} {C C':List av} (is:List Nat) (hC:o2 C is=some C') (hn:decide is.Nodup=true:=by rfl): ∀ w,St S w0 C w→St S w0 C' w:=fun w h=>St.kj is hn (jF hC) h
def Oi (C:List av) (i:Nat) (B:av):Option (List av):=match i,C with
 |0,_::C=>some (B::C)
 |i+1,A::C=>match Oi C i B with
  |some l=>some (A::l)
  |none=>none
 |_,[]=>none
theorem Fz: ∀ {C:List av} {i:Nat} {B:av} {C':List av},Oi C i B=some C'→C.set i B=C'
 |[],0,B,C',h=>by cases h
 |[],i+1,B,C',h=>by cases h
 |A::C,0,B,C',h=>by cases h; rfl
 |A::C,i+1,B,C',h=>by
  unfold Oi at h
  split at h
  ·rename_i l hl
   cases h
   exact congrArg _ (Fz hl)
  ·cases h
theorem fm {E:ff} {K:Act→World→Prop} {D:List Deferred} {L:List (Nat×Value)} {C C':List av} {A B:av} (i:Nat) (hC:C[i]? =some A) (hh:(∀ w,A.holds w→B.holds w)∧(∀ b,B.fq b→A.fq b)∧ ∀ b,B.wf b→A.wf b) (hC':Oi C i B=some C') (h:KJ E K D L C'):KJ E K D L C:=KC i hC hh (Fz hC') h
/-- the operations of a region but these; marks of some places -/
def UP (n:Nat) (T:List Nat):List Nat:=(List.range n).filter fun i=> !T.contains i
def Vd (k:Nat) (t:List Nat):List Bool:=(List.range k).map fun i=>t.contains i
theorem dR {E:ff} {id:Nat} {ops:Array Oper} {Q:cZ} {D:List Deferred} {L:List (Nat×Value)} {C:List av} (hm:E.P.follows .mixedOrders=true) (T fe tb i1 i2:List Nat) {C' C1:List av} {free:List Nat} {QQ tbb:List Bool}
 (h1:o2 C i1=some C') (h2:o2 C i2=some C1) (hf:free=UP ops.size T) (hfe:QQ=Vd free.length fe) (htb:tbb=Vd T.length tb)
 (h:pW E ops D C' C1 (fun L'=>TJ E ops D C' C1 (fun L C=>KJ E (Q .normal) D L C) tbb (eV ops T) L' C) QQ (eV ops free) L)
 (hc:MF ops free T QQ tbb=true:=by kernel_rfl) (n1:decide i1.Nodup=true:=by rfl) (n2:decide i2.Nodup=true:=by rfl):WJ E (.region id ops true) Q D L C:=
 MY hm free T QQ tbb C' C1 hc (SO i1 h1 n1) (SO i2 h2 n2) h
end
section
open Go.RowKit
def vE (T:Dh) (M:List (Nat×List Value)) (L:List (Nat×Value)):List ResultVar→List Nat→Option (List Value×List Prop)
 |[],_=>some ([],[])
 | .tmp t::rs,hs=>match L.lookup t with
  |some v=>match vE T M L rs hs with
   |some (vs,S)=>some (v::vs,S)
   |none=>none
  |none=>none
 | .cell a t::rs,hs=>match L.lookup a with
  |some (.pointer (some ⟨b,o,none⟩))=>match M[hs.headD 0]? with
   |some (b',cs)=>match T.Ie t with
    |some (false,_)=>match cs[o]? with
     |some v=>match vE T M L rs hs.tail with
      |some (vs,S)=>some (v::vs,(b'=b)::S)
      |none=>none
     |none=>none
    |some (true,n)=>match Nat.beq o 0 with
     |true=>match Nat.beq cs.length n with
      |true=>match vE T M L rs hs.tail with
       |some (vs,S)=>some (.agg cs.toArray::vs,(b'=b)::S)
       |none=>none
      |false=>none
     |false=>match vE T M L rs hs.tail with
      |some (vs,S)=>some (.agg ((cs.drop o).take n).toArray::vs,(b'=b)::(((cs.drop o).take n).length=n)::S)
      |none=>none
    |none=>none
   |none=>none
  |_=>none
theorem n9 {P:Program} {T:Dh} {M:List (Nat×List Value)} {L:List (Nat×Value)} {C:List av} (hT:kZ P T) (hM:MM C M): ∀ (rs:List ResultVar) (hs:List Nat) {vs:List Value} {S:List Prop},vE T M L rs hs=some (vs,S)→o6 S→Hx P L C rs vs
 |[],_,vs,S,h,hS=>by unfold vE at h; cases h; exact trivial
 | .tmp t::rs,hs,vs,S,h,hS=>by
  unfold vE at h
  split at h
  ·rename_i v hv
   split at h
   ·rename_i vs' S' hr
    cases h
    exact ⟨hv,n9 hT hM rs hs hr hS⟩
   ·cases h
  ·cases h
 | .cell a t::rs,hs,vs,S,h,hS=>by
  unfold vE at h
  split at h
  ·rename_i b o hl
   split at h
   ·rename_i b' cs hm
    have A:=aX hm
    split at h
    ·rename_i hk
     split at h
     ·rename_i v hv
      split at h
      ·rename_i vs' S' hr
       cases h
       obtain ⟨rfl,hS⟩:=hS
       exact ⟨⟨_,hl,.inr ⟨_,hT.Ie hk,hM _ A _ _ (u7 hv)⟩⟩,n9 hT hM rs _ hr hS⟩
      ·cases h
     ·cases h
    ·rename_i n hk
     split at h
     ·rename_i ho
      split at h
      ·rename_i hn
       split at h
       ·rename_i vs' S' hr
        cases h
        obtain ⟨rfl,hS⟩:=hS
        have D:=Nat.eq_of_beq_eq_true ho
        subst D
        exact ⟨⟨_,hl,.inl ⟨_,cs,hT.Ie hk,hM _ A 0 cs sm,Nat.eq_of_beq_eq_true hn,U⟩⟩,n9 hT hM rs _ hr hS⟩
       ·cases h
      ·cases h
     ·split at h
      ·rename_i vs' S' hr
       cases h
       obtain ⟨rfl,B,hS⟩:=hS
       exact ⟨⟨_,hl,.inl ⟨_,_,hT.Ie hk,hM _ A o _ (by rw [B]),B,U⟩⟩,n9 hT hM rs _ hr hS⟩
      ·cases h
    ·cases h
   ·cases h
  ·cases h
section
variable {P:Program} {n:Nat} {fn:Func} {w0:World} {K:Act→World→Prop} {L:List (Nat×Value)} {C:List av} {M:List (Nat×List Value)} {vs:List Value} {S:List Prop} {u x v:Value}
theorem H2 (hQ: ∀ D L C,LJ ⟨P,none,n,td,w0⟩ fn (Bq w0 v) D L C→KJ ⟨P,none,n,td,w0⟩ K D L C) (hs:List Nat) (hM:MM C M) (h:vE TT M L fn.results.toList hs=some ([u],S)) (e:u=v) (hS:o6 S:=by repeat' first|exact True.intro |refine j8 rfl ?_) (hT:kZ P TT:=by exact pT):KJ ⟨P,none,n,td,w0⟩ K [] L C:=
 hQ _ _ _ (gW (n9 hT hM _ _ h hS) fun w hs=>Du e hs)
theorem lk (hQ: ∀ D L C,LJ ⟨P,none,n,td,w0⟩ fn (Bq w0 v) D L C→KJ ⟨P,none,n,td,w0⟩ K D L C) (hs:List Nat) (hM:MM C M) (h:vE TT M L fn.results.toList hs=some (u::x::vs,S)) (e:Value.tuple (u::x::vs).toArray=v) (hS:o6 S:=by repeat' first|exact True.intro |refine j8 rfl ?_) (hT:kZ P TT:=by exact pT):KJ ⟨P,none,n,td,w0⟩ K [] L C:=
 hQ _ _ _ (gW (n9 hT hM _ _ h hS) fun w hs=>Du e hs)
theorem LX {α:Type} {V:α→Value} {p:α→Prop} {N:α→List av} (hQ: ∀ D L C,LJ ⟨P,none,n,td,w0⟩ fn (Kf w0 V p N) D L C→KJ ⟨P,none,n,td,w0⟩ K D L C) (x:α) (is hs:List Nat) (hM:MM C M) (h:vE TT M L fn.results.toList hs=some (vs,S)) (hw:(N x).all (·.wr)=true) (hN:kj C is=N x) (hV:QH vs=V x) (hp:p x) (hn:decide is.Nodup=true:=by rfl) (hS:o6 S:=by repeat' first|exact True.intro |refine j8 rfl ?_) (hT:kZ P TT:=by exact pT):KJ ⟨P,none,n,td,w0⟩ K [] L C:=
 hQ _ _ _ (gW (n9 hT hM _ _ h hS) fun w hs=>I9 x is hV hp hn hN hw hs)
theorem LM {A:av} {α:Type} {V:α→Value} {p:α→Prop} {A':α→av} (hQ: ∀ D L C,LJ ⟨P,none,n,⟨A.wf,fun _=>True⟩,w0⟩ fn (N8 w0 A V p A') D L C→KJ ⟨P,none,n,⟨A.wf,fun _=>True⟩,w0⟩ K D L C) (x:α) (i:Nat) (hs:List Nat) (hM:MM C M) (h:vE TT M L fn.results.toList hs=some (vs,S)) (hw:(A' x).wr=true) (hC:C[i]? =some (A' x)) (hV:QH vs=V x) (hp:p x) (hS:o6 S:=by repeat' exact True.intro) (hT:kZ P TT:=by exact pT):KJ ⟨P,none,n,⟨A.wf,fun _=>True⟩,w0⟩ K [] L C:=
 hQ _ _ _ (gW (n9 hT hM _ _ h hS) fun w hs=>SL x i hV hp hC hw hs)
end
end
section
open Go.RowKit
def EU {α:Type _}:List α→List α→Option (List α)
 |[],m=>some m
 |a::l,m=>match EU l m with
  |some r=>some (a::r)
  |none=>none
theorem Ga {α:Type _}: ∀ {l m r:List α},EU l m=some r→l++m=r
 |[],m,r,h=>by cases h; rfl
 |a::l,m,r,h=>by
  unfold EU at h
  split at h
  ·rename_i r' hr
   cases h
   exact congrArg (a:: ·) (Ga hr)
  ·cases h
def To (L:List (Nat×Value)):List Nat→Option (List (Nat×Value))
 |[]=>some []
 |t::ts=>match L.lookup t with
  |some v=>match To L ts with
   |some r=>some ((t,v)::r)
   |none=>none
  |none=>none
theorem FR {L M:List (Nat×Value)} (k:dx L M): ∀ {ts:List Nat} {r:List (Nat×Value)},To L ts=some r→dx L (r++M)
 |[],r,h=>by cases h; exact k
 |t::ts,r,h=>by
  unfold To at h
  split at h
  ·rename_i v hv
   split at h
   ·rename_i r' hr
    cases h
    exact dx.cons hv (FR k hr)
   ·cases h
  ·cases h
section
variable {E:ff} {Q:cZ} {D:List Deferred} {L L0:List (Nat×Value)} {C C0:List av} {ι:Type} {Li:ι→List (Nat×Value)} {Ci:ι→List av}
theorem bO {c:Code} (kL kC:List Nat) (hL:To L kL=some L0) (hC0:o2 C kC=some C0) (S:ι→List (Nat×Value)) (G:ι→List av) (hLi: ∀ x,EU L0 (S x)=some (Li x)) (hCi: ∀ x,EU C0 (G x)=some (Ci x)) (μ:ι→Nat) (x0:ι)
 (h0:dx L (S x0)) (hC: ∀ w,St E.S E.w0 C w→St E.S E.w0 (Ci x0) w)
 (round: ∀ x (J:Act→World→Prop),(∀ y D' L' C',D'=D→μ y<μ x→dx L' (Li y)→(∀ w,St E.S E.w0 C' w→St E.S E.w0 (Ci y) w)→KJ E J D' L' C')→WJ E c (Exit.then J Q) D (Li x) (Ci x)):WJ E (.loop c) Q D L C:=
 Pm Li Ci μ x0 (Ga (hLi x0)▸FR h0 hL) hC round
theorem mN {x y:Code} (kL kC:List Nat) (hL:To L kL=some L0) (hC0:o2 C kC=some C0) (S:ι→List (Nat×Value)) (G:ι→List av) (hLi: ∀ x,EU L0 (S x)=some (Li x)) (hCi: ∀ x,EU C0 (G x)=some (Ci x))
 (hy: ∀ z,WJ E y Q D (Li z) (Ci z)) (h: ∀ K:Act→World→Prop,(∀ z,KJ E K D (Li z) (Ci z))→WJ E x (Exit.then K Q) D L C):WJ E (.seq x y) Q D L C:=Qg Li Ci hy h
end
end
section
open Go.RowKit
set_option linter.unusedSectionVars false
/-- what is asked of keys -/
structure uq (P:Program) (kt:Nat) {K:Type} (kV:K→Value):Prop where
 check: ∀ (e:Bool) (x:K) (w:World),(Instr.checkKey e 10000 kt (kV x)).run P w= .ok () w
 find: ∀ (x:K) (w:World) (es:List MapEntry),(∀ e∈es,∃ k,e.key=kV k)→
  ((Instr.findKey kt (kV x) es).run P w= .ok none w∧ ∀ e∈es,e.key≠kV x)∨ ∃ j e,(Instr.findKey kt (kV x) es).run P w= .ok (some (j,e.val)) w∧es[j]? =some e∧e.key=kV x
 bits: ∀ x,Instr.sameBits 10000 (kV x) (kV x)=true
 inj: ∀ x y,kV x=kV y→x=y
section
variable {K:Type} [DecidableEq K] {kV:K→Value}
def dK {β:Type} (l:List (K×β)) (x:K) (y:β):List (K×β):=if (l.lookup x).isSome then l.map (fun p=>if p.1=x then (x,y) else p) else l++[(x,y)]
def cd {β:Type} (l:List (K×β)) (x:K):List (K×β):=l.filter fun p=> !decide (p.1=x)
def bM {β γ:Type} (f:β→γ) (l:List (K×β)):List (K×γ):=l.map fun p=>(p.1,f p.2)
theorem Gl {β γ:Type} (f:β→γ) (l:List (K×β)):(bM f l).length=l.length:=by simp [bM]
theorem mQ {β γ:Type} (f:β→γ) (x:K): ∀ l:List (K×β),(bM f l).lookup x=(l.lookup x).map f
 |[]=>rfl
 |p::l=>by
  obtain ⟨k,v⟩:=p
  have ih:=mQ f x l
  by_cases h:x=k
  ·subst h; simp [bM,List.lookup]
  ·have:(x==k)=false:=by simpa using h
   simp only [bM,List.map_cons,List.lookup,this] at ih ⊢
   exact ih
theorem gE {β γ:Type} (f:β→γ) (l:List (K×β)) (x:K) (y:β):bM f (dK l x y)=dK (bM f l) x (f y):=by
 unfold dK
 rw [mQ,Option.isSome_map]
 split
 ·simp only [bM,List.map_map]
  refine List.map_congr_left fun p _=>?_
  simp only [Function.comp]
  split<;>rfl
 ·simp [bM]
theorem lJ {β γ:Type} (f:β→γ) (l:List (K×β)) (x:K):bM f (cd l x)=cd (bM f l) x:=by
 unfold cd bM
 rw [List.filter_map]
 rfl
theorem iv {β:Type} {x:K}: ∀ {l:List (K×β)},l.lookup x=none↔ ∀ p∈l,p.1≠x
 |[]=>by simp
 |p::l=>by
  obtain ⟨k,v⟩:=p
  by_cases h:x=k
  ·subst h; simp [List.lookup]
  ·have hb:(x==k)=false:=by simpa using h
   simp only [List.lookup,hb,eA,forall_eq_or_imp]
   rw [iv (l:=l)]
   exact ⟨fun q=>⟨fun e=>h e.symm,q⟩,fun q=>q.2⟩
theorem iD {β:Type} {x:K} {y:β}: ∀ {l:List (K×β)},(l.map (·.1)).Nodup→((x,y)∈l↔l.lookup x=some y)
 |[],_=>by simp
 |p::l,hn=>by
  obtain ⟨k,v⟩:=p
  simp only [List.map_cons,List.nodup_cons] at hn
  by_cases h:x=k
  ·subst h
   simp only [List.lookup,beq_self_eq_true,eA,Prod.mk.injEq,true_and,Option.some.injEq]
   constructor
   ·rintro (e|e)
    ·exact e.symm
    ·exact absurd (List.mem_map.2 ⟨_,e,U⟩) hn.1
   ·intro e; exact .inl e.symm
  ·have hb:(x==k)=false:=by simpa using h
   simp only [List.lookup,hb,eA,Prod.mk.injEq,h,false_and,false_or]
   exact iD hn.2
structure iR (kV:K→Value) (es:Array MapEntry) (c:Nat) (m:List (K×Value)):Prop where
 list:es.toList.map (fun (e:MapEntry)=>(e.key,e.val))=m.map (fun p=>(kV p.1,p.2))
 keys:(m.map (·.1)).Nodup
 Ki: ∀ e∈es.toList,e.born<c
 born:(es.toList.map (·.born)).Nodup
def gZ (kV:K→Value) (b:Nat) (m:List (K×Value)):av where
 fq k:=k=b
 wf k:=k=b
 holds w:= ∃ es c,w.heap[b]? =some (.map es c)∧iR kV es c m
 wr:=true
 kv _ h:=h
 whole _ _ h:=h
 lt w h k hk:=by obtain ⟨es,c,he,_⟩:=h; exact hk▸ek he
 oi w w' hk h:=by obtain ⟨es,c,he,hm⟩:=h; exact ⟨es,c,(hk b rfl).trans he,hm⟩
theorem iR.nil:iR kV #[] 0 []:=⟨rfl,List.nodup_nil,sm,List.nodup_nil⟩
theorem iR.size {es:Array MapEntry} {c:Nat} {m:List (K×Value)} (h:iR kV es c m):es.size=m.length:=by
 have:=congrArg List.length h.list
 simpa using this
theorem D3 {P:Program} {kt:Nat} (hk:uq P kt kV) (x:K): ∀ (es:List MapEntry) (m:List (K×Value)),es.map (fun (e:MapEntry)=>(e.key,e.val))=m.map (fun p=>(kV p.1,p.2))→
 ((∀ e∈es,e.key≠kV x)→m.lookup x=none)∧ ∀ (j:Nat) (e:MapEntry),es[j]? =some e→e.key=kV x→m[j]? =some (x,e.val):=by
 intro es m h
 refine ⟨fun hn=>iv.2 fun p hp e=>?_,fun j e he hx=>?_⟩
 ·have:(kV p.1,p.2)∈es.map (fun (e:MapEntry)=>(e.key,e.val)):=by rw [h]; exact List.mem_map.2 ⟨p,hp,rfl⟩
  obtain ⟨z,hz,B⟩:=List.mem_map.1 this
  simp only [Prod.mk.injEq] at B
  exact hn z hz (by rw [B.1,e])
 ·have A:(es.map (fun (e:MapEntry)=>(e.key,e.val)))[j]? =some (e.key,e.val):=by rw [fB,he]; rfl
  rw [h,fB] at A
  cases hm:m[j]? with
  |none=>simp [hm] at A
  |some p=>
   simp only [hm,Option.map_some,Option.some.injEq,Prod.mk.injEq] at A
   have:=hk.inj _ _ (A.1.trans hx)
   obtain ⟨k,v⟩:=p
   simp only at this A
   rw [this,A.2]
theorem oL {P:Program} {w:World} {kt:Nat} {x:K} {es:Array MapEntry} {c:Nat} {m:List (K×Value)} (hk:uq P kt kV) (h:iR kV es c m):
 ((Instr.findKey kt (kV x) es.toList).run P w= .ok none w∧m.lookup x=none)∨
 ∃ j v,(Instr.findKey kt (kV x) es.toList).run P w= .ok (some (j,v)) w∧m[j]? =some (x,v)∧m.lookup x=some v:=by
 obtain ⟨D,E⟩:=D3 hk x es.toList m h.list
 rcases hk.find x w es.toList (fun e he=>by
  have:(e.key,e.val)∈m.map (fun p=>(kV p.1,p.2)):=by rw [← h.list]; exact List.mem_map.2 ⟨e,he,rfl⟩
  obtain ⟨p,_,hp⟩:=List.mem_map.1 this
  simp only [Prod.mk.injEq] at hp
  exact ⟨p.1,hp.1.symm⟩) with ⟨A,B⟩|⟨j,e,A,B,C⟩
 ·exact .inl ⟨A,D B⟩
 ·have:=E j e B C
  exact .inr ⟨j,e.val,A,this,(iD h.keys).1 (aX this)⟩
theorem iH {P:Program} {w:World} {kt:Nat} {x:K} (hk:uq P kt kV) (e:Bool):(Instr.checkKey e 10000 kt (kV x)).run P w= .ok () w:=hk.check e x w
section
variable {E:ff} {ops:Array Oper} {Q:cZ} {rest:List Oper} {D:List Deferred} {L:List (Nat×Value)} {C:List av}
variable {dst:Option Tmp} {d:Nat} {ty:TypeId} {ps:String} {af:Array Edge} {g:Option (Nat×Bool)}
theorem mz {t:TypeId} (hg:ju ops L g=true) (hd:Nat.blt d E.n=true) (k: ∀ b,RJ E ops Q rest D ((d,.map (some b))::L) (gZ kV b []::C)):RJ E ops Q (⟨some d,.makeMap t none,ty,ps,af,g⟩::rest) D L C:=by
 intro a w B hs
 have hd':d<E.n:=by rw [← Nat.blt_eq]; exact hd
 unfold rq
 rw [if_pos (d_ B hg)]
 refine gO (v:= .map (some w.heap.size)) (w':=w.alloc (.map #[] 0)) sm ?_ ?_
 ·simp [execOp,Instr.makeMap,newObj,Sem.run]
 ·refine k _ _ _ (B.put hd' _) (hs.grow (dY.alloc no w _) (N:=[gZ kV w.heap.size []]) ⟨fun A hA=>?_,fun A hA b hb=>?_,List.pairwise_singleton _ _⟩)
  ·simp at hA; subst hA; exact ⟨#[],0,heap_alloc_new w _,iR.nil⟩
  ·simp at hA; subst hA; exact Nat.le_of_eq (Eq.symm hb)
theorem iR.push {es:Array MapEntry} {c:Nat} {m:List (K×Value)} (h:iR kV es c m) {x:K} (hx:m.lookup x=none) (v:Value):iR kV (es.push {key:=kV x,val:=v,born:=c}) (c+1) (m++[(x,v)]):=by
 refine ⟨by simp [h.list],?_,?_,?_⟩
 ·rw [List.map_append,List.nodup_append]
  refine ⟨h.keys,sm,fun a ha b hb=>?_⟩
  simp at hb; subst hb
  obtain ⟨p,hp,rfl⟩:=List.mem_map.1 ha
  exact iv.1 hx p hp
 ·intro e he
  simp only [Array.toList_push,kM,bW] at he
  rcases he with he|rfl
  ·exact Nat.lt_succ_of_lt (h.Ki e he)
  ·exact Nat.lt_succ_self _
 ·simp only [Array.toList_push,List.map_append,List.map_cons,List.map_nil]
  rw [List.nodup_append]
  refine ⟨h.born,sm,fun a ha b hb=>?_⟩
  simp at hb; subst hb
  obtain ⟨p,hp,rfl⟩:=List.mem_map.1 ha
  exact Nat.ne_of_lt (h.Ki p hp)
theorem NC {m:List (K×Value)} {j:Nat} {x:K} {v0 v:Value} (hn:(m.map (·.1)).Nodup) (hj:m[j]? =some (x,v0)):m.map (fun p=>if p.1=x then (x,v) else p)=m.set j (x,v):=by
 refine List.ext_getElem? fun i=>?_
 rw [fB,List.getElem?_set]
 by_cases e:j=i
 ·subst e
  have hl:=(List.getElem?_eq_some_iff.1 hj).1
  rw [hj]; simp [hl]
 ·rw [if_neg e]
  cases hi:m[i]? with
  |none=>rfl
  |some p=>
   simp only [Option.map_some]
   rw [if_neg]
   intro hp
   have B:(m.map (·.1))[i]? =some x:=by rw [fB,hi]; simp [hp]
   have C:(m.map (·.1))[j]? =some x:=by rw [fB,hj]; rfl
   have A:=(List.getElem?_eq_some_iff.1 B).1
   exact e (((List.getElem?_inj A hn).1 (B.trans C.symm)).symm)
theorem iR.set {es:Array MapEntry} {c:Nat} {m:List (K×Value)} (h:iR kV es c m) {x:K} {j:Nat} {v0:Value} (hj:m[j]? =some (x,v0)) (hx:m.lookup x=some v0) (v:Value):
 iR kV (es.modify j fun e=>{e with key:=kV x,val:=v}) c (dK m x v):=by
 have C:dK m x v=m.set j (x,v):=by unfold dK; rw [hx]; simpa using NC h.keys hj
 have hl:=(List.getElem?_eq_some_iff.1 hj).1
 have E:=h.size
 have A:j<es.size:=by omega
 have B:(es.modify j fun e=>{e with key:=kV x,val:=v}).toList=es.toList.set j {(es[j]) with key:=kV x,val:=v}:=by
  refine List.ext_getElem? fun i=>?_
  rw [Array.getElem?_toList,Array.getElem?_modify,List.getElem?_set]
  by_cases e:j=i
  ·subst e; simp [A]
  ·simp [e]
 have D:(es.toList.set j {(es[j]) with key:=kV x,val:=v}).map (·.born)=es.toList.map (·.born):=by
  rw [List.map_set]
  refine List.ext_getElem? fun i=>?_
  rw [List.getElem?_set]
  by_cases e:j=i
  ·subst e; simp [A]
  ·rw [if_neg e]
 refine ⟨?_,?_,?_,?_⟩
 ·rw [B,C,List.map_set,List.map_set,h.list]
 ·rw [C,List.map_set]
  have:(m.map (·.1)).set j x=m.map (·.1):=by
   refine List.ext_getElem? fun i=>?_
   rw [List.getElem?_set]
   by_cases e:j=i
   ·subst e; simp [hl]; simpa using (congrArg Prod.fst ((List.getElem?_eq_some_iff.1 hj).2)).symm
   ·rw [if_neg e]
  simp only [this]
  exact h.keys
 ·intro e he
  rw [B] at he
  have hb:e.born∈(es.toList.set j {(es[j]) with key:=kV x,val:=v}).map (·.born):=List.mem_map.2 ⟨e,he,rfl⟩
  rw [D] at hb
  obtain ⟨e',he',hq⟩:=List.mem_map.1 hb
  rw [← hq]; exact h.Ki e' he'
 ·rw [B,D]; exact h.born
/-- m[x] = y -/
theorem iu {t kt et:TypeId} {xm xk xv:Operand} {b:Nat} {x:K} {v:Value} {m m':List (K×Value)} {C':List av} (i:Nat) (hg:ju ops L g=true) (hm:ev L xm=some (.map (some b))) (hk:ev L xk=some (kV x)) (hv:ev L xv=some v)
 (ht:E.P.underlying t=some (.map kt et)) (hkt:uq E.P kt kV) (hC:C[i]? =some (gZ kV b m)) (hm':dK m x v=m') (hC':C.set i (gZ kV b m')=C') (k:RJ E ops Q rest D L C'):
 RJ E ops Q (⟨none,.mapUpdate t xm xk xv,ty,ps,af,g⟩::rest) D L C:=by
 subst hm' hC'
 intro a w A hs
 unfold rq
 rw [if_pos (d_ A hg)]
 obtain ⟨es,c,he,hi⟩:=hs.holds _ (aX hC)
 have B:(getObj b).run E.P w= .ok (.map es c) w:=MapKept.run_getObj_map he
 rcases oL (P:=E.P) (w:=w) (x:=x) hkt hi with ⟨AA,F⟩|⟨j,N,AA,F,J⟩
 ·refine re (w':={w with heap:=w.heap.setIfInBounds b (.map (es.push {key:=kV x,val:=v,born:=c}) (c+1))}) sm ?_ ?_
  ·simp [execOp,A.ev hm,A.ev hk,A.ev hv,Instr.mapUpdate,run_underlying ht,B,iH hkt,AA,MapKept.run_setObj_map _ he]
  ·refine k _ _ ⟨A.defers,A.size,A.at_⟩ (hs.Dg (b:=b) i hC U U (mV _) (fun _ h=>h) ⟨_,_,o4 he,?_⟩)
   have:dK m x v=m++[(x,v)]:=by unfold dK; rw [F]; rfl
   rw [this]; exact hi.push F v
 ·have M:=hi.size
  have G:j<es.size:=by have:=(List.getElem?_eq_some_iff.1 F).1; omega
  have H:(es[j]).key=kV x:=by
   have:=congrArg (fun l=>l[j]?) hi.list
   simp [G,F] at this
   exact this.1
  refine re (w':={w with heap:=w.heap.setIfInBounds b (.map (es.modify j fun e=>{e with key:=kV x,val:=v}) c)}) sm ?_ ?_
  ·simp [execOp,A.ev hm,A.ev hk,A.ev hv,Instr.mapUpdate,run_underlying ht,B,iH hkt,AA,MapKept.run_setObj_map _ he,Instr.keyThatStays,G,H,hkt.bits x]
  ·exact k _ _ ⟨A.defers,A.size,A.at_⟩ (hs.Dg (b:=b) i hC U U (mV _) (fun _ h=>h) ⟨_,_,o4 he,hi.set F J v⟩)
theorem iR.del {es:Array MapEntry} {c:Nat} {m:List (K×Value)} (h:iR kV es c m) {x:K} {j:Nat} {v0:Value} (hj:m[j]? =some (x,v0)):iR kV (es.eraseIdxIfInBounds j) c (cd m x):=by
 have hl:=(List.getElem?_eq_some_iff.1 hj).1
 have D:=h.size
 have A:j<es.size:=by omega
 have B:(es.eraseIdxIfInBounds j).toList=es.toList.eraseIdx j:=by simp [Array.eraseIdxIfInBounds,A]
 have E:cd m x=m.eraseIdx j:=by
  have hn:=h.keys
  clear h D A B
  induction m generalizing j with
  |nil=>simp at hj
  |cons p m ih=>
   obtain ⟨k,v⟩:=p
   simp only [List.map_cons,List.nodup_cons] at hn
   cases j with
   |zero=>
    simp at hj
    obtain ⟨rfl,rfl⟩:=hj
    simp only [cd,List.eraseIdx_zero,List.tail_cons]
    rw [List.filter_cons_of_neg sm]
    refine List.filter_eq_self.2 fun p hp=>?_
    have:p.1≠k:=fun e=>hn.1 (List.mem_map.2 ⟨p,hp,e⟩)
    simpa using this
   |succ j=>
    simp only [List.getElem?_cons_succ] at hj
    have C:k≠x:=fun e=>hn.1 (List.mem_map.2 ⟨_,aX hj,e.symm⟩)
    simp only [cd,List.eraseIdx_cons_succ] at ih ⊢
    rw [List.filter_cons_of_pos (by simpa using C),ih hj (by simpa using (List.getElem?_eq_some_iff.1 hj).1) hn.2]
 have sub:(es.eraseIdxIfInBounds j).toList.Sublist es.toList:=by rw [B]; exact List.eraseIdx_sublist _ _
 refine ⟨?_,?_,fun e he=>h.Ki e (sub.subset he),h.born.sublist (sub.map _)⟩
 ·rw [B,E,ChangeMaps.map_eraseIdx,ChangeMaps.map_eraseIdx,h.list]
 ·rw [E]; exact h.keys.sublist ((List.eraseIdx_sublist _ _).map _)
theorem Eh {m:List (K×Value)} {x:K} (h:m.lookup x=none):cd m x=m:=List.filter_eq_self.2 fun p hp=>by simpa using iv.1 h p hp
/-- y, ok := m[x] -/
theorem Kh {t kt et:TypeId} {xm xk:Operand} {b:Nat} {x:K} {z:Value} {m:List (K×Value)} (hg:ju ops L g=true) (hm:ev L xm=some (.map (some b))) (hk:ev L xk=some (kV x))
 (ht:E.P.underlying t=some (.map kt et)) (hkt:uq E.P kt kV) (hz:tV E.P et=some z) (hC:jc C (gZ kV b m).holds):
 SD E ops ⟨dst,.lookup t xm xk true,ty,ps,af,g⟩ D L C (.tuple [(m.lookup x).getD z,.bool (m.lookup x).isSome].toArray):=
 dJ hg sm fun a w A hs=>by
  obtain ⟨es,c,he,hi⟩:=hs.has hC
  have B:(getObj b).run E.P w= .ok (.map es c) w:=MapKept.run_getObj_map he
  rcases oL (P:=E.P) (w:=w) (x:=x) hkt hi with ⟨F,G⟩|⟨j,AA,F,G,H⟩
  ·simp [execOp,Instr.lookup,A.ev hm,A.ev hk,run_underlying ht,B,iH hkt,F,G,J1 hz]
  ·simp [execOp,Instr.lookup,A.ev hm,A.ev hk,run_underlying ht,B,iH hkt,F,H]
/-- m[x] -/
theorem GJ {t kt et:TypeId} {xm xk:Operand} {b:Nat} {x:K} {z:Value} {m:List (K×Value)} (hg:ju ops L g=true) (hm:ev L xm=some (.map (some b))) (hk:ev L xk=some (kV x))
 (ht:E.P.underlying t=some (.map kt et)) (hkt:uq E.P kt kV) (hz:tV E.P et=some z) (hC:jc C (gZ kV b m).holds):
 SD E ops ⟨dst,.lookup t xm xk false,ty,ps,af,g⟩ D L C ((m.lookup x).getD z):=
 dJ hg sm fun a w A hs=>by
  obtain ⟨es,c,he,hi⟩:=hs.has hC
  have B:(getObj b).run E.P w= .ok (.map es c) w:=MapKept.run_getObj_map he
  rcases oL (P:=E.P) (w:=w) (x:=x) hkt hi with ⟨F,G⟩|⟨j,AA,F,G,H⟩
  ·simp [execOp,Instr.lookup,A.ev hm,A.ev hk,run_underlying ht,B,iH hkt,F,G,J1 hz]
  ·simp [execOp,Instr.lookup,A.ev hm,A.ev hk,run_underlying ht,B,iH hkt,F,H]
/-- len(m) -/
theorem Iw {t kt et:TypeId} {xm:Operand} {b:Nat} {m:List (K×Value)} (hg:ju ops L g=true) (hm:ev L xm=some (.map (some b))) (ht:E.P.underlying t=some (.map kt et)) (hC:jc C (gZ kV b m).holds):
 SD E ops ⟨dst,.call {callee:= .builtin .len,args:= #[xm],argTypes:= #[t]},ty,ps,af,g⟩ D L C (.int .i64 (m.length:Int)):=
 dJ hg sm fun a w B hs=>by
  obtain ⟨es,c,he,hi⟩:=hs.has hC
  have A:(getObj b).run E.P w= .ok (.map es c) w:=MapKept.run_getObj_map he
  simp [execOp,resolve,invoke,builtin,B.ev hm,Builtin.len_,run_underlying ht,A,hi.size,goInt]
theorem jZ {β:Type} {t kt et:TypeId} {xm xk:Operand} {b:Nat} {x:K} {f:β→Value} {z:β} {l:List (K×β)} (hg:ju ops L g=true) (hm:ev L xm=some (.map (some b))) (hk:ev L xk=some (kV x))
 (ht:E.P.underlying t=some (.map kt et)) (hkt:uq E.P kt kV) (hz:tV E.P et=some (f z)) (hC:jc C (gZ kV b (bM f l)).holds):
 SD E ops ⟨dst,.lookup t xm xk true,ty,ps,af,g⟩ D L C (.tuple [f ((l.lookup x).getD z),.bool (l.lookup x).isSome].toArray):=by
 have:=Kh (dst:=dst) (ty:=ty) (ps:=ps) (af:=af) (D:=D) hg hm hk ht hkt hz hC
 rw [mQ] at this
 have A:((l.lookup x).map f).getD (f z)=f ((l.lookup x).getD z):=by cases l.lookup x<;>rfl
 rw [A,Option.isSome_map] at this
 exact this
theorem jR {β:Type} {t kt et:TypeId} {xm xk:Operand} {b:Nat} {x:K} {f:β→Value} {z:β} {l:List (K×β)} (hg:ju ops L g=true) (hm:ev L xm=some (.map (some b))) (hk:ev L xk=some (kV x))
 (ht:E.P.underlying t=some (.map kt et)) (hkt:uq E.P kt kV) (hz:tV E.P et=some (f z)) (hC:jc C (gZ kV b (bM f l)).holds):
 SD E ops ⟨dst,.lookup t xm xk false,ty,ps,af,g⟩ D L C (f ((l.lookup x).getD z)):=by
 have:=GJ (dst:=dst) (ty:=ty) (ps:=ps) (af:=af) (D:=D) hg hm hk ht hkt hz hC
 rw [mQ] at this
 have A:((l.lookup x).map f).getD (f z)=f ((l.lookup x).getD z):=by cases l.lookup x<;>rfl
 rw [A] at this
 exact this
theorem xQ {β:Type} {t kt et:TypeId} {xm:Operand} {b:Nat} {f:β→Value} {l:List (K×β)} (hg:ju ops L g=true) (hm:ev L xm=some (.map (some b))) (ht:E.P.underlying t=some (.map kt et)) (hC:jc C (gZ kV b (bM f l)).holds):
 SD E ops ⟨dst,.call {callee:= .builtin .len,args:= #[xm],argTypes:= #[t]},ty,ps,af,g⟩ D L C (.int .i64 (l.length:Int)):=by
 have:=Iw (dst:=dst) (ty:=ty) (ps:=ps) (af:=af) (D:=D) hg hm ht hC
 rwa [Gl] at this
end
theorem cW {β:Type} {x:K} {y:β} {l:List (K×β)} (h:(x,y)∈l):(cd l x).length<l.length:=by
 unfold cd
 exact List.length_filter_lt_length_iff_exists.2 ⟨_,h,sm⟩
theorem jv {β:Type} {x:K} {p:K×β} {l:List (K×β)}:p∈cd l x↔p∈l∧p.1≠x:=by simp [cd]
/-- an iterator over a map: what is left; what came last -/
def zf (kV:K→Value) (r b:Nat) (m left:List (K×Value)) (cur:Option (K×Value)):av where
 fq k:=k=r∨k=b
 wf k:=k=r∨k=b
 holds w:=r≠b∧ ∃ (es:Array MapEntry) (c since:Nat) (seen:Array Nat) (st:Nat),w.heap[b]? =some (.map es c)∧iR kV es c m∧w.heap[r]? =some (.mapIter (some b) since seen st)∧(∀ e∈es.toList,e.born<since)∧since≤st∧since≤c∧
  (leftOf es seen).toList.map (fun (e:MapEntry)=>(e.key,e.val))=left.map (fun p=>(kV p.1,p.2))∧
  ∀ p,cur=some p→ ∃ (e:MapEntry) (seen0:Array Nat),e∈es.toList∧seen=seen0.push e.born∧st=c∧e.key=kV p.1∧e.val=p.2
 wr:=true
 kv _ h:=h
 whole _ _ h:=h
 lt w h k hk:=by
  obtain ⟨_,es,c,since,seen,st,h1,_,h2,_⟩:=h
  rcases hk with rfl|rfl
  ·exact ek h2
  ·exact ek h1
 oi w w' hk h:=by
  obtain ⟨hne,es,c,since,seen,st,h1,h2,h3,h4⟩:=h
  exact ⟨hne,es,c,since,seen,st,(hk b (.inr rfl)).trans h1,h2,(hk r (.inl rfl)).trans h3,h4⟩
theorem wV {r b:Nat} {m left:List (K×Value)} {cur:Option (K×Value)}:(∀ w,(zf kV r b m left cur).holds w→(zf kV r b m left none).holds w)∧(∀ k,(zf kV r b m left none).fq k→(zf kV r b m left cur).fq k)∧ ∀ k,(zf kV r b m left none).wf k→(zf kV r b m left cur).wf k:=
 ⟨fun w h=>by
  obtain ⟨A,es,c,since,seen,st,B,C,D,E,F,h5',G,_⟩:=h
  exact ⟨A,es,c,since,seen,st,B,C,D,E,F,h5',G,fun p hp=>by cases hp⟩,fun _ h=>h,fun _ h=>h⟩
theorem KD {r b:Nat} {m left:List (K×Value)} {cur:Option (K×Value)}:(∀ w,(zf kV r b m left cur).holds w→(gZ kV b m).holds w)∧(∀ k,(gZ kV b m).fq k→(zf kV r b m left cur).fq k)∧ ∀ k,(gZ kV b m).wf k→(zf kV r b m left cur).wf k:=
 ⟨fun w h=>by
  obtain ⟨C,es,c,since,seen,st,A,B,_⟩:=h
  exact ⟨es,c,A,B⟩,fun _ h=> .inr h,fun _ h=> .inr h⟩
theorem BP {es:Array MapEntry} {c:Nat} {m:List (K×Value)} (hinj: ∀ x y,kV x=kV y→x=y) (hi:iR kV es c m) {x y:MapEntry} (hx:x∈es.toList) (hy:y∈es.toList) (e:x.key=y.key):x=y:=by
 have hk:(es.toList.map (·.key))=(m.map (·.1)).map kV:=by
  have:=congrArg (List.map Prod.fst) hi.list
  simpa [Function.comp_def] using this
 have h:(es.toList.map (·.key)).Nodup:=by
  rw [hk,List.nodup_iff_pairwise_ne,List.pairwise_map]
  exact hi.keys.imp (fun B he=>B (hinj _ _ he))
 obtain ⟨i,A⟩:=List.getElem?_of_mem hx
 obtain ⟨j,hj⟩:=List.getElem?_of_mem hy
 have C:(es.toList.map (·.key))[i]? =some x.key:=by rw [fB,A]; rfl
 have D:(es.toList.map (·.key))[j]? =some x.key:=by rw [fB,hj,e]; rfl
 have E:=(List.getElem?_inj (List.getElem?_eq_some_iff.1 C).1 h).1 (C.trans D.symm)
 subst E
 exact Option.some.inj (A.symm.trans hj)
section
variable {E:ff} {ops:Array Oper} {Q:cZ} {rest:List Oper} {D:List Deferred} {L:List (Nat×Value)} {C:List av}
variable {dst:Option Tmp} {d:Nat} {ty:TypeId} {ps:String} {af:Array Edge} {g:Option (Nat×Bool)}
theorem uz {t kt et:TypeId} {xm:Operand} {b:Nat} {m:List (K×Value)} (i:Nat) (hg:ju ops L g=true) (hm:ev L xm=some (.map (some b))) (ht:E.P.underlying t=some (.map kt et)) (hC:C[i]? =some (gZ kV b m)) (hd:Nat.blt d E.n=true)
 (k: ∀ r,RJ E ops Q rest D ((d,.pointer (some ⟨r,0,none⟩))::L) (C.set i (zf kV r b m m none))):RJ E ops Q (⟨some d,.range t xm,ty,ps,af,g⟩::rest) D L C:=by
 intro a w A hs
 have hd':d<E.n:=by rw [← Nat.blt_eq]; exact hd
 unfold rq
 rw [if_pos (d_ A hg)]
 obtain ⟨es,c,he,hi⟩:=hs.holds _ (aX hC)
 have F:b<w.heap.size:=ek he
 have B:(getObj b).run E.P w= .ok (.map es c) w:=MapKept.run_getObj_map he
 refine gO (v:= .pointer (some ⟨w.heap.size,0,none⟩)) (w':=w.alloc (.mapIter (some b) c #[] c)) sm ?_ ?_
 ·simp [execOp,Instr.range,A.ev hm,run_underlying ht,B,newObj,Sem.run]
 ·refine k _ _ _ (A.put hd' _) (hs.mv i hC ⟨⟨om,es,c,c,#[],c,?_,hi,heap_alloc_new w _,hi.Ki,Nat.le_refl _,Nat.le_refl _,?_,fun p hp=>by cases hp⟩,dY.alloc _ w _,fun q hq=>?_,fun q hq=>?_⟩)
  ·rw [Below.heap_alloc w _ b F]; exact he
  ·have:leftOf es #[]=es:=by unfold leftOf; exact Array.filter_eq_self.2 sm
   rw [this]; exact hi.list
  ·rcases hq with rfl|rfl
   ·exact .inr (Nat.le_refl _)
   ·exact .inl U
  ·rcases hq with rfl|rfl
   ·exact .inr (Nat.le_refl _)
   ·exact .inl U
theorem wk {es:Array MapEntry} {c:Nat} {m left:List (K×Value)} {seen:Array Nat} (hinj: ∀ x y,kV x=kV y→x=y) (hi:iR kV es c m) (h:(leftOf es seen).toList.map (fun (e:MapEntry)=>(e.key,e.val))=left.map (fun p=>(kV p.1,p.2))):(left.map (·.1)).Nodup:=by
 have B:((leftOf es seen).toList.map (·.key)).Sublist (es.toList.map (·.key)):=by
  unfold leftOf; rw [Array.toList_filter]; exact List.filter_sublist.map _
 have D:(es.toList.map (·.key))=(m.map (·.1)).map kV:=by
  have:=congrArg (List.map Prod.fst) hi.list
  simpa [Function.comp_def] using this
 have E:((leftOf es seen).toList.map (·.key))=(left.map (·.1)).map kV:=by
  have:=congrArg (List.map Prod.fst) h
  simpa [Function.comp_def] using this
 rw [D,E] at B
 have F:((m.map (·.1)).map kV).Nodup:=by
  rw [List.nodup_iff_pairwise_ne,List.pairwise_map]
  exact hi.keys.imp (fun A he=>A (hinj _ _ he))
 have C:=F.sublist B
 rw [List.nodup_iff_pairwise_ne,List.pairwise_map] at C
 rw [List.nodup_iff_pairwise_ne]
 exact C.imp (fun A he=>A (by rw [he]))
theorem Ig (hinj: ∀ x y,kV x=kV y→x=y) {xi:Operand} {r b:Nat} {m left:List (K×Value)} {cur:Option (K×Value)} (i:Nat) (hg:ju ops L g=true) (hm:ev L xi=some (.pointer (some ⟨r,0,none⟩))) (hC:C[i]? =some (zf kV r b m left cur)) (hd:Nat.blt d E.n=true)
 (k0:left=[]→RJ E ops Q rest D ((d,.tuple [.bool false].toArray)::L) C)
 (k1: ∀ x v,(x,v)∈left→(left.map (·.1)).Nodup→RJ E ops Q rest D ((d,.tuple [.bool true,kV x,v].toArray)::L) (C.set i (zf kV r b m (cd left x) (some (x,v))))):
 RJ E ops Q (⟨some d,.next xi false,ty,ps,af,g⟩::rest) D L C:=by
 intro a w G hs
 have hd':d<E.n:=by rw [← Nat.blt_eq]; exact hd
 unfold rq
 rw [if_pos (d_ G hg)]
 obtain ⟨R,es,c,since,seen,st,X,hi,Y,J,V,M,A,_⟩:=hs.holds _ (aX hC)
 rcases run_next_at (P:=E.P) w ty r b since st seen es c Y X J V with ⟨Z,hr⟩|⟨e,he,N,H,hr⟩
 ·refine gO (v:= .tuple #[.bool false]) (w':=w) sm ?_ ?_
  ·simp [execOp,G.ev hm,hr]
  ·refine k0 ?_ _ _ (G.put hd' _) hs
   have:(leftOf es seen).toList=[]:=by rw [← List.length_eq_zero_iff,Array.length_toList]; exact Z
   rw [this] at A
   exact List.map_eq_nil_iff.1 A.symm
 ·have O:(e.key,e.val)∈left.map (fun p=>(kV p.1,p.2)):=by rw [← A]; exact List.mem_map.2 ⟨e,he,rfl⟩
  obtain ⟨p,hp,S⟩:=List.mem_map.1 O
  obtain ⟨x,v⟩:=p
  simp only [Prod.mk.injEq] at S
  obtain ⟨hk,hv⟩:=S
  refine gO (v:= .tuple #[.bool true,e.key,e.val]) (w':=ChangeMaps.setBlock N r (.mapIter (some b) since (seen.push e.born) c)) sm ?_ ?_
  ·simp [execOp,G.ev hm,hr]
  ·rw [← hk,← hv]
   have AA:=wk hinj hi A
   have F:e∈es.toList:=by unfold leftOf at he; rw [Array.toList_filter] at he; exact (List.mem_filter.1 he).1
   have f:c=c:=rfl
   have B:N.heap=w.heap:=by rcases H with rfl|rfl<;>rfl
   refine k1 x v hp AA _ _ (G.put hd' _) (hs.mv i hC ⟨⟨R,es,c,since,seen.push e.born,c,?_,hi,?_,J,M,M,?_,fun q hq=>?_⟩,?_,fun q hq=> .inl hq,fun q hq=> .inl hq⟩)
   ·show (N.heap.setIfInBounds r _)[b]? =_
    rw [Array.getElem?_setIfInBounds_ne R,B]; exact X
   ·show (N.heap.setIfInBounds r _)[r]? =_
    rw [Array.getElem?_setIfInBounds_self_of_lt (by rw [B]; exact ek Y)]
   ·have T:leftOf es (seen.push e.born)=(leftOf es seen).filter (fun z=> !(z.born==e.born)):=by
     unfold leftOf
     rw [Array.filter_filter]
     congr 1
     funext z
     simp only [Array.contains_push,Bool.not_or]
     rw [Bool.and_comm]
    rw [T,Array.toList_filter]
    have key: ∀ (l:List MapEntry) (ll:List (K×Value)),(∀ z∈l,z∈es.toList)→l.map (fun (e:MapEntry)=>(e.key,e.val))=ll.map (fun p=>(kV p.1,p.2))→
     (l.filter (fun z=> !(z.born==e.born))).map (fun (e:MapEntry)=>(e.key,e.val))=(cd ll x).map (fun p=>(kV p.1,p.2)):=by
     intro l
     induction l with
     |nil=>intro ll _ h; cases ll with
      |nil=>rfl
      |cons p ll=>simp at h
     |cons z l ih=>
      intro ll hz h
      cases ll with
      |nil=>simp at h
      |cons p ll=>
       simp only [List.map_cons,List.cons.injEq,Prod.mk.injEq] at h
       have ih':=ih ll (fun y hy=>hz y (by simp [hy])) h.2
       have AB:(z.born=e.born)↔(p.1=x):=by
        constructor
        ·intro hb
         have:z=e:=C_ hi.born (hz z sm) F hb
         rw [this] at h
         have:=h.1.1.symm.trans hk.symm
         exact hinj _ _ this
        ·intro hx
         have W:z.key=e.key:=by rw [h.1.1,hx,hk]
         rw [BP hinj hi (hz z sm) F W]
       unfold cd at ih' ⊢
       by_cases hx:p.1=x
       ·rw [List.filter_cons_of_neg (by simp [AB.2 hx]),List.filter_cons_of_neg (by simp [hx])]; exact ih'
       ·rw [List.filter_cons_of_pos (by simpa using fun hb=>hx (AB.1 hb)),List.filter_cons_of_pos (by simpa using hx)]
        simp only [List.map_cons,h.1.1,h.1.2,ih']
    exact key _ _ (fun z hz=>by unfold leftOf at hz; rw [Array.toList_filter] at hz; exact (List.mem_filter.1 hz).1) A
   ·cases hq
    exact ⟨e,seen,F,U,U,hk.symm,hv.symm⟩
   ·refine ⟨?_,?_,?_,?_,fun q hq hn=>?_⟩
    ·rcases H with rfl|rfl<;>rfl
    ·rcases H with rfl|rfl<;>rfl
    ·rcases H with rfl|rfl<;>rfl
    ·show w.heap.size≤(N.heap.setIfInBounds r _).size
     simp [B]
    ·show (N.heap.setIfInBounds r _)[q]? =_
     rw [Array.getElem?_setIfInBounds_ne (fun e=>hn (.inl e.symm)),B]
theorem r_ {xi:Operand} {r b:Nat} {m left:List (K×Value)} {x:K} {v:Value} (i:Nat) (hg:ju ops L g=true) (hm:ev L xi=some (.pointer (some ⟨r,0,none⟩))) (hC:C[i]? =some (zf kV r b m left (some (x,v)))):
 SD E ops ⟨dst,.entry xi,ty,ps,af,g⟩ D L C (.tuple [kV x,v].toArray):=
 dJ hg sm fun a w F hs=>by
  obtain ⟨N,es,c,since,seen,st,J,hi,M,H,O,AA,G,B⟩:=hs.holds _ (aX hC)
  obtain ⟨e,A,he,rfl,rfl,hk,hv⟩:=B _ rfl
  have:=run_entry_at (P:=E.P) w r b since A es st e M J he hi.born
  simp [execOp,F.ev hm,this,hk,hv]
theorem rU (hinj: ∀ x y,kV x=kV y→x=y) {β:Type} {f:β→Value} {xi:Operand} {r b:Nat} {m:List (K×Value)} {ll:List (K×β)} {cur:Option (K×Value)} (i:Nat) (hg:ju ops L g=true) (hm:ev L xi=some (.pointer (some ⟨r,0,none⟩))) (hC:C[i]? =some (zf kV r b m (bM f ll) cur)) (hd:Nat.blt d E.n=true)
 (k0:ll=[]→RJ E ops Q rest D ((d,.tuple [.bool false].toArray)::L) C)
 (k1: ∀ x y,(x,y)∈ll→(ll.map (·.1)).Nodup→RJ E ops Q rest D ((d,.tuple [.bool true,kV x,f y].toArray)::L) (C.set i (zf kV r b m (bM f (cd ll x)) (some (x,f y))))):
 RJ E ops Q (⟨some d,.next xi false,ty,ps,af,g⟩::rest) D L C:=by
 refine Ig hinj i hg hm hC hd (fun h=>k0 (List.map_eq_nil_iff.1 h)) (fun x v B hn=>?_)
 obtain ⟨p,hp,A⟩:=List.mem_map.1 B
 simp only [Prod.mk.injEq] at A
 obtain ⟨rfl,rfl⟩:=A
 have:=k1 p.1 p.2 hp (by simpa [bM,Function.comp_def] using hn)
 rwa [lJ] at this
end
end
end
section
structure bT where
 Start:Int
 gh:Int
 pS:List Int
 ve:List (List (Int×aa))
 bL:Int
 cv:Int
 O_:Int
def bT.n (w:bT):Nat:=w.pS.length
def fp (s:Int):aC:=if s<0 then ⟨0,1⟩ else ⟨1,0⟩
def du (a b:aC):aC:=⟨a.right+b.right,a.eU+b.eU⟩
def tw (w:bT) (b:Nat):List (Int×aa):=(w.ve[b]?).getD []
def il (w:bT) (b:Nat):List (Int×aa):=(-1,⟨w.Start,w.gh⟩)::tw w b
def bV (w:bT) (b:Nat):Int:=(w.pS[b]?).getD 0
def kF (w:bT) (b:Nat) (p:aC×Int) (o:Int×aa):Option (aC×Int):=if max (p.2+bV w b) o.2.Lo≤min o.2.Hi w.gh then some (du p.1 (fp o.1),max (p.2+bV w b) o.2.Lo) else none
def fwd (w:bT):Nat→List (aC×Int)
 |0=>[(⟨0,0⟩,w.Start)]
 |b+1=>(fwd w b).flatMap fun p=>(il w b).filterMap (kF w b p)
def nN (w:bT) (b:Nat) (p:aC×Int) (o:Int×aa):Option (aC×Int):=if o.2.Lo≤min p.2 o.2.Hi then some (du p.1 (fp o.1),min p.2 o.2.Hi-bV w b) else none
def bwd (w:bT):Nat→List (aC×Int)
 |0=>[(⟨0,0⟩,w.gh)]
 |k+1=>(⟨0,0⟩,w.gh)::(bwd w k).flatMap fun p=>(il w (w.n-(k+1))).filterMap (nN w (w.n-(k+1)) p)
def back (w:bT) (b:Nat):List (aC×Int):=bwd w (w.n-b)
def kq (w:bT) (t:aC):Bool:=decide (t.eU≤w.bL∧w.O_-t.right≤w.cv)
theorem fP {w:bT} {b:Nat} {q:aC×Int}:q∈fwd w (b+1)↔ ∃ p∈fwd w b,∃ o∈il w b,kF w b p o=some q:=by
 simp only [fwd,List.mem_flatMap,List.mem_filterMap]
theorem ux {w:bT} {b:Nat} (h:w.n≤b):back w b=[(⟨0,0⟩,w.gh)]:=by
 unfold back; rw [Nat.sub_eq_zero_of_le h]; rfl
theorem oR {w:bT} {b:Nat} (h:b<w.n) {q:aC×Int}:q∈back w b↔q=(⟨0,0⟩,w.gh)∨ ∃ p∈back w (b+1),∃ o∈il w b,nN w b p o=some q:=by
 unfold back
 have e:w.n-b=(w.n-(b+1))+1:=by omega
 rw [e]
 simp only [bwd,eA,List.mem_flatMap,List.mem_filterMap]
 rw [show w.n-(w.n-(b+1)+1)=b by omega]
def tg (m c:List (aC×Int)):Prop:=(∀ t v,m.lookup t=some v→(t,v)∈c)∧ ∀ t y,(t,y)∈c→ ∃ v,m.lookup t=some v∧v≤y
def vn (m c:List (aC×Int)):Prop:=(∀ t v,m.lookup t=some v→(t,v)∈c)∧ ∀ t y,(t,y)∈c→ ∃ v,m.lookup t=some v∧y≤v
def vi (m c:List (aC×Int)):Prop:= ∀ t v,m.lookup t=some v→(t,v)∈c
theorem mJ {K β:Type} [DecidableEq K] {m:List (K×β)} {x t:K} {y:β}:(dK m x y).lookup t=if t=x then some y else m.lookup t:=by
 unfold dK
 by_cases hx:(m.lookup x).isSome
 ·rw [if_pos hx]
  have key: ∀ l:List (K×β),(l.lookup x).isSome∨True→(l.map (fun p=>if p.1=x then (x,y) else p)).lookup t=if t=x then (if (l.lookup x).isSome then some y else none) else l.lookup t:=by
   intro l _
   induction l with
   |nil=>simp
   |cons p l ih=>
    obtain ⟨k,v⟩:=p
    have ih:=ih (.inr trivial)
    by_cases hk:k=x
    ·subst hk
     by_cases ht:t=k
     ·subst ht; simp [List.lookup]
     ·have:(t==k)=false:=by simpa using ht
      simp only [List.map_cons,if_true,List.lookup,this,ih,if_neg ht]
    ·have hk':(x==k)=false:=by simpa using fun e=>hk e.symm
     by_cases ht:t=k
     ·subst ht; simp [List.lookup,hk]
     ·have A:(t==k)=false:=by simpa using ht
      simp only [List.map_cons,if_neg hk,List.lookup,A,ih,hk']
  rw [key m (.inr trivial)]
  by_cases ht:t=x
  ·subst ht
   rw [if_pos rfl,if_pos rfl,if_pos hx]
  ·rw [if_neg ht,if_neg ht]
 ·rw [if_neg hx]
  have hn:m.lookup x=none:=by cases h0:m.lookup x with
   |none=>rfl
   |some v=>exact absurd (by rw [h0]; rfl) hx
  by_cases ht:t=x
  ·subst ht
   rw [if_pos rfl]
   have:=iv.1 hn
   clear hn hx
   induction m with
   |nil=>simp
   |cons p m ih=>
    obtain ⟨k,v⟩:=p
    have hk:(t==k)=false:=by simpa using fun e=>this (k,v) sm e.symm
    simp only [List.cons_append,List.lookup,hk]
    exact ih (fun q hq=>this q (cS _ hq))
  ·rw [if_neg ht]
   clear hn hx
   induction m with
   |nil=>
    have:(t==x)=false:=by simpa using ht
    simp [List.lookup,this]
   |cons p m ih=>
    obtain ⟨k,v⟩:=p
    by_cases hk:t=k
    ·subst hk; simp [List.lookup]
    ·have:(t==k)=false:=by simpa using hk
     simp only [List.cons_append,List.lookup,this]
     exact ih
/-- what a map is after a try -/
def o3 (m:List (aC×Int)) (q:aC×Int):List (aC×Int):=match m.lookup q.1 with
 |none=>dK m q.1 q.2
 |some v=>if q.2<v then dK m q.1 q.2 else m
def oE (m:List (aC×Int)) (q:aC×Int):List (aC×Int):=match m.lookup q.1 with
 |none=>dK m q.1 q.2
 |some v=>if v<q.2 then dK m q.1 q.2 else m
theorem wQ {m:List (aC×Int)} {q:aC×Int} {t:aC}:(o3 m q).lookup t=if t=q.1 then some (match m.lookup q.1 with |none=>q.2|some v=>min q.2 v) else m.lookup t:=by
 unfold o3
 cases h:m.lookup q.1 with
 |none=>simp only; rw [mJ]
 |some v=>
  simp only
  split
  ·rename_i A
   rw [mJ,Int.min_eq_left om]
  ·rename_i A
   split
   ·rename_i e; subst e; rw [h,Int.min_eq_right om]
   ·rfl
theorem wX {m:List (aC×Int)} {q:aC×Int} {t:aC}:(oE m q).lookup t=if t=q.1 then some (match m.lookup q.1 with |none=>q.2|some v=>max q.2 v) else m.lookup t:=by
 unfold oE
 cases h:m.lookup q.1 with
 |none=>simp only; rw [mJ]
 |some v=>
  simp only
  split
  ·rename_i A
   rw [mJ,Int.max_eq_left om]
  ·rename_i A
   split
   ·rename_i e; subst e; rw [h,Int.max_eq_right om]
   ·rfl
def wv (m m':List (aC×Int)):Prop:= ∀ t v,m.lookup t=some v→ ∃ v',m'.lookup t=some v'∧v'≤v
def xS (m m':List (aC×Int)):Prop:= ∀ t v,m.lookup t=some v→ ∃ v',m'.lookup t=some v'∧v≤v'
theorem wv.refl (m:List (aC×Int)):wv m m:=fun t v h=>⟨v,h,om⟩
theorem xS.refl (m:List (aC×Int)):xS m m:=fun t v h=>⟨v,h,om⟩
theorem vg {m:List (aC×Int)} {q:aC×Int}:wv m (o3 m q):=fun t v h=>by
 rw [wQ]
 split
 ·rename_i e; subst e; rw [h]; exact ⟨_,rfl,by simp only; omega⟩
 ·exact ⟨v,h,om⟩
theorem p5 {m:List (aC×Int)} {q:aC×Int}:xS m (oE m q):=fun t v h=>by
 rw [wX]
 split
 ·rename_i e; subst e; rw [h]; exact ⟨_,rfl,by simp only; omega⟩
 ·exact ⟨v,h,om⟩
theorem HO {m c:List (aC×Int)} {q:aC×Int} (h:vi m c) (hq:q∈c):vi (o3 m q) c:=fun t v hv=>by
 rw [wQ] at hv
 split at hv
 ·rename_i e
  subst e
  cases hm:m.lookup q.1 with
  |none=>simp only [hm,Option.some.injEq] at hv; subst hv; exact hq
  |some x=>
   simp only [hm,Option.some.injEq] at hv; subst hv
   rcases Int.lt_or_le q.2 x with A|A
   ·rw [Int.min_eq_left om]; exact hq
   ·rw [Int.min_eq_right om]; exact h _ _ hm
 ·exact h t v hv
theorem Hn {m c:List (aC×Int)} {q:aC×Int} (h:vi m c) (hq:q∈c):vi (oE m q) c:=fun t v hv=>by
 rw [wX] at hv
 split at hv
 ·rename_i e
  subst e
  cases hm:m.lookup q.1 with
  |none=>simp only [hm,Option.some.injEq] at hv; subst hv; exact hq
  |some x=>
   simp only [hm,Option.some.injEq] at hv; subst hv
   rcases Int.lt_or_le q.2 x with A|A
   ·rw [Int.max_eq_right om]; exact h _ _ hm
   ·rw [Int.max_eq_left om]; exact hq
 ·exact h t v hv
theorem Hv {m:List (aC×Int)} {q:aC×Int}: ∃ v,(o3 m q).lookup q.1=some v∧v≤q.2:=by
 rw [wQ,if_pos rfl]
 refine ⟨_,U,?_⟩
 cases m.lookup q.1<;>simp only <;>omega
theorem HG {m:List (aC×Int)} {q:aC×Int}: ∃ v,(oE m q).lookup q.1=some v∧q.2≤v:=by
 rw [wX,if_pos rfl]
 refine ⟨_,U,?_⟩
 cases m.lookup q.1<;>simp only <;>omega
/-- all that comes of one entry, by some options, is held -/
def iU (w:bT) (b:Nat) (m:List (aC×Int)) (p:aC×Int) (os:List (Int×aa)):Prop:= ∀ o∈os,∀ q,kF w b p o=some q→ ∃ v,m.lookup q.1=some v∧v≤q.2
def iX (w:bT) (b:Nat) (m:List (aC×Int)) (p:aC×Int) (os:List (Int×aa)):Prop:= ∀ o∈os,∀ q,nN w b p o=some q→ ∃ v,m.lookup q.1=some v∧q.2≤v
theorem iU.lower {w:bT} {b:Nat} {m m':List (aC×Int)} {p:aC×Int} {os:List (Int×aa)} (h:iU w b m p os) (hl:wv m m'):iU w b m' p os:=fun o ho q hq=>by
 obtain ⟨v,A,C⟩:=h o ho q hq
 obtain ⟨v',B,D⟩:=hl _ _ A
 exact ⟨v',B,om⟩
theorem iX.upper {w:bT} {b:Nat} {m m':List (aC×Int)} {p:aC×Int} {os:List (Int×aa)} (h:iX w b m p os) (hl:xS m m'):iX w b m' p os:=fun o ho q hq=>by
 obtain ⟨v,A,C⟩:=h o ho q hq
 obtain ⟨v',B,D⟩:=hl _ _ A
 exact ⟨v',B,om⟩
theorem iU.sub {w:bT} {b:Nat} {m:List (aC×Int)} {p:aC×Int} {os os':List (Int×aa)} (h:iU w b m p os) (hs: ∀ o∈os',o∈os):iU w b m p os':=fun o ho=>h o (hs o ho)
theorem iX.sub {w:bT} {b:Nat} {m:List (aC×Int)} {p:aC×Int} {os os':List (Int×aa)} (h:iX w b m p os) (hs: ∀ o∈os',o∈os):iX w b m p os':=fun o ho=>h o (hs o ho)
theorem iU.add {w:bT} {b:Nat} {m m':List (aC×Int)} {p:aC×Int} {os:List (Int×aa)} {o:Int×aa} (h:iU w b m p os) (hl:wv m m') (hn: ∀ q,kF w b p o=some q→ ∃ v,m'.lookup q.1=some v∧v≤q.2):iU w b m' p (os++[o]):=fun o' ho q hq=>by
 rcases List.mem_append.1 ho with ho|ho
 ·exact h.lower hl o' ho q hq
 ·simp only [bW] at ho; subst ho; exact hn q hq
theorem iX.add {w:bT} {b:Nat} {m m':List (aC×Int)} {p:aC×Int} {os:List (Int×aa)} {o:Int×aa} (h:iX w b m p os) (hl:xS m m') (hn: ∀ q,nN w b p o=some q→ ∃ v,m'.lookup q.1=some v∧q.2≤v):iX w b m' p (os++[o]):=fun o' ho q hq=>by
 rcases List.mem_append.1 ho with ho|ho
 ·exact h.upper hl o' ho q hq
 ·simp only [bW] at ho; subst ho; exact hn q hq
theorem fy {m:List (aC×Int)} (hn:(m.map (·.1)).Nodup) {t:aC} {v:Int}:(t,v)∈m↔m.lookup t=some v:=iD hn
theorem oG {z t:aC} {x v:Int}:List.lookup t [(z,x)]=some v↔t=z∧v=x:=by
 by_cases e:t=z
 ·subst e; simp [List.lookup,eq_comm]
 ·have:(t==z)=false:=by simpa using e
  simp [List.lookup,this,e]
theorem Gr {w:bT}:tg [(⟨0,0⟩,w.Start)] (fwd w 0):=by
 refine ⟨fun t v h=>?_,fun t y h=>?_⟩
 ·obtain ⟨rfl,rfl⟩:=oG.1 h
  simp [fwd]
 ·simp only [fwd,bW,Prod.mk.injEq] at h
  obtain ⟨rfl,rfl⟩:=h
  exact ⟨w.Start,oG.2 ⟨U,U⟩,Int.le_refl _⟩
theorem Ik {w:bT} {b:Nat} {mb m:List (aC×Int)} (hn:(mb.map (·.1)).Nodup) (h:tg mb (fwd w b)) (hs:vi m (fwd w (b+1))) (hd: ∀ p∈mb,iU w b m p (il w b)):tg m (fwd w (b+1)):=⟨hs,fun t y hy=>by
 obtain ⟨p,hp,o,ho,e⟩:=fP.1 hy
 obtain ⟨v,B,E⟩:=h.2 p.1 p.2 hp
 unfold kF at e
 split at e
 ·rename_i D
  simp only [Option.some.injEq,Prod.mk.injEq] at e
  obtain ⟨v',A,C⟩:=hd (p.1,v) ((fy hn).2 B) o ho (du p.1 (fp o.1),max (v+bV w b) o.2.Lo) (by unfold kF; rw [if_pos (by simp only; omega)])
  simp only at A C
  rw [e.1] at A
  exact ⟨v',A,om⟩
 ·cases e⟩
theorem Jl {w:bT} {b:Nat} (hb:w.n≤b):vn [(⟨0,0⟩,w.gh)] (back w b):=by
 rw [ux hb]
 refine ⟨fun t v h=>?_,fun t y h=>?_⟩
 ·obtain ⟨rfl,rfl⟩:=oG.1 h
  simp
 ·simp only [bW,Prod.mk.injEq] at h
  obtain ⟨rfl,rfl⟩:=h
  exact ⟨w.gh,oG.2 ⟨U,U⟩,Int.le_refl _⟩
theorem JN {w:bT} {b:Nat} (hb:b<w.n) {mb m:List (aC×Int)} (hn:(mb.map (·.1)).Nodup) (h:vn mb (back w (b+1))) (hs:vi m (back w b)) (h0: ∃ v,m.lookup ⟨0,0⟩=some v∧w.gh≤v) (hd: ∀ p∈mb,iX w b m p (il w b)):vn m (back w b):=⟨hs,fun t y hy=>by
 rcases (oR hb).1 hy with e|⟨p,hp,o,ho,e⟩
 ·simp only [Prod.mk.injEq] at e
  obtain ⟨rfl,rfl⟩:=e
  exact h0
 obtain ⟨v,B,E⟩:=h.2 p.1 p.2 hp
 unfold nN at e
 split at e
 ·rename_i D
  simp only [Option.some.injEq,Prod.mk.injEq] at e
  obtain ⟨v',A,C⟩:=hd (p.1,v) ((fy hn).2 B) o ho (du p.1 (fp o.1),min v o.2.Hi-bV w b) (by unfold nN; rw [if_pos (by simp only; omega)])
  simp only at A C
  rw [e.1] at A
  exact ⟨v',A,om⟩
 ·cases e⟩
end
section
def jq (w:bT) (b:Nat) (p u:aC×Int) (o:Int×aa):aa:=⟨max (p.2+bV w b) o.2.Lo,min u.2 o.2.Hi⟩
def xD (p u:aC×Int) (o:Int×aa):aC:=du (du p.1 u.1) (fp o.1)
def mw (w:bT) (b:Nat) (p u:aC×Int) (o:Int×aa):Option (Int×aa):=if (jq w b p u o).Lo≤(jq w b p u o).Hi∧kq w (xD p u o)=true then some (o.1,jq w b p u o) else none
def pK (w:bT) (b:Nat) (mf mb:List (aC×Int)):List (Int×aa):=(il w b).flatMap fun o=>mf.flatMap fun p=>mb.filterMap fun u=>mw w b p u o
def ml (w:bT) (b:Nat):List (Int×aa):=pK w b (fwd w b) (back w (b+1))
theorem hE {w:bT} {b:Nat} {mf mb:List (aC×Int)} {q:Int×aa}:q∈pK w b mf mb↔ ∃ o∈il w b,∃ p∈mf,∃ u∈mb,mw w b p u o=some q:=by
 simp only [pK,List.mem_flatMap,List.mem_filterMap]
theorem jl {w:bT} {b:Nat} {p u:aC×Int} {o q:Int×aa}:mw w b p u o=some q↔(jq w b p u o).Lo≤(jq w b p u o).Hi∧kq w (xD p u o)=true∧q=(o.1,jq w b p u o):=by
 unfold mw
 split
 ·rename_i h
  simp only [Option.some.injEq]
  exact ⟨fun e=>⟨h.1,h.2,e.symm⟩,fun e=>e.2.2.symm⟩
 ·rename_i h
  simp only [reduceCtorEq,false_iff]
  exact fun e=>h ⟨e.1,e.2.1⟩
theorem mP {w:bT} {b:Nat} {mf mb:List (aC×Int)} {q:Int×aa} (h:q∈pK w b mf mb):q.2.Lo≤q.2.Hi:=by
 obtain ⟨o,_,p,_,u,_,e⟩:=hE.1 h
 obtain ⟨A,_,rfl⟩:=jl.1 e
 exact A
/-- what the maps tell is what all ways tell -/
theorem ML {w:bT} {b:Nat} {mf mb:List (aC×Int)} (hf:tg mf (fwd w b)) (hb:vn mb (back w (b+1))) (nf:(mf.map (·.1)).Nodup) (nb:(mb.map (·.1)).Nodup) {q:Int×aa} (h:q∈pK w b mf mb):q∈ml w b:=by
 obtain ⟨o,ho,p,hp,u,hu,e⟩:=hE.1 h
 exact hE.2 ⟨o,ho,p,hf.1 _ _ ((fy nf).1 hp),u,hb.1 _ _ ((fy nb).1 hu),e⟩
theorem Kl {w:bT} {b:Nat} {mf mb:List (aC×Int)} (hf:tg mf (fwd w b)) (hb:vn mb (back w (b+1))) (nf:(mf.map (·.1)).Nodup) (nb:(mb.map (·.1)).Nodup) {q:Int×aa} (h:q∈ml w b): ∃ q'∈pK w b mf mb,q'.1=q.1∧q'.2.Lo≤q.2.Lo∧q.2.Hi≤q'.2.Hi:=by
 obtain ⟨o,ho,p,hp,u,hu,e⟩:=hE.1 h
 obtain ⟨A,B,rfl⟩:=jl.1 e
 obtain ⟨v,hv,C⟩:=hf.2 p.1 p.2 hp
 obtain ⟨y,hy,D⟩:=hb.2 u.1 u.2 hu
 simp only [jq] at A
 refine ⟨(o.1,jq w b (p.1,v) (u.1,y) o),hE.2 ⟨o,ho,(p.1,v),(fy nf).2 hv,(u.1,y),(fy nb).2 hy,jl.2 ⟨?_,B,U⟩⟩,U,?_,?_⟩
 ·simp only [jq]; omega
 ·simp only [jq]; omega
 ·simp only [jq]; omega
def mx:aa:=⟨1,0⟩
def l7 (h x:aa):aa:=if h=mx then x else ⟨min x.Lo h.Lo,max x.Hi h.Hi⟩
def uR (l:List (Int×aa)):aa:=l.foldl (fun h q=>l7 h q.2) mx
structure oq (l:List (Int×aa)) (h:aa):Prop where
 le:h.Lo≤h.Hi
 lo: ∃ x∈l,x.2.Lo=h.Lo
 hi: ∃ x∈l,x.2.Hi=h.Hi
 all: ∀ x∈l,h.Lo≤x.2.Lo∧x.2.Hi≤h.Hi
def kd (l:List (Int×aa)) (h:aa):Prop:=(l=[]∧h=mx)∨oq l h
theorem oq.ne {l:List (Int×aa)} {h:aa} (hh:oq l h):h≠mx:=fun e=>by
 have:=hh.le; rw [e] at this; simp [mx] at this
theorem A_:kd [] mx:= .inl ⟨rfl,rfl⟩
theorem tY {l:List (Int×aa)} {h:aa} {q:Int×aa} (hh:kd l h) (hq:q.2.Lo≤q.2.Hi):kd (l++[q]) (l7 h q.2):=by
 right
 rcases hh with ⟨rfl,rfl⟩|hh
 ·unfold l7
  rw [if_pos rfl]
  exact ⟨hq,⟨q,sm,rfl⟩,⟨q,sm,rfl⟩,fun x hx=>by simp at hx; subst hx; exact ⟨Int.le_refl _,Int.le_refl _⟩⟩
 ·unfold l7
  rw [if_neg hh.ne]
  have A:=hh.le
  obtain ⟨a,ha,ea⟩:=hh.lo
  obtain ⟨c,hc,ec⟩:=hh.hi
  refine ⟨by simp only; omega,?_,?_,fun x hx=>?_⟩
  ·rcases Int.lt_or_le q.2.Lo h.Lo with p|p
   ·exact ⟨q,sm,by simp only; omega⟩
   ·exact ⟨a,by simp [ha],by simp only; omega⟩
  ·rcases Int.lt_or_le h.Hi q.2.Hi with p|p
   ·exact ⟨q,sm,by simp only; omega⟩
   ·exact ⟨c,by simp [hc],by simp only; omega⟩
  ·rcases List.mem_append.1 hx with hx|hx
   ·have:=hh.all x hx; simp only; omega
   ·simp at hx; subst hx; simp only; omega
theorem uD {l:List (Int×aa)} (hl: ∀ q∈l,q.2.Lo≤q.2.Hi):kd l (uR l):=by
 have key: ∀ (r d:List (Int×aa)) (h:aa),(∀ q∈r,q.2.Lo≤q.2.Hi)→kd d h→kd (d++r) (r.foldl (fun h q=>l7 h q.2) h):=by
  intro r
  induction r with
  |nil=>intro d h _ hd; simpa using hd
  |cons q r ih=>
   intro d h hr hd
   have:=ih (d++[q]) (l7 h q.2) (fun x hx=>hr x (cS _ hx)) (tY hd (hr q sm))
   simpa using this
 have:=key l [] mx hl A_
 rw [List.nil_append] at this
 exact this
def EN (a b:List (Int×aa)):Prop:= ∀ x∈b,∃ y∈a,y.2.Lo≤x.2.Lo∧x.2.Hi≤y.2.Hi
theorem Mq {a b:List (Int×aa)} {h k:aa} (ha:kd a h) (hb:kd b k) (hab:EN a b) (hba:EN b a):h=k:=by
 rcases ha with ⟨rfl,rfl⟩|ha
 ·rcases hb with ⟨rfl,rfl⟩|hb
  ·rfl
  ·obtain ⟨x,hx,_⟩:=hb.lo
   obtain ⟨y,hy,_⟩:=hab x hx
   cases hy
 ·rcases hb with ⟨rfl,rfl⟩|hb
  ·obtain ⟨x,hx,_⟩:=ha.lo
   obtain ⟨y,hy,_⟩:=hba x hx
   cases hy
  ·have le: ∀ {a b:List (Int×aa)} {h k:aa},oq a h→oq b k→EN a b→h.Lo≤k.Lo∧k.Hi≤h.Hi:=fun {a b h k} ha hb hab=>by
    obtain ⟨x,hx,ex⟩:=hb.lo
    obtain ⟨z,hz,ez⟩:=hb.hi
    obtain ⟨y,hy,ey⟩:=hab x hx
    obtain ⟨y',hy',ey'⟩:=hab z hz
    have A:=ha.all y hy
    have B:=ha.all y' hy'
    omega
   have A:=le ha hb hab
   have B:=le hb ha hba
   rw [aa.ext_iff]; omega
theorem zg {w:bT} {b:Nat} {mf mb:List (aC×Int)} {l:List (Int×aa)} {h:aa} (hf:tg mf (fwd w b)) (hb:vn mb (back w (b+1))) (nf:(mf.map (·.1)).Nodup) (nb:(mb.map (·.1)).Nodup)
 (hl: ∀ q∈l,q∈pK w b mf mb) (hl2: ∀ q∈pK w b mf mb,q∈l) (hh:kd l h):h=uR (ml w b):=
 Mq hh (uD fun q hq=>mP hq) (fun x hx=>by
  obtain ⟨q,hq,_,A,B⟩:=Kl hf hb nf nb hx
  exact ⟨q,hl2 q hq,A,B⟩) (fun x hx=>⟨x,ML hf hb nf nb (hl x hx),Int.le_refl _,Int.le_refl _⟩)
def jm (w:bT) (m:List (aC×Int)):Bool:=m.any fun p=>kq w p.1
theorem CW {w:bT} {b:Nat} {m:List (aC×Int)} (h:tg m (fwd w b)) (nf:(m.map (·.1)).Nodup):jm w m=jm w (fwd w b):=by
 unfold jm
 rw [Bool.eq_iff_iff,List.any_eq_true,List.any_eq_true]
 constructor
 ·rintro ⟨p,hp,A⟩
  exact ⟨p,h.1 _ _ ((fy nf).1 hp),A⟩
 ·rintro ⟨p,hp,A⟩
  obtain ⟨v,hv,_⟩:=h.2 p.1 p.2 hp
  exact ⟨(p.1,v),(fy nf).2 hv,A⟩
def kf (w:bT) (k:Nat):List Int:=((List.range k).filter fun i=>jm w (fwd w i)).map fun (i:Nat)=>(i:Int)
def jD (w:bT):List Int:=kf w (w.n+1)
theorem DR {w:bT} {k:Nat} (h:jm w (fwd w k)=true):kf w (k+1)=kf w k++[(k:Int)]:=by simp [kf,List.range_succ,h]
theorem GI {w:bT} {k:Nat} (h:jm w (fwd w k)=false):kf w (k+1)=kf w k:=by simp [kf,List.range_succ,h]
theorem x9 {w:bT} {k:Nat}:(kf w k).length≤k:=by
 unfold kf
 rw [List.length_map]
 exact Nat.le_trans (List.length_filter_le _ _) sm
end
section
open Go.RowKit
theorem GU {P:Program} {t:Nat} {k:IntKind} (hu:P.underlying t=some (.int k)) (e:Bool) (n:Nat) (v:Value) (w:World):(Instr.checkKey e (n+1) t v).run P w= .ok () w:=by
 unfold Instr.checkKey
 simp only [Sem.run_bind,run_underlying hu,Result.andThen]
 cases v<;>rfl
theorem z5 {P:Program} {kt:Nat} {l:List (Nat×Nat)} (hl:fL P kt=some l) (e:Bool) (n:Nat) (cs:Array Value) (w:World)
 (hf: ∀ p∈l,(∃ v,(part p.1 cs p.2).run P w= .ok v w)∧ ∃ k,P.underlying p.1=some (.int k)):(Instr.checkKey e (n+2) kt (.agg cs)).run P w= .ok () w:=by
 unfold fL at hl
 cases hu:P.underlying kt with
 |none=>simp [hu] at hl
 |some d=>
  cases d<;>simp [hu] at hl
  rename_i fs
  obtain ⟨hn,hl⟩:=hl
  rw [show n+2=(n+1)+1 from rfl,Instr.checkKey]
  simp only [Sem.run_bind,run_underlying hu,Result.andThen_ok]
  rw [← Array.forIn_toList]
  have A: ∀ f∈fs.toList,(∃ v,(part f.type cs f.offset).run P w= .ok v w)∧ ∃ k,P.underlying f.type=some (.int k):=fun f hf'=>hf (f.type,f.offset) (by rw [← hl]; exact List.mem_map.2 ⟨f,hf',rfl⟩)
  have B: ∀ f∈fs.toList,f.name≠"_":=fun f hf'=>by
   obtain ⟨i,hi,rfl⟩:=List.getElem_of_mem hf'
   exact hn.1.1 i (by simpa using hi)
  clear hl hn hf
  generalize fs.toList=L at A B
  induction L with
  |nil=>simp
  |cons f L ih=>
   obtain ⟨⟨v,hv⟩,k,hk⟩:=A f sm
   have C:=B f sm
   simp only [List.forIn_cons,Sem.run_bind,C,ne_eq,not_false_eq_true,if_true,Result.andThen_ok,hv,GU hk,Sem.run_pure]
   exact ih (fun y hy=>A y (by simp [hy])) (fun y hy=>B y (by simp [hy]))
theorem BM {P:Program} {kt:Nat} {K:Type} [DecidableEq K] {kV:K→Value} (hw: ∀ (k:Value) (es:List MapEntry) (w:World),(Instr.findKey kt k es).run P w=(Instr.findAsking kt k es).run P w)
 (heq: ∀ x y w,(Op.equal kt (kV x) (kV y)).run P w= .ok (decide (x=y)) w) (inj: ∀ x y,kV x=kV y→x=y) (x:K) (w:World) (es:List MapEntry) (hk: ∀ e∈es,∃ k,e.key=kV k):
 ((Instr.findKey kt (kV x) es).run P w= .ok none w∧ ∀ e∈es,e.key≠kV x)∨ ∃ j e,(Instr.findKey kt (kV x) es).run P w= .ok (some (j,e.val)) w∧es[j]? =some e∧e.key=kV x:=by
 have key: ∀ (es:List MapEntry) (i:Nat),(∀ e∈es,∃ k,e.key=kV k)→((Instr.findAsking kt (kV x) es i).run P w= .ok none w∧ ∀ e∈es,e.key≠kV x)∨ ∃ j e,(Instr.findAsking kt (kV x) es i).run P w= .ok (some (i+j,e.val)) w∧es[j]? =some e∧e.key=kV x:=by
  intro es
  induction es with
  |nil=>intro i _; exact .inl ⟨by simp [Instr.findAsking],sm⟩
  |cons e es ih=>
   intro i B
   obtain ⟨k,A⟩:=B e sm
   by_cases h:x=k
   ·refine .inr ⟨0,e,?_,U,by rw [A,h]⟩
    subst h
    simp [Instr.findAsking,A,heq]
   ·rcases ih (i+1) (fun y hy=>B y (by simp [hy])) with ⟨C,D⟩|⟨j,e',C,D,E⟩
    ·refine .inl ⟨by simp [Instr.findAsking,A,heq,h,C],fun y hy=>?_⟩
     rcases List.mem_cons.1 hy with rfl|hy
     ·rw [A]; exact fun q=>h (inj _ _ q).symm
     ·exact D y hy
    ·exact .inr ⟨j+1,e',by simp [Instr.findAsking,A,heq,h,C]; omega,by simpa using D,E⟩
 rw [hw]
 rcases key es 0 hk with h|⟨j,e,C,D,E⟩
 ·exact .inl h
 ·exact .inr ⟨j,e,by simpa using C,D,E⟩
theorem Eu {P:Program} {kt:Nat} {l:List (Nat×Nat)} (hl:fL P kt=some l) (k:Value) (es:List MapEntry) (w:World):(Instr.findKey kt k es).run P w=(Instr.findAsking kt k es).run P w:=by
 refine run_findKey_eq w ?_ k es
 unfold fL at hl
 cases hu:P.underlying kt with
 |none=>simp [hu] at hl
 |some d=>cases d<;>simp [hu] at hl ⊢
theorem Ob {P:Program} {kt:Nat} {K:Type} [DecidableEq K] {kV:K→Value} {l:List (Nat×Nat)} (hl:fL P kt=some l) (heq: ∀ x y w,(Op.equal kt (kV x) (kV y)).run P w= .ok (decide (x=y)) w) (inj: ∀ x y,kV x=kV y→x=y)
 (hb: ∀ x,Instr.sameBits 10000 (kV x) (kV x)=true) (hp: ∀ x w,∃ cs,kV x= .agg cs∧ ∀ p∈l,(∃ v,(part p.1 cs p.2).run P w= .ok v w)∧ ∃ k,P.underlying p.1=some (.int k)):uq P kt kV:=
 ⟨fun e x w=>by obtain ⟨cs,A,B⟩:=hp x w; rw [A]; exact z5 hl e 9998 cs w B,fun x w es=>BM (Eu hl) heq inj x w es,hb,inj⟩
end
section
open Go.RowKit
set_option linter.unusedSectionVars false
theorem dB {P:Program} {kt:Nat} (hk:P.underlying kt=some (.int .i64)):uq P kt (Value.int .i64):=by
 refine ⟨fun e x w=>Hp hk e,fun x w es A=>?_,fun x=>by simp [Instr.sameBits],fun x y h=>by injection h⟩
 have key: ∀ (es:List MapEntry) (i:Nat),(∀ e∈es,∃ k:Int,e.key= .int .i64 k)→(Instr.findNow (.int .i64) (.int .i64 x) es i=some none∧ ∀ e∈es,e.key≠ .int .i64 x)∨ ∃ j e,Instr.findNow (.int .i64) (.int .i64 x) es i=some (some (i+j,e.val))∧es[j]? =some e∧e.key= .int .i64 x:=by
  intro es
  induction es with
  |nil=>intro i _; exact .inl ⟨rfl,sm⟩
  |cons e es ih=>
   intro i A
   obtain ⟨k,B⟩:=A e sm
   by_cases h:x=k
   ·subst h
    exact .inr ⟨0,e,by simp [Instr.findNow,Instr.sameNow,B],U,B⟩
   ·have hb:(x==k)=false:=by simpa using h
    rcases ih (i+1) (fun y hy=>A y (by simp [hy])) with ⟨C,D⟩|⟨j,e',C,D,E⟩
    ·refine .inl ⟨by simp [Instr.findNow,Instr.sameNow,B,hb,C],fun y hy=>?_⟩
     rcases List.mem_cons.1 hy with rfl|hy
     ·rw [B]; intro q; injection q with _ q; exact h q.symm
     ·exact D y hy
    ·refine .inr ⟨j+1,e',?_,by simpa using D,E⟩
     simp only [Instr.findNow,Instr.sameNow,B,hb,if_true,C]
     simp; omega
 rcases key es 0 A with ⟨C,D⟩|⟨j,e,C,D,E⟩
 ·exact .inl ⟨MapKept.run_findKey hk C,D⟩
 ·exact .inr ⟨j,e,MapKept.run_findKey hk (by simpa using C),D,E⟩
theorem St.Ng {S:BS} {w0 w w':World} {C:List av} {A N:av} (h:St S w0 C w) (i:Nat) (hA:C[i]? =some A) (k:dY no w w') (hN:N.holds w') (hf: ∀ b,N.fq b→w.heap.size≤b∨A.fq b∧ ¬ A.wf b∧ ¬ N.wf b):St S w0 (N::C) w':=by
 have h':=h.same k
 have G:=aX hA
 have hi:=(List.getElem?_eq_some_iff.1 hA).1
 have B:C[i]=A:=(List.getElem?_eq_some_iff.1 hA).2
 refine ⟨h'.keeps,fun X hX=>?_,List.Pairwise.cons (fun X hX b hb hb'=>?_) h'.sep,fun X hX b hb=>?_,fun X hX b hb=>?_⟩
 ·rcases List.mem_cons.1 hX with rfl|hX
  ·exact hN
  ·exact h'.holds X hX
 ·rcases hf b hb with E|⟨E,AA,H⟩
  ·have:=X.lt w (h.holds X hX) b hb'; omega
  ·refine ⟨H,?_⟩
   obtain ⟨j,hj,D⟩:=List.mem_iff_getElem.1 hX
   by_cases e:j=i
   ·subst e; rw [← D,B]; exact AA
   ·rcases Nat.lt_or_gt_of_ne e with F|F
    ·have:=List.pairwise_iff_getElem.1 h.sep j i hj hi F b (by rw [D]; exact hb') (by rw [B]; exact E)
     rw [← D]; exact this.1
    ·have:=List.pairwise_iff_getElem.1 h.sep i j hi hj F b (by rw [B]; exact E) (by rw [D]; exact hb')
     rw [← D]; exact this.2
 ·rcases List.mem_cons.1 hX with rfl|hX
  ·rcases hf b (X.kv b hb) with E|⟨_,_,H⟩
   ·exact .inl (Nat.le_trans h.keeps.size E)
   ·exact absurd hb H
  ·exact h'.own X hX b hb
 ·rcases List.mem_cons.1 hX with rfl|hX
  ·rcases hf b hb with E|⟨E,_,_⟩
   ·exact .inl (Nat.le_trans h.keeps.size E)
   ·exact h.seen A G b E
  ·exact h'.seen X hX b hb
section
variable {K:Type} [DecidableEq K] {kV:K→Value}
/-- an iterator over a map that is read alone -/
def yd (kV:K→Value) (r b:Nat) (m left:List (K×Value)) (cur:Option (K×Value)):av where
 fq k:=k=r∨k=b
 wf k:=k=r
 holds w:=r≠b∧ ∃ (es:Array MapEntry) (c since:Nat) (seen:Array Nat) (st:Nat),w.heap[b]? =some (.map es c)∧iR kV es c m∧w.heap[r]? =some (.mapIter (some b) since seen st)∧(∀ e∈es.toList,e.born<since)∧since≤st∧since≤c∧
  (leftOf es seen).toList.map (fun (e:MapEntry)=>(e.key,e.val))=left.map (fun p=>(kV p.1,p.2))∧
  ∀ p,cur=some p→ ∃ (e:MapEntry) (seen0:Array Nat),e∈es.toList∧seen=seen0.push e.born∧st=c∧e.key=kV p.1∧e.val=p.2
 wr:=false
 kv _ h:= .inl h
 whole h:=by cases h
 lt w h k hk:=by
  obtain ⟨_,es,c,since,seen,st,h1,_,h2,_⟩:=h
  rcases hk with rfl|rfl
  ·exact ek h2
  ·exact ek h1
 oi w w' hk h:=by
  obtain ⟨hne,es,c,since,seen,st,h1,h2,h3,h4⟩:=h
  exact ⟨hne,es,c,since,seen,st,(hk b (.inr rfl)).trans h1,h2,(hk r (.inl rfl)).trans h3,h4⟩
theorem dA {r b:Nat} {m left:List (K×Value)} {cur:Option (K×Value)}:(∀ w,(yd kV r b m left cur).holds w→(yd kV r b m left none).holds w)∧(∀ k,(yd kV r b m left none).fq k→(yd kV r b m left cur).fq k)∧ ∀ k,(yd kV r b m left none).wf k→(yd kV r b m left cur).wf k:=
 ⟨fun w h=>by
  obtain ⟨A,es,c,since,seen,st,B,C,D,E,F,h5',G,_⟩:=h
  exact ⟨A,es,c,since,seen,st,B,C,D,E,F,h5',G,fun p hp=>by cases hp⟩,fun _ h=>h,fun _ h=>h⟩
section
variable {E:ff} {ops:Array Oper} {Q:cZ} {rest:List Oper} {D:List Deferred} {L:List (Nat×Value)} {C:List av}
variable {dst:Option Tmp} {d:Nat} {ty:TypeId} {ps:String} {af:Array Edge} {g:Option (Nat×Bool)}
theorem iI {t kt et:TypeId} {xm:Operand} {b:Nat} {m:List (K×Value)} {A:av} (i:Nat) (hg:ju ops L g=true) (hm:ev L xm=some (.map (some b))) (ht:E.P.underlying t=some (.map kt et)) (hA:C[i]? =some A) (hAf:A.fq b∧ ¬ A.wf b) (hC:jc C (gZ kV b m).holds) (hd:Nat.blt d E.n=true)
 (k: ∀ r,RJ E ops Q rest D ((d,.pointer (some ⟨r,0,none⟩))::L) (yd kV r b m m none::C)):RJ E ops Q (⟨some d,.range t xm,ty,ps,af,g⟩::rest) D L C:=by
 intro a w B hs
 have hd':d<E.n:=by rw [← Nat.blt_eq]; exact hd
 unfold rq
 rw [if_pos (d_ B hg)]
 obtain ⟨es,c,he,hi⟩:=hs.has hC
 have G:b<w.heap.size:=ek he
 have F:(getObj b).run E.P w= .ok (.map es c) w:=MapKept.run_getObj_map he
 refine gO (v:= .pointer (some ⟨w.heap.size,0,none⟩)) (w':=w.alloc (.mapIter (some b) c #[] c)) sm ?_ ?_
 ·simp [execOp,Instr.range,B.ev hm,run_underlying ht,F,newObj,Sem.run]
 ·refine k _ _ _ (B.put hd' _) (hs.Ng i hA (dY.alloc no w _) ⟨om,es,c,c,#[],c,?_,hi,heap_alloc_new w _,hi.Ki,Nat.le_refl _,Nat.le_refl _,?_,fun p hp=>by cases hp⟩ (fun q hq=>?_))
  ·rw [Below.heap_alloc w _ b G]; exact he
  ·have:leftOf es #[]=es:=by unfold leftOf; exact Array.filter_eq_self.2 sm
   rw [this]; exact hi.list
  ·rcases hq with rfl|rfl
   ·exact .inl (Nat.le_refl _)
   ·refine .inr ⟨hAf.1,hAf.2,fun (e:q=w.heap.size)=>by omega⟩
theorem Gy (hinj: ∀ x y,kV x=kV y→x=y) {xi:Operand} {r b:Nat} {m left:List (K×Value)} {cur:Option (K×Value)} (i:Nat) (hg:ju ops L g=true) (hm:ev L xi=some (.pointer (some ⟨r,0,none⟩))) (hC:C[i]? =some (yd kV r b m left cur)) (hd:Nat.blt d E.n=true)
 (k0:left=[]→RJ E ops Q rest D ((d,.tuple [.bool false].toArray)::L) C)
 (k1: ∀ x v,(x,v)∈left→(left.map (·.1)).Nodup→RJ E ops Q rest D ((d,.tuple [.bool true,kV x,v].toArray)::L) (C.set i (yd kV r b m (cd left x) (some (x,v))))):
 RJ E ops Q (⟨some d,.next xi false,ty,ps,af,g⟩::rest) D L C:=by
 intro a w G hs
 have hd':d<E.n:=by rw [← Nat.blt_eq]; exact hd
 unfold rq
 rw [if_pos (d_ G hg)]
 obtain ⟨R,es,c,since,seen,st,X,hi,Y,J,V,M,A,_⟩:=hs.holds _ (aX hC)
 rcases run_next_at (P:=E.P) w ty r b since st seen es c Y X J V with ⟨Z,hr⟩|⟨e,he,N,H,hr⟩
 ·refine gO (v:= .tuple #[.bool false]) (w':=w) sm ?_ ?_
  ·simp [execOp,G.ev hm,hr]
  ·refine k0 ?_ _ _ (G.put hd' _) hs
   have:(leftOf es seen).toList=[]:=by rw [← List.length_eq_zero_iff,Array.length_toList]; exact Z
   rw [this] at A
   exact List.map_eq_nil_iff.1 A.symm
 ·have O:(e.key,e.val)∈left.map (fun p=>(kV p.1,p.2)):=by rw [← A]; exact List.mem_map.2 ⟨e,he,rfl⟩
  obtain ⟨p,hp,S⟩:=List.mem_map.1 O
  obtain ⟨x,v⟩:=p
  simp only [Prod.mk.injEq] at S
  obtain ⟨hk,hv⟩:=S
  refine gO (v:= .tuple #[.bool true,e.key,e.val]) (w':=ChangeMaps.setBlock N r (.mapIter (some b) since (seen.push e.born) c)) sm ?_ ?_
  ·simp [execOp,G.ev hm,hr]
  ·rw [← hk,← hv]
   have AA:=wk hinj hi A
   have F:e∈es.toList:=by unfold leftOf at he; rw [Array.toList_filter] at he; exact (List.mem_filter.1 he).1
   have f:c=c:=rfl
   have B:N.heap=w.heap:=by rcases H with rfl|rfl<;>rfl
   refine k1 x v hp AA _ _ (G.put hd' _) (hs.mv i hC ⟨⟨R,es,c,since,seen.push e.born,c,?_,hi,?_,J,M,M,?_,fun q hq=>?_⟩,?_,fun q hq=> .inl hq,fun q hq=> .inl hq⟩)
   ·show (N.heap.setIfInBounds r _)[b]? =_
    rw [Array.getElem?_setIfInBounds_ne R,B]; exact X
   ·show (N.heap.setIfInBounds r _)[r]? =_
    rw [Array.getElem?_setIfInBounds_self_of_lt (by rw [B]; exact ek Y)]
   ·have T:leftOf es (seen.push e.born)=(leftOf es seen).filter (fun z=> !(z.born==e.born)):=by
     unfold leftOf
     rw [Array.filter_filter]
     congr 1
     funext z
     simp only [Array.contains_push,Bool.not_or]
     rw [Bool.and_comm]
    rw [T,Array.toList_filter]
    have key: ∀ (l:List MapEntry) (ll:List (K×Value)),(∀ z∈l,z∈es.toList)→l.map (fun (e:MapEntry)=>(e.key,e.val))=ll.map (fun p=>(kV p.1,p.2))→
     (l.filter (fun z=> !(z.born==e.born))).map (fun (e:MapEntry)=>(e.key,e.val))=(cd ll x).map (fun p=>(kV p.1,p.2)):=by
     intro l
     induction l with
     |nil=>intro ll _ h; cases ll with
      |nil=>rfl
      |cons p ll=>simp at h
     |cons z l ih=>
      intro ll hz h
      cases ll with
      |nil=>simp at h
      |cons p ll=>
       simp only [List.map_cons,List.cons.injEq,Prod.mk.injEq] at h
       have ih':=ih ll (fun y hy=>hz y (by simp [hy])) h.2
       have AB:(z.born=e.born)↔(p.1=x):=by
        constructor
        ·intro hb
         have:z=e:=C_ hi.born (hz z sm) F hb
         rw [this] at h
         have:=h.1.1.symm.trans hk.symm
         exact hinj _ _ this
        ·intro hx
         have W:z.key=e.key:=by rw [h.1.1,hx,hk]
         rw [BP hinj hi (hz z sm) F W]
       unfold cd at ih' ⊢
       by_cases hx:p.1=x
       ·rw [List.filter_cons_of_neg (by simp [AB.2 hx]),List.filter_cons_of_neg (by simp [hx])]; exact ih'
       ·rw [List.filter_cons_of_pos (by simpa using fun hb=>hx (AB.1 hb)),List.filter_cons_of_pos (by simpa using hx)]
        simp only [List.map_cons,h.1.1,h.1.2,ih']
    exact key _ _ (fun z hz=>by unfold leftOf at hz; rw [Array.toList_filter] at hz; exact (List.mem_filter.1 hz).1) A
   ·cases hq
    exact ⟨e,seen,F,U,U,hk.symm,hv.symm⟩
   ·refine ⟨?_,?_,?_,?_,fun q hq hn=>?_⟩
    ·rcases H with rfl|rfl<;>rfl
    ·rcases H with rfl|rfl<;>rfl
    ·rcases H with rfl|rfl<;>rfl
    ·show w.heap.size≤(N.heap.setIfInBounds r _).size
     simp [B]
    ·show (N.heap.setIfInBounds r _)[q]? =_
     rw [Array.getElem?_setIfInBounds_ne (fun e=>hn e.symm),B]
theorem g7 {xi:Operand} {r b:Nat} {m left:List (K×Value)} {x:K} {v:Value} (i:Nat) (hg:ju ops L g=true) (hm:ev L xi=some (.pointer (some ⟨r,0,none⟩))) (hC:C[i]? =some (yd kV r b m left (some (x,v)))):
 SD E ops ⟨dst,.entry xi,ty,ps,af,g⟩ D L C (.tuple [kV x,v].toArray):=
 dJ hg sm fun a w F hs=>by
  obtain ⟨N,es,c,since,seen,st,J,hi,M,H,O,AA,G,B⟩:=hs.holds _ (aX hC)
  obtain ⟨e,A,he,rfl,rfl,hk,hv⟩:=B _ rfl
  have:=run_entry_at (P:=E.P) w r b since A es st e M J he hi.born
  simp [execOp,F.ev hm,this,hk,hv]
theorem g8 (hinj: ∀ x y,kV x=kV y→x=y) {β:Type} {f:β→Value} {xi:Operand} {r b:Nat} {m:List (K×Value)} {ll:List (K×β)} {cur:Option (K×Value)} (i:Nat) (hg:ju ops L g=true) (hm:ev L xi=some (.pointer (some ⟨r,0,none⟩))) (hC:C[i]? =some (yd kV r b m (bM f ll) cur)) (hd:Nat.blt d E.n=true)
 (k0:ll=[]→RJ E ops Q rest D ((d,.tuple [.bool false].toArray)::L) C)
 (k1: ∀ x y,(x,y)∈ll→(ll.map (·.1)).Nodup→RJ E ops Q rest D ((d,.tuple [.bool true,kV x,f y].toArray)::L) (C.set i (yd kV r b m (bM f (cd ll x)) (some (x,f y))))):
 RJ E ops Q (⟨some d,.next xi false,ty,ps,af,g⟩::rest) D L C:=by
 refine Gy hinj i hg hm hC hd (fun h=>k0 (List.map_eq_nil_iff.1 h)) (fun x v B hn=>?_)
 obtain ⟨p,hp,A⟩:=List.mem_map.1 B
 simp only [Prod.mk.injEq] at A
 obtain ⟨rfl,rfl⟩:=A
 have:=k1 p.1 p.2 hp (by simpa [bM,Function.comp_def] using hn)
 rwa [lJ] at this
theorem yD {t kt et:TypeId} {xm xk xv:Operand} {b:Nat} {x:K} {v:Value} {m m':List (K×Value)} {C':List av} (i:Nat) (hg:ju ops L g=true) (hm:ev L xm=some (.map (some b))) (hk:ev L xk=some (kV x)) (hv:ev L xv=some v)
 (ht:E.P.underlying t=some (.map kt et)) (hkt:uq E.P kt kV) (hC:C[i]? =some (gZ kV b m)) (hm':dK m x v=m') (hC':C.set i (gZ kV b m')=C') (k:RJ E ops Q rest D L C'):
 RJ E ops Q (⟨none,.insert t xm xk xv,ty,ps,af,g⟩::rest) D L C:=by
 subst hm' hC'
 intro a w A hs
 unfold rq
 rw [if_pos (d_ A hg)]
 obtain ⟨es,c,he,hi⟩:=hs.holds _ (aX hC)
 have B:(getObj b).run E.P w= .ok (.map es c) w:=MapKept.run_getObj_map he
 rcases oL (P:=E.P) (w:=w) (x:=x) hkt hi with ⟨AA,F⟩|⟨j,N,AA,F,J⟩
 ·refine re (w':={w with heap:=w.heap.setIfInBounds b (.map (es.push {key:=kV x,val:=v,born:=c}) (c+1))}) sm ?_ ?_
  ·simp [execOp,A.ev hm,A.ev hk,A.ev hv,Instr.mapUpdate,run_underlying ht,B,iH hkt,AA,MapKept.run_setObj_map _ he]
  ·refine k _ _ ⟨A.defers,A.size,A.at_⟩ (hs.Dg (b:=b) i hC U U (mV _) (fun _ h=>h) ⟨_,_,o4 he,?_⟩)
   have:dK m x v=m++[(x,v)]:=by unfold dK; rw [F]; rfl
   rw [this]; exact hi.push F v
 ·have M:=hi.size
  have G:j<es.size:=by have:=(List.getElem?_eq_some_iff.1 F).1; omega
  have H:(es[j]).key=kV x:=by
   have:=congrArg (fun l=>l[j]?) hi.list
   simp [G,F] at this
   exact this.1
  refine re (w':={w with heap:=w.heap.setIfInBounds b (.map (es.modify j fun e=>{e with key:=kV x,val:=v}) c)}) sm ?_ ?_
  ·simp [execOp,A.ev hm,A.ev hk,A.ev hv,Instr.mapUpdate,run_underlying ht,B,iH hkt,AA,MapKept.run_setObj_map _ he,Instr.keyThatStays,G,H,hkt.bits x]
  ·exact k _ _ ⟨A.defers,A.size,A.at_⟩ (hs.Dg (b:=b) i hC U U (mV _) (fun _ h=>h) ⟨_,_,o4 he,hi.set F J v⟩)
end
end
end
section
open Go.RowKit
def TH {σ:Type} (w0:World) (P:Program) (l:Nat) (step:σ→List Value→σ→Prop) (J:σ→av→Prop) (Z:av→Prop):Prop:=
 ∀ k x k' A w,step k x k'→J k A→w0.heap.size≤w.heap.size→A.holds w→YieldAt (Fw none) 0 P l x.toArray w fun e w'=>
  (e= .returned (.bool true)∧ ∃ B,J k' B∧Mv A B w w')∨(e= .returned (.bool false)∧ ∃ B,Z B∧Mv A B w w')
def Jj {σ:Type} (J:σ→av→Prop) (Z:av→Prop) (fin:σ→Prop) (A0:av) (w0:World) (e:Ending) (w':World):Prop:=
 ∃ v,e= .returned v∧((∃ s B,fin s∧J s B∧Mv A0 B w0 w')∨ ∃ B,Z B∧Mv A0 B w0 w')
structure Ej {σ:Type} (P:Program) (f:FuncId) (fi ca:List Value) (Cp:List av) (s0:σ) (step:σ→List Value→σ→Prop) (fin:σ→Prop):Prop where
 go:rV P f=true
 run: ∀ (l:Nat) (J:σ→av→Prop) (Z:av→Prop) (A0:av) (w:World),TH w P l step J Z→J s0 A0→A0.holds w→(∀ A∈Cp,A.holds w)→(∀ A∈Cp,Dj A0 A.ro)→
  Calls P f (fi++Value.func (.yield l) #[] #[]::ca).toArray w (Jj J Z fin A0 w)
theorem KS {σ:Type} {J:σ→av→Prop} {Z:av→Prop} {n:σ} {fin:σ→Prop} {A0 B:av} {w0 w:World} {C:List av} {v:Value} (i:Nat) (hC:C[i]? =some B) (hfin:fin n) (hJ:J n B) (hF:Fo A0 w0 B) (hs:St ⟨A0.wf,fun _=>True⟩ w0 C w):Jj J Z fin A0 w0 (.returned v) w:=
 ⟨v,rfl,.inl ⟨n,B,hfin,hJ,hs.holds B (aX hC),hs.keeps,fun b hb=>(hs.own B (aX hC) b hb).symm,hF⟩⟩
theorem rI {σ:Type} {J:σ→av→Prop} {Z:av→Prop} {fin:σ→Prop} {A0 B:av} {w0 w:World} {C:List av} {v:Value} (i:Nat) (hC:C[i]? =some B) (hJ:Z B) (hF:Fo A0 w0 B) (hs:St ⟨A0.wf,fun _=>True⟩ w0 C w):Jj J Z fin A0 w0 (.returned v) w:=
 ⟨v,rfl,.inr ⟨B,hJ,hs.holds B (aX hC),hs.keeps,fun b hb=>(hs.own B (aX hC) b hb).symm,hF⟩⟩
theorem sX {σ:Type} {P:Program} {f:FuncId} {fn:Func} {c:Code} {fi ca:List Value} {Cp:List av} {s0:σ} {step:σ→List Value→σ→Prop} {fin:σ→Prop} (hgo:rV P f=true) (hf:P.funcs[f]? =some fn) (hb:fn.body=some c) (hn:Nat.ble (fi.length+ca.length+1) fn.ntmps=true)
 (h: ∀ (l:Nat) (J:σ→av→Prop) (Z:av→Prop) (A0:av) (w0:World) (Q:cZ),TH w0 P l step J Z→J s0 A0→Fo A0 w0 A0→
  (∀ D L C,LJ ⟨P,none,fn.ntmps,⟨A0.wf,fun _=>True⟩,w0⟩ fn (Jj J Z fin A0 w0) D L C→KJ ⟨P,none,fn.ntmps,⟨A0.wf,fun _=>True⟩,w0⟩ (Q .ret) D L C)→
  (∀ D L C,LJ ⟨P,none,fn.ntmps,⟨A0.wf,fun _=>True⟩,w0⟩ fn (Jj J Z fin A0 w0) D L C→KJ ⟨P,none,fn.ntmps,⟨A0.wf,fun _=>True⟩,w0⟩ (Q .normal) D L C)→
  WJ ⟨P,none,fn.ntmps,⟨A0.wf,fun _=>True⟩,w0⟩ c Q [] (Pa (fi++Value.func (.yield l) #[] #[]::ca)) (A0::Cp.map av.ro)):Ej P f fi ca Cp s0 step fin:=by
 refine ⟨hgo,fun l J Z A0 w hY hJ hA F E=>?_⟩
 refine D5 hf hb (by simpa [Nat.add_assoc] using hn) (h l J Z A0 w · hY hJ (fun b hb=> .inl hb)) ?_
 have G:=sK F
 refine ⟨dY.refl _ _,fun A hA'=>?_,List.Pairwise.cons (fun B hB=>?_) G.sep,fun A hA' b hb=>?_,fun _ _ _ _=> .inr trivial⟩
 ·rcases List.mem_cons.1 hA' with rfl|hA'
  ·exact hA
  ·exact G.holds A hA'
 ·obtain ⟨B',hB',rfl⟩:=List.mem_map.1 hB
  exact E B' hB'
 ·rcases List.mem_cons.1 hA' with rfl|hA'
  ·exact .inr hb
  ·obtain ⟨B',hB',rfl⟩:=List.mem_map.1 hA'
   exact hb.elim
section
variable {E:ff} {ops:Array Oper} {Q:cZ} {rest:List Oper} {D:List Deferred} {L:List (Nat×Value)} {C:List av}
variable {d:Nat} {ty:TypeId} {ps:String} {af:Array Edge} {g:Option (Nat×Bool)}
/-- a call of yield -/
theorem kB {σ:Type} {fop:Operand} {xs:Array Operand} {ts:Array TypeId} {l:Nat} {k k':σ} {vs:List Value} {step:σ→List Value→σ→Prop} {J:σ→av→Prop} {Z:av→Prop} {A0 A:av} {w1:World} (i:Nat) (hw1:w1.heap.size≤E.w0.heap.size) (hY:TH w1 E.P l step J Z) (hJ:J k A) (hF:Fo A0 w1 A) (hg:ju ops L g=true) (hf:ev L fop=some (.func (.yield l) #[] #[]))
 (hx:evs L xs.toList=some vs) (hk:step k vs k') (hC:C[i]? =some A) (hd:Nat.blt d E.n=true)
 (k1: ∀ B,J k' B→Fo A0 w1 B→RJ E ops Q rest D ((d,.bool true)::L) (C.set i B))
 (k2: ∀ B,Z B→Fo A0 w1 B→RJ E ops Q rest D ((d,.bool false)::L) (C.set i B)):
 RJ E ops Q (⟨some d,.call {callee:= .value fop,args:=xs,argTypes:=ts},ty,ps,af,g⟩::rest) D L C:=by
 intro a w F hs
 have hd':d<E.n:=by rw [← Nat.blt_eq]; exact hd
 unfold rq
 rw [if_pos (d_ F hg)]
 have K:xs.map a.eval=vs.toArray:=by
  have:=F.evs hx
  apply Array.ext'
  simp [this]
 obtain ⟨fn,tmps,assign,body,hy,hr⟩:=hY k vs k' A w hk hJ (Nat.le_trans hw1 hs.keeps.size) (hs.holds A (aX hC))
 have H:(execOp a.eval ⟨some d,.call {callee:= .value fop,args:=xs,argTypes:=ts},ty,ps,af,g⟩).run E.P w= .ok (.round l fn tmps assign body) w:=by
  simp [execOp,resolve,F.ev hf,Deferred.ofValue,invoke,K,hy]
 refine ⟨fun _ _=>trivial,?_⟩
 rw [Oper.semAt_eq _ _ _ sm,H]
 refine ⟨fun h=>by simp at h,?_⟩
 have G: ∀ (B:av) (w':World),Mv A B w w'→Fo A0 w1 B:=fun B w' m b hb=>by
  rcases m.fq b hb with AA|AA
  ·exact hF b AA
  ·exact .inr (Nat.le_trans hw1 (Nat.le_trans hs.keeps.size AA))
 have hr':RoundIn (Fw E.r) 0 E.P l fn tmps assign body w _:=hr
 refine hr'.mono fun e w' he=>?_
 rcases he with ⟨rfl,B,hB,m⟩|⟨rfl,B,hB,m⟩
 ·exact k1 B hB (G B w' m) _ _ (F.put hd' _) (hs.mv i hC m)
 ·exact k2 B hB (G B w' m) _ _ (F.put hd' _) (hs.mv i hC m)
end
theorem nz {σ:Type} {E:ff} {Q:cZ} {D:List Deferred} {L L0:List (Nat×Value)} {C F:List av} {g:Operand} {ps:Array Tmp} {assign body:Code} {f:FuncId} {fi ca:List Value} {Cp:List av} {s0:σ} {step:σ→List Value→σ→Prop} {fin_:σ→Prop} {ι κ:Type}
 (inv:σ→ι→Prop) (Ci:σ→ι→List av) (invx:Code→κ→Prop) (Cx:Code→κ→List av) (isJ isF:List Nat) (y0:ι)
 (hr:E.r=none) (hg:ev L g=some (.func (.func f) fi.toArray ca.toArray)) (hs:Ej E.P f fi ca Cp s0 step fin_)
 (hnd:decide (isJ++isF).Nodup=true) (hJ:kj C isJ=Ci s0 y0) (hF:kj C isF=F) (h0:inv s0 y0) (hCp: ∀ A∈Cp,∃ B∈F,L_ B A)
 (hps: ∀ k x k',step k x k'→x.length=ps.size) (hpn:ps.toList.all (fun t=>Nat.blt t E.n)=true) (hL:dx L L0)
 (round: ∀ (k:σ) (x:List Value) (k':σ) (y:ι) (l:Nat) (ra rb:Loop) (S:BS) (w0:World) (K:Act→World→Prop) (Qr:cZ),E.w0.heap.size≤w0.heap.size→step k x k'→inv k y→
  (∀ L' C',WJ ⟨E.P,some l,E.n,S,w0⟩ body Qr [] L' (lg l (.loop rb)::C')→KJ ⟨E.P,some l,E.n,S,w0⟩ K [] L' (lg l (.loop ra)::C'))→
  (∀ y' L' C',inv k' y'→(∀ w,St S w0 C' w→St S w0 (lg l (.loop rb)::Ci k' y') w)→KJ ⟨E.P,some l,E.n,S,w0⟩ (Qr .normal) [] L' C')→
  (∀ id z L' C',invx (.exit id) z→(∀ w,St S w0 C' w→St S w0 (lg l (.loop rb)::Cx (.exit id) z) w)→KJ ⟨E.P,some l,E.n,S,w0⟩ (Qr (.exit id)) [] L' C')→
  (∀ z L' C',invx .ret z→(∀ w,St S w0 C' w→St S w0 (lg l (.loop rb)::Cx .ret z) w)→KJ ⟨E.P,some l,E.n,S,w0⟩ (Qr .ret) [] L' C')→
  WJ ⟨E.P,some l,E.n,S,w0⟩ assign (Exit.then K (fun _ _ _=>False)) [] (BH ps.toList x L0) (lg l (.loop ra)::Ci k y))
 (fin: ∀ r s y,fin_ s→inv s y→KJ E (Q .normal) (lq r::D) L0 (lg r (.deferred (some []))::(F++Ci s y)))
 (finx: ∀ r id z,invx (.exit id) z→KJ E (Q (.exit id)) (lq r::D) L0 (lg r (.deferred (some []))::(F++Cx (.exit id) z)))
 (finr: ∀ r z,invx .ret z→KJ E (Q .ret) (lq r::D) L0 (lg r (.deferred (some []))::(F++Cx .ret z))):WJ E (.rangeFunc g ps assign body) Q D L C:=by
 intro a w hf q
 refine wpIn_rangeFunc fun fn _=>?_
 show ∃ l lq w₁ d w₁' f args w₂,(Instr.enterLoop fn a.tmps ps assign body E.r).run E.P w= .ok (l,lq) w₁∧_
 rw [hr]
 obtain ⟨rec,G⟩: ∃ rec:LoopState→Option Code→Loop,rec=fun st pe=>{state:=st,pending:=pe,fn,tmps:=a.tmps,params:=ps,assign,body,defers:=w.heap.size}:=⟨_,rfl⟩
 obtain ⟨W1,R⟩: ∃ W1,(w.alloc (.deferred (some []))).alloc (.loop (rec .ready none))=W1:=⟨_,rfl⟩
 have AE:a.eval g= .func (.func f) fi.toArray ca.toArray:=hf.ev hg
 have p:(Instr.enterLoop fn a.tmps ps assign body none).run E.P w= .ok (w.heap.size+1,[lq w.heap.size]) W1:=by
  rw [← R,G]; exact run_enterLoop_outer _ _ _ _ _
 -- the state with the record and the block
 have u:St E.S E.w0 ((lg (w.heap.size+1) (.loop (rec .ready none))::Ci s0 y0)++(lg w.heap.size (.deferred (some []))::F)) W1:=by
  have X:St E.S E.w0 (Ci s0 y0++F) w:=St.kj (isJ++isF) hnd (by have X:=hJ; have j:=hF; unfold Go.Proofs.YtdllkkdchkhimaaGreatDoor.kj at X j ⊢; rw [List.filterMap_append,X,j]) q
  have hn:Ns w W1 [lg (w.heap.size+1) (.loop (rec .ready none)),lg w.heap.size (.deferred (some []))]:=by
   refine ⟨fun A hA=>?_,fun A hA b hb=>?_,?_⟩
   ·rcases List.mem_cons.1 hA with rfl|hA
    ·show W1.heap[w.heap.size+1]? =_
     rw [← R]; have:=World.alloc_heap_new (w.alloc (.deferred (some []))) (.loop (rec .ready none)); rwa [World.size_alloc] at this
    ·simp only [bW] at hA; subst hA
     show W1.heap[w.heap.size]? =_
     rw [← R]; exact (Below.heap_alloc _ _ _ sm).trans (World.alloc_heap_new w _)
   ·rcases List.mem_cons.1 hA with rfl|hA
    ·have:b=w.heap.size+1:=hb
     omega
    ·simp only [bW] at hA; subst hA
     have:b=w.heap.size:=hb
     omega
   ·refine List.Pairwise.cons (fun B hB b X j=>?_) (List.pairwise_singleton _ _)
    simp only [bW] at hB; subst hB
    have V:b=w.heap.size+1:=X
    have O:b=w.heap.size:=j
    omega
  have hk:dY no w W1:=by rw [← R]; exact (dY.alloc no w _).trans (dY.alloc no _ _)
  have j:=X.grow hk hn
  refine j.perm ?_
  simp only [List.cons_append,List.nil_append]
  exact List.Perm.cons _ (List.perm_middle.symm)
 have Y:=u.tied
 obtain ⟨H,AJ⟩:=List.pairwise_cons.1 Y.sep
 have AC:=Y.holds _ (cm ..)
 let J:σ→av→Prop:=fun k A=> ∃ y,inv k y∧A=bo (lg (w.heap.size+1) (.loop (rec .ready none))::Ci k y)
 let Z:av→Prop:=fun A=> ∃ c z,(c= .ret∨ ∃ id,c= .exit id)∧invx c z∧A=bo (lg (w.heap.size+1) (.loop (rec .done (some c)))::Cx c z)
 refine ⟨w.heap.size+1,[lq w.heap.size],W1,{target:= .fn (.func f) ca.toArray,args:=fi.toArray++ #[.func (.yield (w.heap.size+1)) #[] #[]]},W1,f,
  (fi++Value.func (.yield (w.heap.size+1)) #[] #[]::ca).toArray,W1,p,?_,fun _ _=>trivial,?_,fun h=>by simp at h,?_⟩
 ·simp only [resolve,AE]
  simp [Deferred.ofValue,Act.eval]
 ·have:fi.toArray++ #[Value.func (.yield (w.heap.size+1)) #[] #[]]++ca.toArray=(fi++Value.func (.yield (w.heap.size+1)) #[] #[]::ca).toArray:=by simp
  simp [invoke,pn hs.go]
 ·refine (qm E.r (hs.run (w.heap.size+1) J Z _ W1 ?_ ⟨y0,h0,U⟩ AC ?_ ?_)).mono ?_
  ·-- a round
   rintro k x k' A W hx ⟨y,hy,rfl⟩ AD hA
   have hl:W.heap[w.heap.size+1]? =some (.loop (rec .ready none)):=hA.1 _ (cm ..)
   have AA:=run_yield (P:=E.P) (args:=x.toArray) hl (by rw [G]; simpa using hps k x k' hx)
   rw [G] at AA
   refine ⟨fn,_,assign,body,AA,roundIn_of_wpIn trivial ?_⟩
   let A:av:=bo (lg (w.heap.size+1) (.loop (rec .ready none))::Ci k y)
   have AF:Fr E.n [] (BH ps.toList x L0) {tmps:=(ps.zip x.toArray).foldl (fun tmps (t,a)=>tmps.setIfInBounds t a) a.tmps,defers:=[]}:=by
    have X:=KU ps.toList x L0 a.tmps (fun t ht=>by have:=List.all_eq_true.1 hpn t ht; rwa [Nat.blt_eq] at this) ⟨rfl,hf.size,fun t v hv=>hf.at_ t v (hL t v hv)⟩
    rw [← Array.foldl_toList]
    simpa using X
   have o: ∀ (c:Option Code) (b:Bool),({rec .busy none with state:=if b then .ready else .done,pending:=c}:Loop)=rec (if b then .ready else .done) c:=fun c b=>by rw [G]
   have T: ∀ (c:Option Code) (N:World) (C':List av) (S:BS),St S W (lg (w.heap.size+1) (.loop (rec .busy none))::C') N→
    ∃ M,(Instr.endRound (w.heap.size+1) c).run E.P N= .ok (.bool c.isNone) M∧St S W (lg (w.heap.size+1) (.loop (rec (if c.isNone then .ready else .done) c))::C') M:=fun c N C' S H=>by
    have AI:N.heap[w.heap.size+1]? =some (.loop (rec .busy none)):=H.holds _ (cm ..)
    refine ⟨_,run_endRound c AI,?_⟩
    have:=H.Dg (b:=w.heap.size+1) (A':=lg (w.heap.size+1) (.loop (rec (if c.isNone then .ready else .done) c))) 0 rfl rfl rfl (ji _) (fun _ h=>h) (World.putObj_heap_same (ek AI))
    rw [o]
    exact this
   refine round k x k' y (w.heap.size+1) (rec .ready none) (rec .busy none) ⟨A.wf,A.fq⟩ W _ (roundPost E.P (w.heap.size+1) (fun e w'=>(e= .returned (.bool true)∧ ∃ B,J k' B∧Mv A B W w')∨(e= .returned (.bool false)∧ ∃ B,Z B∧Mv A B W w'))) (Nat.le_trans (Nat.le_trans q.keeps.size (by rw [← R]; simp; omega)) AD) hx hy ?_ ?_ ?_ ?_ _ _ AF (St.FY hA)
   ·intro L' C' hW a1 N i H
    have AI:N.heap[w.heap.size+1]? =some (.loop (rec .ready none)):=H.holds _ (cm ..)
    refine ⟨_,run_beginRound AI (by rw [G]),hW _ _ i ?_⟩
    have:=H.Dg (b:=w.heap.size+1) (A':=lg (w.heap.size+1) (.loop (rec .busy none))) 0 rfl rfl rfl (ji _) (fun _ h=>h) (World.putObj_heap_same (ek AI))
    have e:({rec .ready none with state:= .busy}:Loop)=rec .busy none:=by rw [G]
    rw [e]; exact this
   ·intro y' L' C' hy' hC' a1 N i H
    obtain ⟨M,V,O⟩:=T none N _ _ (hC' _ H)
    exact ⟨_,M,V,.inl ⟨U,_,⟨y',hy',U⟩,Mv.of O⟩⟩
   ·intro id z L' C' hz hC' a1 N i H
    obtain ⟨M,V,O⟩:=T (some (.exit id)) N _ _ (hC' _ H)
    exact ⟨_,M,V,.inr ⟨U,_,⟨_,z,.inr ⟨id,U⟩,hz,U⟩,Mv.of O⟩⟩
   ·intro z L' C' hz hC' a1 N i H
    obtain ⟨M,V,O⟩:=T (some .ret) N _ _ (hC' _ H)
    exact ⟨_,M,V,.inr ⟨U,_,⟨_,z,.inl U,hz,U⟩,Mv.of O⟩⟩
  ·intro A hA
   obtain ⟨B,hB,hc⟩:=hCp A hA
   exact hc.holds _ (Y.holds B (cS _ (cS _ hB)))
  ·intro A hA b hb hb'
   obtain ⟨B,hB,hc⟩:=hCp A hA
   exact ⟨(H B (cS _ hB) b hb (hc.fq b hb')).1,fun h=>h⟩
  ·rintro e w' ⟨v,rfl,hh⟩
   have AB:Fr E.n (lq w.heap.size::D) L0 {a with defers:=[lq w.heap.size]++a.defers}:=⟨by simp [hf.defers],hf.size,fun t v hv=>hf.at_ t v (hL t v hv)⟩
   have hleave: ∀ (st:LoopState) (c:Option Code) (C':List av),st≠ .busy→Mv (bo (lg (w.heap.size+1) (.loop (rec .ready none))::Ci s0 y0)) (bo (lg (w.heap.size+1) (.loop (rec st c))::C')) W1 w'→
    ∃ M,(Instr.endLoop (w.heap.size+1)).run E.P w'= .ok c M∧St E.S E.w0 (lg w.heap.size (.deferred (some []))::(F++C')) M:=fun st c C' AH m=>by
    have X:=(Y.mv 0 rfl m).ig
    have h1':St E.S E.w0 ((lg (w.heap.size+1) (.loop (rec st c))::C')++(lg w.heap.size (.deferred (some []))::F)) w':=X
    have AI:w'.heap[w.heap.size+1]? =some (.loop (rec st c)):=h1'.holds (lg (w.heap.size+1) (.loop (rec st c))) sm
    refine ⟨_,by have:=run_endLoop (P:=E.P) AI (by rw [G]; exact AH); rw [this,G],?_⟩
    have j:=h1'.Dg (b:=w.heap.size+1) (A':=lg (w.heap.size+1) (.loop {rec st c with state:= .exhausted})) 0 rfl rfl rfl (ji _) (fun _ h=>h) (World.putObj_heap_same (ek AI))
    have h3:St E.S E.w0 (C'++(lg w.heap.size (.deferred (some []))::F)) _:=j.take (List.sublist_cons_self _ _)
    rw [G] at h3
    refine h3.perm ?_
    exact (List.perm_append_comm).trans sm
   rcases hh with ⟨s,B,AG,⟨y,hy,rfl⟩,m⟩|⟨B,⟨c,z,hc,hz,rfl⟩,m⟩
   ·obtain ⟨M,V,O⟩:=hleave .ready none _ sm m
    exact ⟨none,M,V,fin w.heap.size s y AG hy _ _ AB O⟩
   ·obtain ⟨M,V,O⟩:=hleave .done (some c) _ sm m
    refine ⟨some c,M,V,?_⟩
    rcases hc with rfl|⟨id,rfl⟩
    ·exact wpIn_ret (finr w.heap.size z hz _ _ AB O)
    ·exact wpIn_exit (finx w.heap.size id z hz _ _ AB O)
end
section
open Go.RowKit
/-- where a row lies, and its capacity -/
abbrev RA:=OA×Nat
/-- what is asked of memory by all elements -/
def aU {M A:Type} (f:M→A→List av):List M→List A→List av
 |m::ms,a::asl=>f m a++aU f ms asl
 |_,_=>[]
theorem cj {M A:Type} {f:M→A→List av}: ∀ {ms:List M} {asl:List A} {k:Nat} {m:M} {a:A} {X:av},ms[k]? =some m→asl[k]? =some a→X∈f m a→X∈aU f ms asl
 |[],_,k,m,a,X,h,_,_=>by simp at h
 |_::_,[],k,m,a,X,_,h,_=>by simp at h
 |x::ms,y::asl,0,m,a,X,h,h2,hX=>by
  simp at h h2; subst h h2
  exact List.mem_append_left _ hX
 |x::ms,y::asl,k+1,m,a,X,h,h2,hX=>List.mem_append_right _ (cj (ms:=ms) (asl:=asl) (k:=k) (by simpa using h) (by simpa using h2) hX)
theorem jJ {M A:Type} {f:M→A→List av}: ∀ {ms:List M} {asl:List A} {X:av},X∈aU f ms asl→ ∃ (k:Nat) (m:M) (a:A),ms[k]? =some m∧asl[k]? =some a∧X∈f m a
 |[],_,X,h=>by cases h
 |_::_,[],X,h=>by cases h
 |x::ms,y::asl,X,h=>by
  rcases List.mem_append.1 h with h|h
  ·exact ⟨0,x,y,U,U,h⟩
  ·obtain ⟨k,m,a,B,C,D⟩:=jJ h
   exact ⟨k+1,m,a,by simpa using B,by simpa using C,D⟩
theorem jN {M A:Type} {f:M→A→List av}: ∀ {ms:List M} {asl:List A} {ns:List M} {bs:List A},ms.length=asl.length→aU f (ms++ns) (asl++bs)=aU f ms asl++aU f ns bs
 |[],[],ns,bs,_=>rfl
 |[],_::_,ns,bs,h=>by simp at h
 |_::_,[],ns,bs,h=>by simp at h
 |x::ms,y::asl,ns,bs,h=>by
  simp only [List.cons_append,aU,List.append_assoc]
  rw [jN (by simpa using h)]
theorem dZ {M A β:Type} {f:M→A→β} {ms:List M} {asl:List A} {k:Nat} {m:M} {a:A} (h:ms[k]? =some m) (h2:asl[k]? =some a):(List.zipWith f ms asl)[k]? =some (f m a):=by
 rw [List.getElem?_zipWith,h,h2]
theorem dy {C L:List av} {A:av} (i:Nat) (hC:C[i]? =some (e7 L).ro) (hm:A∈L):jc C A.holds:=fun w hw=>hw _ (aX hC) A hm
theorem dW {M A:Type} {f g:M→A→List av} {ms:List M} {asl:List A} {C:List av} (i:Nat) (hC:C[i]? =some (bo (aU g ms asl))) (h: ∀ m a w,(∀ X∈g m a,X.holds w)→ ∀ X∈f m a,X.holds w):jc C (e7 (aU f ms asl)).holds:=fun w hw X hX=>by
 have hb:=hw _ (aX hC)
 obtain ⟨k,m,a,B,D,E⟩:=jJ hX
 exact h m a w (fun Y hY=>hb.1 Y (cj B D hY)) X E
/-- a row that is part of another one -/
theorem NV {C:List av} {A:OA} {n k sz:Nat} {es:List (List Value)} (hR:jc C (rd A n sz es).holds) (hk:k≤n):jc C (rd A k sz (es.take k)).holds:=fun w hw=>by
 obtain ⟨D,E,F⟩:=hR w hw
 refine ⟨by rw [List.length_take,D]; omega,fun x hx=>E x (List.mem_of_mem_take hx),fun hp=>?_⟩
 have G:0<k:=Nat.pos_of_mul_pos_right hp
 have hs:0<sz:=Nat.pos_of_mul_pos_left hp
 obtain ⟨ad,hA,B⟩:=F (Nat.mul_pos om hs)
 refine ⟨ad,hA,fun i e j v he hv=>B i e j v ?_ hv⟩
 rw [List.getElem?_take] at he
 split at he
 ·exact he
 ·cases he
section
variable {E:ff} {ops:Array Oper} {Q:cZ} {rest:List Oper} {D:List Deferred} {L:List (Nat×Value)} {C:List av}
variable {d:Nat} {ty:TypeId} {ps:String} {af:Array Edge} {g:Option (Nat×Bool)}
/-- an element of a slice that is the head of a row -/
theorem RU (k:Nat) {x ix:Operand} {A:OA} {n n' c sz e t:Nat} {es:List (List Value)} {j:Int} (h:bF E.n ops L d g x ix=some (.slice A n' c,.int .i64 j)) (hR:jc C (rd A n sz es).holds)
 (ht:tE E.P t=some (e,sz)) (hz:0<sz) (hj:j=(k:Int)) (hk:k<n') (hn:n'≤n):SE E ops ⟨some d,.indexAddr t x ix,ty,ps,af,g⟩ D L C (.pointer (lG A (k*sz))) d:=IA k h (NV hR hn) ht hz hj hk
end
theorem St.tie {S:BS} {w0 w:World} {C:List av} {A:av} {L L':List av} (h:St S w0 (A::bo L::C) w) (e:L++[A]=L'):St S w0 (bo L'::C) w:=by
 subst e
 have B:St S w0 (bo L::A::C) w:=h.perm (List.Perm.swap _ _ _)
 have D:St S w0 (L++(A::C)) w:=B.ig
 have E:St S w0 ((L++[A])++C) w:=by simpa using D
 exact E.tied
theorem St.Pj {S:BS} {w0 w:World} {C:List av} (h:St S w0 C w):St S w0 (bo []::C) w:=St.tied (C1:=[]) h
section
variable {E:ff} {Q:cZ} {D:List Deferred} {L:List (Nat×Value)} {C:List av}
theorem ox {c:Code} (h:WJ E c Q D L (bo []::C)):WJ E c Q D L C:=fun a w hf hs=>h a w hf hs.Pj
theorem xY {ops:Array Oper} {rest:List Oper} (h:RJ E ops Q rest D L (bo []::C)):RJ E ops Q rest D L C:=fun a w hf hs=>h a w hf hs.Pj
theorem BV {K:Act→World→Prop} {C1:List av} {A:av} {X X':List av} (i j:Nat) (hn:decide (j::i::(List.range C.length).filter fun k=>k != i&&k != j).Nodup=true) (hC:kj C (j::i::(List.range C.length).filter fun k=>k != i&&k != j)=A::bo X::C1) (e:X++[A]=X')
 (h:KJ E K D L (bo X'::C1)):KJ E K D L C:=fun a w hf hs=>h a w hf ((St.kj _ hn hC hs).tie e)
theorem Ou {ops:Array Oper} {rest:List Oper} {C1:List av} {A:av} {X X':List av} (i j:Nat) (hn:decide (j::i::(List.range C.length).filter fun k=>k != i&&k != j).Nodup=true) (hC:kj C (j::i::(List.range C.length).filter fun k=>k != i&&k != j)=A::bo X::C1) (e:X++[A]=X')
 (h:RJ E ops Q rest D L (bo X'::C1)):RJ E ops Q rest D L C:=fun a w hf hs=>h a w hf ((St.kj _ hn hC hs).tie e)
end
end
section
open Go.RowKit
abbrev df:aa→Value:=fun s=>vA (aa.cells s)
abbrev ep:aC→Value:=fun s=>vA (aC.cells s)
abbrev TM:=List (Int×aa)
abbrev FM:=List (aC×Int)
def gJ {α:Type} (m:α) (b:Nat):List Value:=[Value.map (some b)]
def rh (m:TM) (b:Nat):List av:=[gZ iV b (bM df m)]
def nM (m:FM) (b:Nat):List av:=[gZ ep b (bM iV m)]
theorem xW {M A:Type} {f:M→A→List av}: ∀ (m:M) (a:A) (w:World),(∀ X∈f m a,X.holds w)→ ∀ X∈f m a,X.holds w:=fun _ _ _ h=>h
/-- untied -/
theorem MJ {E:ff} {ops:Array Oper} {Q:cZ} {rest:List Oper} {D:List Deferred} {L:List (Nat×Value)} {C X C1:List av} (i:Nat) (hn:decide (i::(List.range C.length).filter fun k=>k != i).Nodup=true) (hC:kj C (i::(List.range C.length).filter fun k=>k != i)=bo X::C1)
 (h:RJ E ops Q rest D L (X++C1)):RJ E ops Q rest D L C:=fun a w hf hs=>h a w hf (St.ig (St.kj _ hn hC hs))
end
section
def cK (ln:bK) (rd:eK) (e:List Int) (tms:List TM):bT:=⟨rd.Start,rd.gh,e,tms,ln.bL,ln.cv,(rd.aj.n:Int)⟩
def OT (o:Int×aa):List Value:=[.int .i64 o.1,.agg (aa.cells o.2).toArray]
structure Hh (w:bT):Prop where
 n:w.n≤6
 times:w.ve.length=w.n
 now:0≤w.Start∧w.Start≤w.gh∧w.gh≤86400000
 least: ∀ x∈w.pS,1≤x∧x≤500000000
 F5: ∀ t∈w.ve,∀ p∈t,(0≤p.1∧p.1≤10)∧0≤p.2.Lo∧p.2.Lo≤p.2.Hi∧p.2.Hi≤86400000
theorem Hh.opt {w:bT} (h:Hh w) {b:Nat} {o:Int×aa} (ho:o∈il w b):(-1≤o.1∧o.1≤10)∧0≤o.2.Lo∧o.2.Lo≤o.2.Hi∧o.2.Hi≤86400000:=by
 unfold il tw at ho
 rcases List.mem_cons.1 ho with rfl|ho
 ·have:=h.now; simp only; omega
 ·cases ht:w.ve[b]? with
  |none=>simp [ht] at ho
  |some t=>
   rw [ht] at ho
   have:=h.F5 t (aX ht) o ho
   omega
theorem Hh.bV {w:bT} (h:Hh w) (b:Nat):0≤bV w b∧bV w b≤500000000:=by
 unfold Go.Proofs.YtdllkkdchkhimaaGreatDoor.bV
 cases ht:w.pS[b]? with
 |none=>simp
 |some x=>have:=h.least x (aX ht); simp only [Option.getD_some]; omega
theorem ur (s:Int):(0≤(fp s).right∧0≤(fp s).eU)∧(fp s).right+(fp s).eU=1:=by unfold fp; split<;>simp
theorem J0 {w:bT} (h:Hh w): ∀ (b:Nat) p,p∈fwd w b→(0≤p.2∧p.2≤86400000)∧(0≤p.1.right∧0≤p.1.eU)∧p.1.right+p.1.eU=(b:Int):=by
 intro b
 induction b with
 |zero=>
  intro p hp
  simp only [fwd,bW] at hp
  subst hp
  have:=h.now; simp only; omega
 |succ b ih=>
  intro q hq
  obtain ⟨p,hp,o,ho,e⟩:=fP.1 hq
  have A:=ih p hp
  have B:=h.opt ho
  have C:=h.bV b
  have D:=h.now
  have E:=ur o.1
  unfold kF at e
  split at e
  ·simp only [Option.some.injEq] at e
   subst e
   simp only [du]
   omega
  ·cases e
theorem Sn {w:bT} (h:Hh w): ∀ (k:Nat) p,p∈bwd w k→(-(500000000*(k:Int))≤p.2∧p.2≤86400000)∧(0≤p.1.right∧0≤p.1.eU)∧p.1.right+p.1.eU≤(k:Int):=by
 intro k
 induction k with
 |zero=>
  intro p hp
  simp only [bwd,bW] at hp
  subst hp
  have:=h.now; simp only; omega
 |succ k ih=>
  intro q hq
  simp only [bwd,eA,List.mem_flatMap,List.mem_filterMap] at hq
  rcases hq with rfl|⟨p,hp,o,ho,e⟩
  ·have:=h.now; simp only; omega
  ·have A:=ih p hp
   have B:=h.opt ho
   have C:=h.bV (w.n-(k+1))
   have D:=h.now
   have E:=ur o.1
   unfold nN at e
   split at e
   ·simp only [Option.some.injEq] at e
    subst e
    simp only [du]
    omega
   ·cases e
theorem Lq {w:bT} (h:Hh w) {b:Nat} {p:aC×Int} (hp:p∈back w b):(-3000000000≤p.2∧p.2≤86400000)∧(0≤p.1.right∧0≤p.1.eU)∧p.1.right+p.1.eU≤6:=by
 have:=Sn h _ _ hp
 have:=h.n
 omega
theorem wJ {w:bT} {b:Nat} {t:TM} (ht:w.ve[b]? =some t) {o:Int×aa}:o∈il w b↔o=(-1,⟨w.Start,w.gh⟩)∨o∈t:=by
 unfold il tw; rw [ht]; simp
theorem lK {K β:Type} [DecidableEq K] {l:List (K×β)} {x:K} {y:β} (hn:(l.map (·.1)).Nodup) (hm:(x,y)∈l) {o:K×β} (h:o∈l):o∈cd l x∨o=(x,y):=by
 by_cases e:o.1=x
 ·right
  obtain ⟨k,v⟩:=o
  simp only at e
  subst e
  have B:=(iD hn).1 h
  have A:=(iD hn).1 hm
  rw [B] at A
  cases A; rfl
 ·exact .inl (jv.2 ⟨h,e⟩)
theorem G1 {K β:Type} [DecidableEq K] {t l ys:List (K×β)} {x:K} {y:β} (hn:(l.map (·.1)).Nodup) (hm:(x,y)∈l) (h: ∀ o∈t,o∈l∨o∈ys): ∀ o∈t,o∈cd l x∨o∈ys++[(x,y)]:=fun o ho=>by
 rcases h o ho with h|h
 ·rcases lK hn hm h with h|h
  ·exact .inl h
  ·exact .inr (by simp [h])
 ·exact .inr (by simp [h])
theorem mj {K β:Type} [DecidableEq K] {t l:List (K×β)} {x:K} (h: ∀ o∈l,o∈t): ∀ o∈cd l x,o∈t:=fun o ho=>h o (jv.1 ho).1
theorem Iy {w:bT} {m left:List (aC×Int)} (h: ∀ p∈m,p∈left∨kq w p.1=false) (h0:left=[]):jm w m=false:=by
 unfold jm
 rw [List.any_eq_false]
 intro p hp
 rcases h p hp with q|q
 ·rw [h0] at q; cases q
 ·simp [q]
theorem Oe {w:bT} {m:List (aC×Int)} {p:aC×Int} (hp:p∈m) (h:kq w p.1=true):jm w m=true:=List.any_eq_true.2 ⟨p,hp,h⟩
theorem Ii {w:bT} {m left:List (aC×Int)} {t:aC} {v:Int} (hn:(left.map (·.1)).Nodup) (hm:(t,v)∈left) (h: ∀ p∈m,p∈left∨kq w p.1=false) (hf:kq w t=false): ∀ p∈m,p∈cd left t∨kq w p.1=false:=fun p hp=>by
 rcases h p hp with q|q
 ·rcases lK hn hm q with q|q
  ·exact .inl q
  ·right; rw [q]; exact hf
 ·exact .inr q
/-- what the maps of a watch are -/
structure xw (w:bT) (fs:List (List (aC×Int))):Prop where
 len:fs.length=w.n+1
 min: ∀ (b:Nat) m,fs[b]? =some m→tg m (fwd w b)
 keys: ∀ (b:Nat) m,fs[b]? =some m→(m.map (·.1)).Nodup
structure ua (w:bT) (bs:List (List (aC×Int))):Prop where
 len:bs.length=w.n+1
 max: ∀ (b:Nat) m,bs[b]? =some m→vn m (back w b)
 keys: ∀ (b:Nat) m,bs[b]? =some m→(m.map (·.1)).Nodup
theorem xw.mem {w:bT} {fs:List (List (aC×Int))} (h:xw w fs) {b:Nat} {m:List (aC×Int)} (hm:fs[b]? =some m) {p:aC×Int} (hp:p∈m):p∈fwd w b:=(h.min b m hm).1 _ _ ((fy (h.keys b m hm)).1 hp)
theorem ua.mem {w:bT} {fs:List (List (aC×Int))} (h:ua w fs) {b:Nat} {m:List (aC×Int)} (hm:fs[b]? =some m) {p:aC×Int} (hp:p∈m):p∈back w b:=(h.max b m hm).1 _ _ ((fy (h.keys b m hm)).1 hp)
theorem HA {w:bT} {b:Nat} {t l ys:List (Int×aa)} (ht:w.ve[b]? =some t) (h: ∀ o∈t,o∈l∨o∈ys) (h0:l=[]) (hs:(-1,(⟨w.Start,w.gh⟩:aa))∈ys): ∀ o∈il w b,o∈ys:=fun o ho=>by
 rcases (wJ ht).1 ho with rfl|ho
 ·exact hs
 ·rcases h o ho with q|q
  ·rw [h0] at q; cases q
  ·exact q
end
section
/-- by these options all is yielded -/
def lu (w:bT) (b:Nat) (mf mb:List (aC×Int)) (os ys:List (Int×aa)):Prop:= ∀ o∈os,∀ p∈mf,∀ u∈mb,∀ q,mw w b p u o=some q→q∈ys
def nH (w:bT) (b:Nat) (mf mb:List (aC×Int)) (o:Int×aa) (left:List (aC×Int)) (ys:List (Int×aa)):Prop:= ∀ p∈mf,p∈left∨ ∀ u∈mb,∀ q,mw w b p u o=some q→q∈ys
def nx (w:bT) (b:Nat) (mb:List (aC×Int)) (o:Int×aa) (p:aC×Int) (left:List (aC×Int)) (ys:List (Int×aa)):Prop:= ∀ u∈mb,u∈left∨ ∀ q,mw w b p u o=some q→q∈ys
variable {w:bT} {b:Nat} {mf mb left:List (aC×Int)} {o x:Int×aa} {os ys:List (Int×aa)} {p u:aC×Int}
theorem lu.nil:lu w b mf mb [] ys:=fun o ho=>by cases ho
theorem lu.app (h:lu w b mf mb os ys):lu w b mf mb os (ys++[x]):=fun o ho p hp u hu q e=>List.mem_append_left _ (h o ho p hp u hu q e)
theorem nH.app (h:nH w b mf mb o left ys):nH w b mf mb o left (ys++[x]):=fun p hp=>(h p hp).imp id fun h u hu q e=>List.mem_append_left _ (h u hu q e)
theorem nH.start:nH w b mf mb o mf ys:=fun p hp=> .inl hp
theorem nx.start:nx w b mb o p mb ys:=fun p hp=> .inl hp
theorem nx.skip {t:aC} {v:Int} (hn:(left.map (·.1)).Nodup) (hm:(t,v)∈left) (h:nx w b mb o p left ys) (he:mw w b p (t,v) o=none):nx w b mb o p (cd left t) ys:=fun u hu=>by
 rcases h u hu with q|q
 ·rcases lK hn hm q with q|q
  ·exact .inl q
  ·right; intro z hz; rw [q,he] at hz; cases hz
 ·exact .inr q
theorem nx.TX {t:aC} {v:Int} (hn:(left.map (·.1)).Nodup) (hm:(t,v)∈left) (h:nx w b mb o p left ys) (he:mw w b p (t,v) o=some x):nx w b mb o p (cd left t) (ys++[x]):=fun u hu=>by
 rcases h u hu with q|q
 ·rcases lK hn hm q with q|q
  ·exact .inl q
  ·right; intro z hz; rw [q,he] at hz; cases hz; simp
 ·right; intro z hz; exact List.mem_append_left _ (q z hz)
theorem nH.next {t:aC} {v:Int} {l2:List (aC×Int)} (hn:(left.map (·.1)).Nodup) (hm:(t,v)∈left) (h:nH w b mf mb o left ys) (hq:nx w b mb o (t,v) l2 ys) (h0:l2=[]):nH w b mf mb o (cd left t) ys:=fun p hp=>by
 rcases h p hp with q|q
 ·rcases lK hn hm q with q|q
  ·exact .inl q
  ·right; intro u hu z hz; subst q
   rcases hq u hu with q|q
   ·rw [h0] at q; cases q
   ·exact q z hz
 ·exact .inr q
theorem lu.next (h:lu w b mf mb os ys) (hp:nH w b mf mb o left ys) (h0:left=[]):lu w b mf mb (os++[o]) ys:=fun o' ho p hp' u hu q e=>by
 rcases List.mem_append.1 ho with ho|ho
 ·exact h o' ho p hp' u hu q e
 ·simp only [bW] at ho; subst ho
  rcases hp p hp' with z|z
  ·rw [h0] at z; cases z
  ·exact z u hu q e
theorem lu.fin (h:lu w b mf mb os ys) (ho: ∀ o∈il w b,o∈os): ∀ q∈pK w b mf mb,q∈ys:=fun q hq=>by
 obtain ⟨o,A,p,B,u,C,e⟩:=hE.1 hq
 exact h o (ho o A) p B u C q e
theorem GY (h:max (p.2+bV w b) o.2.Lo≤min u.2 o.2.Hi) (h2:kq w (du (du p.1 u.1) (fp o.1))=true):mw w b p u o=some (o.1,⟨max (p.2+bV w b) o.2.Lo,min u.2 o.2.Hi⟩):=by
 unfold mw jq xD; rw [if_pos ⟨h,h2⟩]
theorem IC (h: ¬ max (p.2+bV w b) o.2.Lo≤min u.2 o.2.Hi):mw w b p u o=none:=by
 unfold mw jq; rw [if_neg (fun q=>h q.1)]
theorem Gf (h2:kq w (du (du p.1 u.1) (fp o.1))=false):mw w b p u o=none:=by
 unfold mw xD; rw [if_neg (fun q=>by rw [h2] at q; exact absurd q.2 dc)]
theorem nu {v:Int} (h:w.pS[b]? =some v):bV w b=v:=by unfold bV; rw [h]; rfl
theorem CO {t q:aC} {v z y:Int} (hy:w.pS[b]? =some y) (h:max (v+y) o.2.Lo≤min z o.2.Hi) (h2:kq w (du (du t q) (fp o.1))=true):mw w b (t,v) (q,z) o=some (o.1,⟨max (v+y) o.2.Lo,min z o.2.Hi⟩):=by
 have e:=nu hy
 subst e
 exact GY h h2
theorem G4 {t q:aC} {v z y:Int} (hy:w.pS[b]? =some y) (h: ¬ max (v+y) o.2.Lo≤min z o.2.Hi):mw w b (t,v) (q,z) o=none:=by
 have e:=nu hy
 subst e
 exact IC h
theorem nX {m:List (aC×Int)} {k:aC} {y:Int} (h:(m.map (·.1)).Nodup):((dK m k y).map (·.1)).Nodup:=by
 unfold dK
 by_cases hx:(m.lookup k).isSome
 ·rw [if_pos hx,List.map_map]
  have e:m.map ((fun p=>p.1)∘fun p=>if p.1=k then (k,y) else p)=m.map (·.1):=by
   apply List.map_congr_left
   intro p _
   simp only [Function.comp]
   split
   ·rename_i e; exact e.symm
   ·rfl
  rw [e]; exact h
 ·rw [if_neg hx,List.map_append,List.nodup_append]
  refine ⟨h,sm,?_⟩
  intro a ha c hc
  simp only [List.map_cons,List.map_nil,bW] at hc
  rw [hc]
  obtain ⟨p,hp,rfl⟩:=List.mem_map.1 ha
  have hn:m.lookup k=none:=by cases h0:m.lookup k with
   |none=>rfl
   |some v=>exact absurd (by rw [h0]; rfl) hx
  exact iv.1 hn p hp
theorem Cq {m:List (aC×Int)} {q:aC×Int} (h:(m.map (·.1)).Nodup):((o3 m q).map (·.1)).Nodup:=by
 unfold o3; split
 ·exact nX h
 ·split
  ·exact nX h
  ·exact h
theorem Cz {m:List (aC×Int)} {q:aC×Int} (h:(m.map (·.1)).Nodup):((oE m q).map (·.1)).Nodup:=by
 unfold oE; split
 ·exact nX h
 ·split
  ·exact nX h
  ·exact h
/-- a map of the first times, on its way -/
structure xb (w:bT) (b:Nat) (m:List (aC×Int)):Prop where
 snd:vi m (fwd w (b+1))
 keys:(m.map (·.1)).Nodup
structure vz (w:bT) (b:Nat) (m:List (aC×Int)):Prop where
 snd:vi m (back w b)
 keys:(m.map (·.1)).Nodup
 zero: ∃ v,m.lookup ⟨0,0⟩=some v∧w.gh≤v
theorem I7 (h:max (p.2+bV w b) o.2.Lo≤min o.2.Hi w.gh):kF w b p o=some (du p.1 (fp o.1),max (p.2+bV w b) o.2.Lo):=by unfold kF; rw [if_pos h]
theorem Oa (h: ¬ max (p.2+bV w b) o.2.Lo≤min o.2.Hi w.gh):kF w b p o=none:=by unfold kF; rw [if_neg h]
theorem Kg (h:o.2.Lo≤min p.2 o.2.Hi):nN w b p o=some (du p.1 (fp o.1),min p.2 o.2.Hi-bV w b):=by unfold nN; rw [if_pos h]
theorem Nu (h: ¬ o.2.Lo≤min p.2 o.2.Hi):nN w b p o=none:=by unfold nN; rw [if_neg h]
theorem xb.start:xb w b []:=⟨fun t v h=>by simp at h,List.nodup_nil⟩
theorem xb.add {m:List (aC×Int)} {q:aC×Int} (h:xb w b m) (hp:p∈fwd w b) (ho:o∈il w b) (he:kF w b p o=some q):xb w b (o3 m q):=⟨HO h.snd (fP.2 ⟨p,hp,o,ho,he⟩),Cq h.keys⟩
theorem vz.start (hb:b<w.n):vz w b [(⟨0,0⟩,w.gh)]:=⟨fun t v h=>by
 obtain ⟨rfl,rfl⟩:=oG.1 h
 exact (oR hb).2 (.inl U),sm,w.gh,oG.2 ⟨U,U⟩,Int.le_refl _⟩
theorem vz.add {m:List (aC×Int)} {q:aC×Int} (hb:b<w.n) (h:vz w b m) (hp:p∈back w (b+1)) (ho:o∈il w b) (he:nN w b p o=some q):vz w b (oE m q):=⟨Hn h.snd ((oR hb).2 (.inr ⟨p,hp,o,ho,he⟩)),Cz h.keys,by
 obtain ⟨v,A,C⟩:=h.zero
 obtain ⟨v',B,D⟩:=p5 (q:=q) _ _ A
 exact ⟨v',B,om⟩⟩
theorem iU.none_ {m:List (aC×Int)} (h:iU w b m p os) (he:kF w b p o=none):iU w b m p (os++[o]):=h.add (wv.refl _) fun q hq=>by rw [he] at hq; cases hq
theorem iU.IN {m:List (aC×Int)} {q:aC×Int} (h:iU w b m p os) (he:kF w b p o=some q):iU w b (o3 m q) p (os++[o]):=h.add vg fun q' hq=>by rw [he] at hq; cases hq; exact Hv
theorem iX.none_ {m:List (aC×Int)} (h:iX w b m p os) (he:nN w b p o=none):iX w b m p (os++[o]):=h.add (xS.refl _) fun q hq=>by rw [he] at hq; cases hq
theorem iX.IN {m:List (aC×Int)} {q:aC×Int} (h:iX w b m p os) (he:nN w b p o=some q):iX w b (oE m q) p (os++[o]):=h.add p5 fun q' hq=>by rw [he] at hq; cases hq; exact HG
/-- what of a map of the beam before is used already -/
def j3 (w:bT) (b:Nat) (mb m left:List (aC×Int)):Prop:= ∀ p∈mb,p∈left∨iU w b m p (il w b)
def jA (w:bT) (b:Nat) (mb m left:List (aC×Int)):Prop:= ∀ p∈mb,p∈left∨iX w b m p (il w b)
theorem j3.start {m:List (aC×Int)}:j3 w b mb m mb:=fun p hp=> .inl hp
theorem jA.start {m:List (aC×Int)}:jA w b mb m mb:=fun p hp=> .inl hp
theorem j3.lower {m m':List (aC×Int)} (h:j3 w b mb m left) (hl:wv m m'):j3 w b mb m' left:=fun p hp=>(h p hp).imp id fun h=>h.lower hl
theorem jA.upper {m m':List (aC×Int)} (h:jA w b mb m left) (hl:xS m m'):jA w b mb m' left:=fun p hp=>(h p hp).imp id fun h=>h.upper hl
theorem j3.next {m:List (aC×Int)} {t:aC} {v:Int} (hn:(left.map (·.1)).Nodup) (hm:(t,v)∈left) (h:j3 w b mb m left) (hd:iU w b m (t,v) os) (ho: ∀ o∈il w b,o∈os):j3 w b mb m (cd left t):=fun p hp=>by
 rcases h p hp with q|q
 ·rcases lK hn hm q with q|q
  ·exact .inl q
  ·right; rw [q]; exact hd.sub ho
 ·exact .inr q
theorem jA.next {m:List (aC×Int)} {t:aC} {v:Int} (hn:(left.map (·.1)).Nodup) (hm:(t,v)∈left) (h:jA w b mb m left) (hd:iX w b m (t,v) os) (ho: ∀ o∈il w b,o∈os):jA w b mb m (cd left t):=fun p hp=>by
 rcases h p hp with q|q
 ·rcases lK hn hm q with q|q
  ·exact .inl q
  ·right; rw [q]; exact hd.sub ho
 ·exact .inr q
theorem j3.fin {m:List (aC×Int)} (h:j3 w b mb m left) (h0:left=[]): ∀ p∈mb,iU w b m p (il w b):=fun p hp=>by
 rcases h p hp with q|q
 ·rw [h0] at q; cases q
 ·exact q
theorem jA.fin {m:List (aC×Int)} (h:jA w b mb m left) (h0:left=[]): ∀ p∈mb,iX w b m p (il w b):=fun p hp=>by
 rcases h p hp with q|q
 ·rw [h0] at q; cases q
 ·exact q
end
section
def l8 (a b:aa):aa:=⟨a.Lo+b.Lo,a.Hi+b.Hi⟩
def dD:aa:=⟨0,0⟩
def kz (a:aa) (l:List aa):aa:=l.foldl l8 a
def lj (z:aa):Prop:=(-1000000000≤z.Lo∧z.Lo≤1000000000)∧ -1000000000≤z.Hi∧z.Hi≤1000000000
theorem yn {a:aa} {l:List aa} {i:Nat} {z:aa} (h:l[i]? =some z):kz a (l.take (i+1))=l8 (kz a (l.take i)) z:=by
 rw [List.take_add_one,h]; unfold kz; simp
theorem Qc {a:aa} {l:List aa} (ha:lj a) (hl: ∀ z∈l,lj z): ∀ i:Nat,(-1000000000-1000000000*(i:Int)≤(kz a (l.take i)).Lo∧(kz a (l.take i)).Lo≤1000000000+1000000000*(i:Int))∧ -1000000000-1000000000*(i:Int)≤(kz a (l.take i)).Hi∧(kz a (l.take i)).Hi≤1000000000+1000000000*(i:Int):=by
 intro i
 induction i with
 |zero=>unfold lj at ha; simp [kz]; omega
 |succ i ih=>
  cases h:l[i]? with
  |none=>rw [List.take_add_one,h]; simp only [Option.toList_none,List.append_nil]; omega
  |some z=>
   have hz:=hl z (aX h)
   unfold lj at hz
   rw [yn h]
   simp only [l8]
   omega
theorem Lf {a:aa} {l:List aa} {i:Nat} (h:l.length≤i):kz a (l.take i)=kz a l:=by rw [List.take_of_length_le h]
theorem m8 {a z:aa}:vA (aa.cells (kz a [z]))=vA (aa.cells (l8 a z)):=rfl
theorem Cy {a y z:aa}:vA (aa.cells (kz a [y,z]))=vA (aa.cells (l8 (l8 a y) z)):=rfl
/-- how long the run is from one mark, over so many stretches; by how much it falls -/
def eI (ts:List ao) (f:Nat):Nat→aa
 |0=>dD
 |k+1=>match ts[f+k]? with
  |some x=>l8 (eI ts f k) x.km
  |none=>eI ts f k
def gi (ts:List ao) (f:Nat):Nat→aa
 |0=>dD
 |k+1=>match ts[f+k]? with
  |some x=>l8 (gi ts f k) x.lx
  |none=>gi ts f k
theorem pt {ts:List ao} {f k:Nat} {x:ao} (h:ts[f+k]? =some x):eI ts f (k+1)=l8 (eI ts f k) x.km:=by simp [eI,h]
theorem pA {ts:List ao} {f k:Nat} {x:ao} (h:ts[f+k]? =some x):gi ts f (k+1)=l8 (gi ts f k) x.lx:=by simp [gi,h]
theorem lY {ts:List ao} (ht: ∀ x∈ts,bS x) (f:Nat): ∀ k:Nat,(0≤(eI ts f k).Lo∧(eI ts f k).Lo≤(eI ts f k).Hi)∧(eI ts f k).Hi≤30000*(k:Int):=by
 intro k
 induction k with
 |zero=>simp [eI,dD]
 |succ k ih=>
  simp only [eI]
  cases h:ts[f+k]? with
  |none=>simp only; omega
  |some x=>
   have hx:=(ht x (aX h)).2.1
   simp only [dV] at hx
   simp only [l8]
   omega
theorem F9 {ts:List ao} (ht: ∀ x∈ts,bS x) (f:Nat): ∀ k:Nat,(0≤(gi ts f k).Lo∧(gi ts f k).Lo≤(gi ts f k).Hi)∧(gi ts f k).Hi≤5000*(k:Int):=by
 intro k
 induction k with
 |zero=>simp [gi,dD]
 |succ k ih=>
  simp only [gi]
  cases h:ts[f+k]? with
  |none=>simp only; omega
  |some x=>
   have hx:=(ht x (aX h)).2.2.1
   simp only [dV] at hx
   simp only [l8]
   omega
theorem p6 {ts:List ao} (ht: ∀ x∈ts,bS x) {f k:Nat} (hk:k≤13):lj (eI ts f k):=by
 have:=lY ht f k; unfold lj; omega
theorem w5 {ts:List ao} (ht: ∀ x∈ts,bS x) {f k:Nat} (hk:k≤13):lj (gi ts f k):=by
 have:=F9 ht f k; unfold lj; omega
theorem uw {x:ao} (h:bS x):lj x.km:=by have:=h.2.1; simp only [dV] at this; unfold lj; omega
theorem uI {x:ao} (h:bS x):lj x.lx:=by have:=h.2.2.1; simp only [dV] at this; unfold lj; omega
theorem zr {ts:List ao} (h: ¬ (if cV ts=true then (0:Int) else 10)=0):cV ts=false∧(if cV ts=true then (0:Int) else 10)=10:=by
 cases ht:cV ts with
 |true=>rw [ht] at h; exact absurd rfl h
 |false=>exact ⟨rfl,rfl⟩
theorem D4 {ts:List ao} (h:(if cV ts=true then (0:Int) else 10)=0):cV ts=true:=by
 cases ht:cV ts with
 |true=>rfl
 |false=>rw [ht] at h; exact absurd h dc
/-- what the iterator of marks yields -/
def s7 (ts:List ao) (f:Nat):List (List Value):=(List.range (ts.length-f+1)).map fun (k:Nat)=>[.agg (eI ts f k).cells.toArray,.agg (gi ts f k).cells.toArray]
theorem tG {ts:List ao} {f:Nat}:(s7 ts f).length=ts.length-f+1:=by simp [s7]
theorem yF {ts:List ao} {f k:Nat} (h:k≤ts.length-f):(s7 ts f)[k]? =some [.agg (eI ts f k).cells.toArray,.agg (gi ts f k).cells.toArray]:=by
 simp [s7,List.getElem?_range (show k<ts.length-f+1 by omega)]
theorem G0 {ts:List ao} {f k:Nat} {x:List Value} (h:(s7 ts f)[k]? =some x):k≤ts.length-f∧x=[.agg (eI ts f k).cells.toArray,.agg (gi ts f k).cells.toArray]:=by
 have hi:k<ts.length-f+1:=by
  have:=(List.getElem?_eq_some_iff.1 h).1
  simpa [s7] using this
 rw [yF om] at h
 exact ⟨om,(Option.some.inj h).symm⟩
theorem EH {ts:List ao} {f:Nat}: ∀ x∈s7 ts f,x.length=2:=fun x hx=>by
 obtain ⟨k,_,rfl⟩:=List.mem_map.1 hx; rfl
end
section
def fr (ts:List ao) (s:cJ):Prop:=(0≤s.a_∧s.a_<(ts.length:Int))∧ ∃ x,ts[s.a_.toNat]? =some x∧dV s.mA 0 (x.km.Lo-1)
noncomputable instance (ts:List ao) (s:cJ):Decidable (fr ts s):=Classical.propDecidable _
theorem C4 {ts:List ao} {s:cJ} {x:ao} (h:0≤s.a_∧s.a_<(ts.length:Int)) (hx:ts[s.a_.toNat]? =some x):fr ts s↔dV s.mA 0 (x.km.Lo-1):=
 ⟨fun A=>by obtain ⟨y,hy,B⟩:=A.2; rw [hx] at hy; cases hy; exact B,fun A=>⟨h,x,hx,A⟩⟩
theorem BW {ts:List ao} {s:cJ} (h: ¬ (0≤s.a_∧s.a_<(ts.length:Int))): ¬ fr ts s:=fun A=>h A.1
theorem AA {ts:List ao} {s:cJ} (ht: ∀ x∈ts,bS x) (h:fr ts s):(0≤s.mA.Lo∧s.mA.Lo≤s.mA.Hi)∧s.mA.Hi≤30000:=by
 obtain ⟨x,hx,A⟩:=h.2
 have:=(ht x (aX hx)).2.1
 simp only [dV] at A this
 omega
theorem EB {ts:List ao} {a:cJ}:vB (decide (∀ s∈[a],fr ts s))=vB (decide (fr ts a)):=congrArg _ (decide_eq_decide.2 sm)
theorem D9 {ts:List ao} {a b:cJ}:vB (decide (∀ s∈[a,b],fr ts s))=vB (decide (fr ts a∧fr ts b)):=congrArg _ (decide_eq_decide.2 sm)
def nY (z:aa):aa:=⟨-z.Hi,-z.Lo⟩
def Mb (ts:List ao) (s:cJ):aa:=l8 (eI ts 0 s.a_.toNat) s.mA
noncomputable def F8 (ts:List ao) (s:cJ):Int:=if cV ts=true then (if fr ts s then 0 else 12) else 10
noncomputable def Pu (ts:List ao) (s:cJ):aa:=if F8 ts s=0 then Mb ts s else dD
theorem LV {ts:List ao} {s:cJ} (h:cV ts=false):F8 ts s=10∧Pu ts s=dD:=by
 have e:F8 ts s=10:=by unfold F8; rw [h]; rfl
 exact ⟨e,by unfold Pu; rw [e]; rfl⟩
theorem Jg {ts:List ao} {s:cJ} (h:cV ts=true) (h2: ¬ fr ts s):F8 ts s=12∧Pu ts s=dD:=by
 have e:F8 ts s=12:=by unfold F8; rw [if_pos h,if_neg h2]
 exact ⟨e,by unfold Pu; rw [e]; rfl⟩
theorem wU {ts:List ao} {s:cJ} (h:cV ts=true) (h2:fr ts s):F8 ts s=0∧Pu ts s=Mb ts s:=by
 have e:F8 ts s=0:=by unfold F8; rw [if_pos h,if_pos h2]
 exact ⟨e,if_pos e⟩
theorem E4 {ts:List ao} {s:cJ} (h:cV ts=true):F8 ts s=0↔fr ts s:=by
 unfold F8; rw [if_pos h]; split<;>simp [*]
def xr (ts:List ao) (a b:cJ):aa:=eI ts (min a.a_ b.a_).toNat (max a.a_ b.a_-min a.a_ b.a_).toNat
def jL (ts:List ao) (a b:cJ):aa:=l8 (l8 (if b.a_<a.a_ then nY (xr ts a b) else xr ts a b) b.mA) (nY a.mA)
noncomputable def lT (ts:List ao) (a b:cJ):Int:=if cV ts=true then (if fr ts a∧fr ts b then 0 else 12) else 10
noncomputable def kG (ts:List ao) (a b:cJ):aa:=if lT ts a b=0 then jL ts a b else dD
theorem uv {ts:List ao} {a b:cJ} (h:cV ts=false):lT ts a b=10∧kG ts a b=dD:=by
 have e:lT ts a b=10:=by unfold lT; rw [h]; rfl
 exact ⟨e,by unfold kG; rw [e]; rfl⟩
theorem oH {ts:List ao} {a b:cJ} (h:cV ts=true) (h2: ¬ (fr ts a∧fr ts b)):lT ts a b=12∧kG ts a b=dD:=by
 have e:lT ts a b=12:=by unfold lT; rw [if_pos h,if_neg h2]
 exact ⟨e,by unfold kG; rw [e]; rfl⟩
theorem k8 {ts:List ao} {a b:cJ} (h:cV ts=true) (h2:fr ts a∧fr ts b):lT ts a b=0∧kG ts a b=jL ts a b:=by
 have e:lT ts a b=0:=by unfold lT; rw [if_pos h,if_pos h2]
 exact ⟨e,if_pos e⟩
theorem z4 {z:aa} (h:lj z):lj (nY z):=by unfold lj nY at *; simp only; omega
theorem p8 {ts:List ao} {s:cJ} (ht: ∀ x∈ts,bS x) (h:fr ts s):lj s.mA:=by have:=AA ht h; unfold lj; omega
theorem Qj {ts:List ao} {a b:cJ} (ht: ∀ x∈ts,bS x) (hl:ts.length≤12) (ha:fr ts a) (hb:fr ts b):(0≤(xr ts a b).Lo∧(xr ts a b).Lo≤(xr ts a b).Hi)∧(xr ts a b).Hi≤360000:=by
 have h:=lY ht (min a.a_ b.a_).toNat (max a.a_ b.a_-min a.a_ b.a_).toNat
 have A:=ha.1
 have B:=hb.1
 unfold xr
 omega
theorem wM {ts:List ao} {a b:cJ} (ht: ∀ x∈ts,bS x) (hl:ts.length≤12) (ha:fr ts a) (hb:fr ts b):(-400000≤(jL ts a b).Lo∧(jL ts a b).Lo≤(jL ts a b).Hi)∧(jL ts a b).Hi≤400000:=by
 have h:=Qj ht hl ha hb
 have A:=AA ht ha
 have B:=AA ht hb
 unfold jL l8 nY
 split<;>simp only <;>omega
theorem Rw {ts:List ao} {s:cJ} (ht: ∀ x∈ts,bS x) (hl:ts.length≤12) (h:fr ts s):(0≤(Mb ts s).Lo∧(Mb ts s).Lo≤(Mb ts s).Hi)∧(Mb ts s).Hi≤400000:=by
 have A:=lY ht 0 s.a_.toNat
 have B:=AA ht h
 have C:=h.1
 unfold Mb l8
 simp only; omega
theorem Gu {α:Type} {p:Nat→α→Bool} {l:List α}:((l.zipIdx.filter fun q=>p q.2 q.1).map fun q=>(q.2:Int))=[]↔ ∀ (i:Nat) x,l[i]? =some x→p i x=false:=by
 rw [List.map_eq_nil_iff,List.filter_eq_nil_iff]
 constructor
 ·intro h i x hx
  have:=h (x,i) (by rw [List.mem_zipIdx_iff_getElem?]; simpa using hx)
  simpa using this
 ·rintro h ⟨x,i⟩ hm
  rw [List.mem_zipIdx_iff_getElem?] at hm
  simpa using h i x (by simpa using hm)
/-- the places of a list at which something is so -/
def rY {α:Type} (p:Nat→α→Bool) (l:List α) (n:Nat):List Int:=(((l.take n).zipIdx.filter fun q=>p q.2 q.1).map fun q=>(q.2:Int))
theorem KG {α:Type} {p:Nat→α→Bool} {l:List α} {i:Nat} {x:α} (hx:l[i]? =some x) (h:p i x=true):rY p l (i+1)=rY p l i++[(i:Int)]:=by
 have hi:=(List.getElem?_eq_some_iff.1 hx).1
 unfold rY
 rw [List.take_add_one,hx,List.zipIdx_append,List.filter_append,List.map_append]
 simp [Nat.min_eq_left (Nat.le_of_lt hi),h]
theorem Nw {α:Type} {p:Nat→α→Bool} {l:List α} {i:Nat} {x:α} (hx:l[i]? =some x) (h:p i x=false):rY p l (i+1)=rY p l i:=by
 have hi:=(List.getElem?_eq_some_iff.1 hx).1
 unfold rY
 rw [List.take_add_one,hx,List.zipIdx_append,List.filter_append,List.map_append]
 simp [Nat.min_eq_left (Nat.le_of_lt hi),h]
theorem C8 {α:Type} {p:Nat→α→Bool} {l:List α} {n:Nat}:(rY p l n).length≤n:=by
 unfold rY
 rw [List.length_map]
 refine Nat.le_trans (List.length_filter_le _ _) ?_
 rw [List.length_zipIdx,List.length_take]; omega
def LF {α:Type} (p:Nat→α→Bool) (l:List α):List Int:=rY p l l.length
theorem M0 {α:Type} {p:Nat→α→Bool} {l:List α} {n:Nat} (h:n=l.length):rY p l n=LF p l:=by rw [h]; rfl
theorem Hg {α:Type} {p:Nat→α→Bool} {l:List α}:(LF p l).length=0↔ ∀ (i:Nat) x,l[i]? =some x→p i x=false:=by
 unfold LF rY
 rw [List.length_eq_zero_iff,List.take_length]
 exact Gu
end
section
theorem yV (p:Int→Bool) (n:Nat): ∃ r:Int,r=((List.range n).findIdx fun (k:Nat)=>p (k:Int):Nat):=⟨_,rfl⟩
noncomputable def fu (p:Int→Bool) (n:Nat):Int:=Classical.choose (yV p n)
theorem r8 (p:Int→Bool) (n:Nat):fu p n=((List.range n).findIdx fun (k:Nat)=>p (k:Int):Nat):=Classical.choose_spec (yV p n)
theorem ia {p:Int→Bool} {n:Nat}:0≤fu p n∧fu p n≤n:=by
 rw [r8]
 have:=List.findIdx_le_length (xs:=List.range n) (p:=fun (k:Nat)=>p (k:Int))
 rw [List.length_range] at this
 omega
theorem t_ {p:Int→Bool} {n:Nat} {x:Int} (h0:0≤x) (h:x<fu p n):p x=false:=by
 have hb:=ia (p:=p) (n:=n)
 rw [r8] at h
 have B:x.toNat<(List.range n).findIdx fun (k:Nat)=>p (k:Int):=by omega
 have A:=List.not_of_lt_findIdx B
 simp only [List.getElem_range] at A
 rw [show (x.toNat:Int)=x by omega] at A
 simpa using A
theorem zD {p:Int→Bool} {n:Nat} (h:fu p n<n):p (fu p n)=true:=by
 rw [r8] at h ⊢
 have A:((List.range n).findIdx fun (k:Nat)=>p (k:Int))<(List.range n).length:=by rw [List.length_range]; omega
 have:=List.findIdx_getElem (w:=A)
 simpa using this
theorem yE {p:Int→Bool} {n:Nat} {r:Int} (h0:0≤r) (hn:r<n) (hr:p r=true) (hb: ∀ x,0≤x→x<r→p x=false):fu p n=r:=by
 have A:=ia (p:=p) (n:=n)
 rcases Int.lt_trichotomy (fu p n) r with h|h|h
 ·have:=hb _ A.1 h
  have e:=zD (p:=p) (n:=n) om
  rw [e] at this; cases this
 ·exact h
 ·have:=t_ h0 h
  rw [hr] at this; cases this
end
section
def o5 (n by_:Int):Int:=(n+by_-1)/by_
/-- by how much a sync may be off -/
def sw (c:au) (at_:Int) (x:cG):Int:=o5 (c.dj*max (at_-x.At) (x.At-at_)) 1000000
def lD (c:au) (at_:Int) (s:aa) (x:cG):aa:=⟨max s.Lo (x.eC.Lo-sw c at_ x),min s.Hi (x.eC.Hi+sw c at_ x)⟩
def gr (c:au) (at_:Int) (k:Nat):aa:=(c.bu.take k).foldl (lD c at_) ⟨-1099511627776,1099511627776⟩
def hP (c:au) (at_:Int):aa:=c.bu.foldl (lD c at_) ⟨-1099511627776,1099511627776⟩
theorem jI {c:au} {at_:Int} {k:Nat} {x:cG} (h:c.bu[k]? =some x):gr c at_ (k+1)=lD c at_ (gr c at_ k) x:=by
 unfold gr; rw [List.take_add_one,h,List.foldl_append]; rfl
theorem nm {c:au} {at_:Int} {k:Nat} (h:c.bu.length≤k):gr c at_ k=hP c at_:=by unfold gr hP; rw [List.take_of_length_le h]
def ke (c:au) (i:Nat):Int:=if i=0 then-1 else ((c.bu[i-1]?).map (·.At)).getD 0
def fx (c:au) (i:Nat) (x:cG):Prop:=(ke c i<x.At∧x.At≤86400000)∧ -10000≤x.eC.Lo∧x.eC.Lo≤x.eC.Hi∧x.eC.Hi≤10000
def nI (c:au) (x o:cG):Prop:=x.eC.Lo-o.eC.Hi≤o5 (c.dj*(x.At-o.At)) 1000000∧o.eC.Lo-x.eC.Hi≤o5 (c.dj*(x.At-o.At)) 1000000
structure eY (c:au):Prop where
 rD:0≤c.dj∧c.dj≤1000
 len:1≤c.bu.length∧c.bu.length≤5
 sync: ∀ (i:Nat) x,c.bu[i]? =some x→fx c i x
 pair: ∀ (i k:Nat) x o,c.bu[i]? =some x→k<i→c.bu[k]? =some o→nI c x o
noncomputable instance (c:au):Decidable (eY c):=Classical.propDecidable _
theorem gG {c:au} {i:Nat} (h:i=0):ke c i= -1:=if_pos h
theorem wu {c:au} {i:Nat} {y:cG} (h:0<i) (hy:c.bu[i-1]? =some y):ke c i=y.At:=by unfold ke; rw [if_neg om,hy]; rfl
theorem ob {c:au} {i:Nat} {y:cG} (hy:c.bu[i]? =some y):ke c (i+1)=y.At:=by unfold ke; rw [if_neg om,Nat.add_sub_cancel,hy]; rfl
/-- the times of the syncs -/
theorem Nd {c:au} (h: ∀ (i:Nat) x,c.bu[i]? =some x→fx c i x): ∀ (i:Nat) x,c.bu[i]? =some x→0≤x.At∧ ∀ (k:Nat) o,k<i→c.bu[k]? =some o→o.At<x.At:=by
 intro i
 induction i with
 |zero=>
  intro x hx
  have:=(h 0 x hx).1.1
  rw [gG rfl] at this
  exact ⟨om,fun k o hk=>by omega⟩
 |succ i ih=>
  intro x hx
  have hi:=(List.getElem?_eq_some_iff.1 hx).1
  have hy:c.bu[i]? =some (c.bu[i]'om):=e9 om
  have B:=ih _ hy
  have A:=(h (i+1) x hx).1.1
  rw [ob hy] at A
  refine ⟨om,fun k o hk ho=>?_⟩
  by_cases e:k=i
  ·subst e; rw [hy] at ho; cases ho; exact A
  ·have:=B.2 k o om ho; omega
theorem eY.tW {c:au} (h:eY c) {i:Nat} {x:cG} (hx:c.bu[i]? =some x):(0≤x.At∧x.At≤86400000)∧ -10000≤x.eC.Lo∧x.eC.Lo≤x.eC.Hi∧x.eC.Hi≤10000:=by
 have A:=h.sync i x hx
 exact ⟨⟨(Nd h.sync i x hx).1,A.1.2⟩,A.2⟩
theorem FI {d a b:Int} (hd:0≤d∧d≤1000) (ha:0≤a∧a≤90000000) (hb:0≤b∧b≤90000000):0≤d*max (a-b) (b-a)∧d*max (a-b) (b-a)≤90000000000:=by
 have:=Pp (a:=d) (b:=max (a-b) (b-a)) (A:=1000) (B:=90000000) hd.1 hd.2 om om
 omega
theorem uh {c:au} {at_:Int} {x:cG} (hd:0≤c.dj∧c.dj≤1000) (ha:0≤at_∧at_≤90000000) (hx:0≤x.At∧x.At≤86400000):0≤sw c at_ x∧sw c at_ x≤90001:=by
 have h:=FI hd ha (show 0≤x.At∧x.At≤90000000 by omega)
 unfold sw o5; omega
theorem C5 {c:au} {at_:Int} (h:eY c) (ha:0≤at_∧at_≤90000000): ∀ k:Nat,(-1099511627776≤(gr c at_ k).Lo∧(gr c at_ k).Lo≤10000)∧ -10000≤(gr c at_ k).Hi∧(gr c at_ k).Hi≤1099511627776:=by
 intro k
 induction k with
 |zero=>simp [gr]
 |succ k ih=>
  cases hx:c.bu[k]? with
  |none=>unfold gr at ih ⊢; rw [List.take_add_one,hx]; simpa using ih
  |some x=>
   have hb:=h.tW hx
   have ho:=uh h.rD ha hb.1
   rw [jI hx]
   unfold lD
   simp only
   omega
theorem pX {c:au} {at_:Int} (h:eY c) (ha:0≤at_∧at_≤90000000):(-110000≤(hP c at_).Lo∧(hP c at_).Lo≤10000)∧ -10000≤(hP c at_).Hi∧(hP c at_).Hi≤110000:=by
 obtain ⟨n,hn⟩: ∃ n,c.bu.length=n+1:=⟨c.bu.length-1,by have:=h.len; omega⟩
 have hx:c.bu[n]? =some (c.bu[n]'om):=e9 om
 have hb:=h.tW hx
 have ho:=uh h.rD ha hb.1
 have A:=C5 h ha n
 rw [← nm (k:=n+1) om,jI hx]
 unfold lD
 simp only
 omega
/-- as time goes on, time and what a clock may be ahead, together, never go back -/
theorem DY {c:au} (h:eY c) {a b:Int} (ha:0≤a) (hab:a≤b) (hb:b≤90000000): ∀ k:Nat,(a+(gr c a k).Lo≤b+(gr c b k).Lo∨(gr c a k).Lo= -1099511627776)∧a+(gr c a k).Hi≤b+(gr c b k).Hi:=by
 have step: ∀ (x:cG),0≤x.At∧x.At≤86400000→ ∀ a b:Int,0≤a→a≤b→b≤90000000→sw c a x≤sw c b x+(b-a)∧sw c b x≤sw c a x+(b-a):=by
  intro x hx a b ha hab hb
  have hd:=h.rD
  have e: ∀ u v:Int,u≤v+1000000*(b-a)→o5 u 1000000≤o5 v 1000000+(b-a):=by intro u v C; unfold o5; omega
  have m: ∀ p q:Int,p≤q+(b-a)→c.dj*p≤c.dj*q+1000000*(b-a):=by
   intro p q A
   have D:c.dj*p≤c.dj*(q+(b-a)):=Int.mul_le_mul_of_nonneg_left A hd.1
   have E:c.dj*(q+(b-a))=c.dj*q+c.dj*(b-a):=Int.mul_add _ _ _
   have F:c.dj*(b-a)≤1000*(b-a):=Int.mul_le_mul_of_nonneg_right hd.2 om
   omega
  exact ⟨e _ _ (m _ _ om),e _ _ (m _ _ om)⟩
 intro k
 induction k with
 |zero=>simp [gr]; omega
 |succ k ih=>
  cases hx:c.bu[k]? with
  |none=>
   have e: ∀ t,gr c t (k+1)=gr c t k:=fun t=>by unfold gr; rw [List.take_add_one,hx]; simp
   rw [e,e]; exact ih
  |some x=>
   have hs:=h.tW hx
   have:=step x hs.1 a b ha hab hb
   have B:=uh (at_:=a) h.rD ⟨ha,om⟩ hs.1
   rw [jI hx,jI hx]
   unfold lD
   simp only
   omega
theorem nR {c:au} (h:eY c) {a b:Int} (ha:0≤a) (hab:a≤b) (hb:b≤90000000):a+(hP c a).Lo≤b+(hP c b).Lo∧a+(hP c a).Hi≤b+(hP c b).Hi:=by
 have A:=DY h ha hab hb c.bu.length
 have B:=pX h (at_:=a) ⟨ha,om⟩
 rw [nm (Nat.le_refl _),nm (Nat.le_refl _)] at A
 omega
noncomputable def lV (l:bf) (i:Nat):Int:=match l.ag[i]? with
 |some b=>if i=0 then (Mb l.aJ b.mF).Lo else (match l.ag[i-1]? with
  |some a=>(jL l.aJ a.mF b.mF).Lo
  |none=>0)
 |none=>0
theorem zl {l:bf} {b:bE} (h:l.ag[0]? =some b):lV l 0=(Mb l.aJ b.mF).Lo:=by unfold lV; rw [h]; rfl
theorem CI {l:bf} {i:Nat} {a b:bE} (hi:0<i) (h:l.ag[i]? =some b) (ha:l.ag[i-1]? =some a):lV l i=(jL l.aJ a.mF b.mF).Lo:=by unfold lV; rw [h,ha]; simp only; rw [if_neg om]
def jV (l:bf) (b:bE):Prop:=fr l.aJ b.mF∧0≤b.jM∧b.jM<(l.ai.length:Int)
def gk (l:bf):Prop:=(1≤l.dM∧l.dM≤5000)∧(1≤(l.ai.length:Int)∧(l.ai.length:Int)≤4)∧(1≤(l.ag.length:Int)∧(l.ag.length:Int)≤6)∧(0≤l.bH∧l.bH≤(l.ag.length:Int)-1)∧(0≤l.cv∧l.cv≤3)∧0≤l.bL∧l.bL≤3
structure lf (l:bf):Prop where
 head:gk l
 clock: ∀ c∈l.ai,eY c
 vw: ∀ b∈l.ag,jV l b
 QM: ∀ i,i<l.ag.length→1≤lV l i
noncomputable instance (l:bf):Decidable (lf l):=Classical.propDecidable _
noncomputable def dw (l:bf):Int:=if cV l.aJ=true then (if lf l then 0 else 50) else 10
theorem yv {l:bf} (h:cV l.aJ=false):dw l=10:=by unfold dw; rw [h]; rfl
theorem qD {l:bf} (h:cV l.aJ=true) (h2: ¬ lf l):dw l=50:=by unfold dw; rw [if_pos h,if_neg h2]
theorem wW {l:bf} (h:cV l.aJ=true) (h2:lf l):dw l=0:=by unfold dw; rw [if_pos h,if_pos h2]
theorem gL {l:bf} (h:dw l=0):cV l.aJ=true∧lf l:=by
 unfold dw at h
 split at h
 ·split at h
  ·exact ⟨asm,asm⟩
  ·omega
 ·omega
theorem F4 {l:bf} (ht:cV l.aJ=true) (hb: ∀ b∈l.ag,jV l b) (i:Nat): -400000≤lV l i∧lV l i≤400000:=by
 have A:=jP ht
 have hl:=kJ ht
 unfold lV
 cases h:l.ag[i]? with
 |none=>simp
 |some b=>
  have B:=(hb b (aX h)).1
  simp only
  split
  ·have:=Rw A hl B; omega
  ·cases h2:l.ag[i-1]? with
   |none=>simp
   |some a=>
    have C:=(hb a (aX h2)).1
    have:=wM A hl C B
    simp only; omega
def pJ (l:bf) (s:aN):au:=((l.ag[s.gj.toNat]?).bind fun b=>l.ai[b.jM.toNat]?).getD ⟨0,[]⟩
def gd (c:au) (r t:Int):Bool:=decide (r≤t+(hP c t).Hi)
def gf (c:au) (r t:Int):Bool:=decide (r<t+(hP c t).Lo)
noncomputable def qc (c:au) (r:Int):aa:=⟨fu (gd c r) 86400001,fu (gf c r) 86400001-1⟩
noncomputable def cH (l:bf) (s:aN):aa:=qc (pJ l s) s.Read
noncomputable def eh (l:bf) (i:Nat):Int:=o5 (1000*lV l i) l.dM
end
section
open Go.RowKit
def AS (n:Int):Int:=IntKind.i64.wrap n
theorem zI {n:Int} (h:qi n):AS n=n:=nW h
theorem SZ (n:Int): -9223372036854775808≤AS n∧AS n≤9223372036854775807:=by
 unfold AS
 rw [IntKind.wrap_i64]
 omega
section
variable {P:Program} {t:TypeId} {x y:Operand} {a b:Int}
theorem Pc:g6 P .add t x y (.int .i64 a) (.int .i64 b) (.int .i64 (AS (a+b))):=fun w=>by simp [eqGuard_add,binOp_add,Op.intArith,AS]
theorem Ko:g6 P .sub t x y (.int .i64 a) (.int .i64 b) (.int .i64 (AS (a-b))):=fun w=>by simp [eqGuard_sub,binOp_sub,Op.intArith,AS]
theorem Pr:g6 P .mul t x y (.int .i64 a) (.int .i64 b) (.int .i64 (AS (a*b))):=fun w=>by simp [eqGuard_mul,binOp_mul,Op.intArith,AS]
end
/-- divided, and rounded up, as it comes out -/
def Sq (n by_:Int):Int:=(AS (AS (n+by_)-1)).tdiv by_
theorem QB {a b:Int} (ha: -9223372036854775808≤a∧a≤9223372036854775807) (hb:2≤b):qi (a.tdiv b):=by
 have A:a.tdiv b=a/b+if a % b≠0∧a<0 then 1 else 0:=by
  rcases Int.lt_or_le a 0 with h|h
  ·rw [Int.tdiv_eq_ediv]
   have:b.sign=1:=Int.sign_eq_one_of_pos om
   rw [this]
   by_cases hd:b∣a
   ·have:a % b=0:=Int.emod_eq_zero_of_dvd hd
    simp [hd,this]
   ·have:a % b≠0:=fun e=>hd (Int.dvd_of_emod_eq_zero e)
    have hn: ¬ 0≤a:=by omega
    simp [hd,this,h,hn]
  ·rw [Int.tdiv_eq_ediv_of_nonneg h]
   have: ¬ a<0:=by omega
   simp [this]
 have B:a/b*b+a % b=a:=by rw [Int.mul_comm]; exact Int.mul_ediv_add_emod a b
 have C:0≤a % b:=Int.emod_nonneg _ om
 have D:a % b<b:=Int.emod_lt_of_pos _ om
 have E: -9223372036854775808≤a/b∧a/b≤4611686018427387904:=by
  constructor
  ·refine Int.le_ediv_of_mul_le om ?_
   have:(-9223372036854775808:Int)*b≤ -9223372036854775808*1:=Int.mul_le_mul_of_nonpos_left om om
   omega
  ·refine Int.ediv_le_of_le_mul om ?_
   have:(4611686018427387904:Int)*2≤4611686018427387904*b:=Int.mul_le_mul_of_nonneg_left hb om
   omega
 rw [A]
 unfold qi
 split<;>omega
theorem PO {n by_:Int} (h0:0≤n) (h1:n≤1000000000000000000) (hb:1≤by_∧by_≤1000000000000):Sq n by_=(n+by_-1)/by_:=by
 unfold Sq
 rw [zI (show qi (n+by_) from ⟨om,om⟩),zI (show qi (n+by_-1) from ⟨om,om⟩),Int.tdiv_eq_ediv_of_nonneg om]
end
section
def lZ (c:au) (i:Nat) (x:cG) (k:Nat):Prop:=fx c i x∧ ∀ (j:Nat) o,j<k→c.bu[j]? =some o→nI c x o
def rZ (c:au) (n:Nat):Prop:= ∀ (i:Nat) x,i<n→c.bu[i]? =some x→lZ c i x i
noncomputable instance (c:au) (i:Nat) (x:cG) (k:Nat):Decidable (lZ c i x k):=Classical.propDecidable _
instance (c:au) (i:Nat) (x:cG):Decidable (fx c i x):=by unfold fx; infer_instance
theorem EA {c:au} {i:Nat} {x:cG}:lZ c i x 0↔fx c i x:=⟨fun h=>h.1,fun h=>⟨h,fun j o hj=>by omega⟩⟩
theorem sk {c:au} {i k:Nat} {x o:cG} (h:c.bu[k]? =some o):lZ c i x (k+1)↔lZ c i x k∧nI c x o:=by
 constructor
 ·intro hr
  exact ⟨⟨hr.1,fun j o' hj ho=>hr.2 j o' om ho⟩,hr.2 k o om h⟩
 ·rintro ⟨hr,hp⟩
  refine ⟨hr.1,fun j o' hj ho=>?_⟩
  by_cases e:j=k
  ·subst e; rw [h] at ho; cases ho; exact hp
  ·exact hr.2 j o' om ho
theorem GM {c:au}:rZ c 0:=fun i x hi=>by omega
theorem Gg {c:au} {i:Nat} {x:cG} (h:rZ c i) (hx:c.bu[i]? =some x) (hr:lZ c i x i):rZ c (i+1):=fun j y hj hy=>by
 by_cases e:j=i
 ·subst e; rw [hx] at hy; cases hy; exact hr
 ·exact h j y om hy
theorem KA {c:au} {i:Nat} {x:cG} (hx:c.bu[i]? =some x) (h: ¬ lZ c i x i): ¬ eY c:=fun hc=>h ⟨hc.sync i x hx,fun j o hj ho=>hc.pair i j x o hx hj ho⟩
theorem Gm {c:au} (h1:0≤c.dj∧c.dj≤1000) (h2:1≤c.bu.length∧c.bu.length≤5) (h:rZ c c.bu.length):eY c:=
 ⟨h1,h2,fun i x hx=>(h i x (List.getElem?_eq_some_iff.1 hx).1 hx).1,fun i k x o hx hk ho=>(h i x (List.getElem?_eq_some_iff.1 hx).1 hx).2 k o hk ho⟩
/-- syncs so far -/
theorem uE {c:au} {n:Nat} (h: ∀ (i:Nat) x,i<n→c.bu[i]? =some x→fx c i x): ∀ (i:Nat) x,i<n→c.bu[i]? =some x→0≤x.At∧ ∀ (k:Nat) o,k<i→c.bu[k]? =some o→o.At<x.At:=by
 intro i
 induction i with
 |zero=>
  intro x hn hx
  have:=(h 0 x hn hx).1.1
  rw [gG rfl] at this
  exact ⟨om,fun k o hk=>by omega⟩
 |succ i ih=>
  intro x hn hx
  have hi:=(List.getElem?_eq_some_iff.1 hx).1
  have hy:c.bu[i]? =some (c.bu[i]'om):=e9 om
  have B:=ih _ om hy
  have A:=(h (i+1) x hn hx).1.1
  rw [ob hy] at A
  refine ⟨om,fun k o hk ho=>?_⟩
  by_cases e:k=i
  ·subst e; rw [hy] at ho; cases ho; exact A
  ·have:=B.2 k o om ho; omega
theorem JF {c:au} {i:Nat} (hi:i≤c.bu.length) (h: ∀ (j:Nat) y,j<i→c.bu[j]? =some y→fx c j y): -1≤ke c i∧ke c i≤86400000:=by
 cases i with
 |zero=>rw [gG rfl]; omega
 |succ i=>
  have hy:c.bu[i]? =some (c.bu[i]'om):=e9 om
  have A:=(uE (n:=i+1) h i _ om hy).1
  have B:=(h i _ om hy).1.2
  rw [ob hy]; omega
theorem PY {c:au} {i:Nat} (hi:i≤c.bu.length) (h:rZ c i): -1≤ke c i∧ke c i≤86400000:=JF hi fun j y hj hy=>(h j y hj hy).1
theorem uO {c:au} {i k:Nat} {x o:cG} (hs: ∀ (j:Nat) y,j<i→c.bu[j]? =some y→fx c j y) (hx:c.bu[i]? =some x) (hok:fx c i x) (hk:k<i) (ho:c.bu[k]? =some o):
 (0≤o.At∧o.At<x.At∧x.At≤86400000)∧(-10000≤x.eC.Lo∧x.eC.Lo≤x.eC.Hi∧x.eC.Hi≤10000)∧ -10000≤o.eC.Lo∧o.eC.Lo≤o.eC.Hi∧o.eC.Hi≤10000:=by
 have h: ∀ (j:Nat) y,j<i+1→c.bu[j]? =some y→fx c j y:=fun j y hj hy=>by
  by_cases e:j=i
  ·subst e; rw [hx] at hy; cases hy; exact hok
  ·exact hs j y om hy
 have A:=(uE h i x om hx).2 k o hk ho
 have B:=(uE h k o om ho).1
 exact ⟨⟨B,A,hok.1.2⟩,hok.2,(h k o om ho).2⟩
theorem M8 {d a b:Int} (hd:0≤d∧d≤1000) (h:0≤b∧b<a∧a≤86400000):Sq (AS (d*AS (a-b))) 1000000=o5 (d*(a-b)) 1000000:=by
 have C:0≤d*(a-b)∧d*(a-b)≤90000000000:=by
  have:=Pp (a:=d) (b:=a-b) (A:=1000) (B:=90000000) hd.1 hd.2 om om
  omega
 rw [zI (show qi (a-b) from ⟨om,om⟩),zI (show qi (d*(a-b)) from ⟨om,om⟩),PO C.1 om om]
 rfl
/-- what is asked of a line, however wrong it is -/
structure eE (l:bf) (asl:List RA):Prop where
 sE:l.aJ.length≤1000000
 side: ∀ x∈l.aJ,0≤x.iZ∧x.iZ≤255
 sD:l.ai.length≤1000000
 og:asl.length=l.ai.length
 sB:l.ag.length≤1000000
 QL: ∀ (k:Nat) m (a:RA),l.ai[k]? =some m→asl[k]? =some a→m.bu.length≤a.2∧m.bu.length≤1000000
noncomputable instance (l:bf):Decidable (gk l):=by unfold gk; infer_instance
noncomputable instance (l:bf) (b:bE):Decidable (jV l b):=Classical.propDecidable _
theorem yX {l:bf} (h:gk l) (h2: ∀ c∈l.ai,eY c) (h3: ∀ b∈l.ag,jV l b) (h4: ∀ i,i<l.ag.length→1≤lV l i):lf l:=⟨h,h2,h3,h4⟩
theorem Dq {l:bf}:((!(l.ai.any fun m=> !decide (eY m)))=true)↔ ∀ c∈l.ai,eY c:=by simp
theorem GX {l:bf}:((!(l.ag.any fun b=> !decide (jV l b)))=true)↔ ∀ b∈l.ag,jV l b:=by simp
theorem kO {c:au} (h:eY c) {r x:Int} (h0:0≤x) (h1:x<86400001):
 (x<fu (gd c r) 86400001→gd c r x=false)∧(fu (gd c r) 86400001≤x→gd c r x=true)∧(x<fu (gf c r) 86400001→gf c r x=false)∧(fu (gf c r) 86400001≤x→gf c r x=true):=by
 have up: ∀ (q:Int→Bool),(∀ a b,0≤a→a≤b→b<86400001→q a=true→q b=true)→fu q 86400001≤x→q x=true:=fun q hq hx=>by
  have hb:=ia (p:=q) (n:=86400001)
  exact hq _ _ hb.1 hx h1 (zD om)
 refine ⟨t_ h0,up _ fun a b ha A hb hq=>?_,t_ h0,up _ fun a b ha A hb hq=>?_⟩
 ·have:=nR h ha A om
  simp only [gd,decide_eq_true_eq] at hq ⊢; omega
 ·have:=nR h ha A om
  simp only [gf,decide_eq_true_eq] at hq ⊢; omega
theorem wo {l:bf} {s:aN} {b:bE} {c:au} (hb:l.ag[s.gj.toNat]? =some b) (hc:l.ai[b.jM.toNat]? =some c):pJ l s=c:=by
 unfold pJ; rw [hb]; simp only [Option.bind_some]; rw [hc]; rfl
end
section
def mG (sg:List aN) (i:Nat):aN:=if i=0 then ⟨-1,0⟩ else (sg[i-1]?).getD ⟨-1,0⟩
theorem pG {sg:List aN} {i:Nat} {s:aN} (h:sg[i]? =some s):mG sg (i+1)=s:=by unfold mG; rw [if_neg om,Nat.add_sub_cancel,h]; rfl
def k9 (l:bf) (s:aN):Prop:=(0≤s.gj∧s.gj≤(l.ag.length:Int)-1)∧0≤s.Read∧s.Read≤86400000
def kb (l:bf) (sg:List aN) (i:Nat) (s:aN):Prop:=k9 l s∧ ¬ s.gj<(mG sg i).gj∧ ¬ (s.gj=(mG sg i).gj∧s.Read≤(mG sg i).Read)
def qj (l:bf) (sg:List aN) (i:Nat):Prop:= ∀ (j:Nat) s,j<i→sg[j]? =some s→kb l sg j s
structure fh (l:bf) (r:cE):Prop where
 time:0≤r.Start∧r.Start≤r.gh∧r.gh≤86400000
 len:r.aj.length≤10
 sig: ∀ (i:Nat) s,r.aj[i]? =some s→kb l r.aj i s
noncomputable instance (l:bf) (r:cE):Decidable (fh l r):=Classical.propDecidable _
theorem zj {l:bf} {sg:List aN}:qj l sg 0:=fun j s hj=>absurd hj (Nat.not_lt_zero _)
theorem lL {l:bf} {sg:List aN} {i:Nat} {s:aN} (h:qj l sg i) (hs:sg[i]? =some s) (ho:kb l sg i s):qj l sg (i+1):=fun j z hj hz=>by
 rcases Nat.lt_or_ge j i with q|q
 ·exact h j z q hz
 ·obtain rfl:j=i:=by omega
  rw [hs] at hz; cases hz; exact ho
theorem CN {l:bf} {r:cE} {i:Nat} (h1:0≤r.Start∧r.Start≤r.gh∧r.gh≤86400000) (h2:r.aj.length≤10) (h:qj l r.aj i) (hi:r.aj.length≤i):fh l r:=
 ⟨h1,h2,fun j s hs=>h j s (by have:=(List.getElem?_eq_some_iff.1 hs).1; omega) hs⟩
noncomputable def nj (l:bf) (sg:List aN) (b k:Nat):Option (Int×aa):=(sg[k]?).bind fun s=>if s.gj=(b:Int)∧(cH l s).Lo≤(cH l s).Hi then some ((k:Int),cH l s) else none
noncomputable def kE (l:bf) (sg:List aN) (i b:Nat):TM:=(List.range i).filterMap (nj l sg b)
noncomputable def ei (l:bf) (sg:List aN) (i:Nat):List TM:=(List.range l.ag.length).map (kE l sg i)
noncomputable def cL (l:bf) (n:Nat):List Int:=(List.range n).map (eh l)
theorem uW {l:bf} {n:Nat}:cL l (n+1)=cL l n++[eh l n]:=by simp [cL,List.range_succ]
theorem eo {l:bf} {n:Nat}:(cL l n).length=n:=by simp [cL]
theorem jo {l:bf} {sg:List aN} {i:Nat}:(ei l sg i).length=l.ag.length:=by simp [ei]
theorem o1 {l:bf} {sg:List aN} {i b:Nat} (h:b<l.ag.length):(ei l sg i)[b]? =some (kE l sg i b):=by simp [ei,h]
theorem pk {l:bf} {sg:List aN} {b k:Nat} {q:Int×aa}:nj l sg b k=some q↔ ∃ s,sg[k]? =some s∧(s.gj=(b:Int)∧(cH l s).Lo≤(cH l s).Hi)∧q=((k:Int),cH l s):=by
 unfold nj
 cases h:sg[k]? with
 |none=>simp
 |some s=>
  simp only [Option.bind_some,Option.some.injEq]
  by_cases e:s.gj=(b:Int)∧(cH l s).Lo≤(cH l s).Hi
  ·rw [if_pos e]
   constructor
   ·intro h; cases h; exact ⟨s,rfl,e,rfl⟩
   ·rintro ⟨s',rfl,_,rfl⟩; rfl
  ·rw [if_neg e]
   constructor
   ·intro h; cases h
   ·rintro ⟨s',rfl,e',_⟩; exact absurd e' e
theorem rM {l:bf} {sg:List aN} {i b:Nat} {q:Int×aa}:q∈kE l sg i b↔ ∃ k,k<i∧ ∃ s,sg[k]? =some s∧(s.gj=(b:Int)∧(cH l s).Lo≤(cH l s).Hi)∧q=((k:Int),cH l s):=by
 unfold kE
 simp only [List.mem_filterMap,List.mem_range,pk]
theorem kN {l:bf} {sg:List aN} {i b:Nat}:kE l sg (i+1) b=kE l sg i b++(nj l sg b i).toList:=by
 unfold kE
 rw [List.range_succ,List.filterMap_append]
 congr 1
theorem EE {l:bf} {sg:List aN}:ei l sg 0=List.replicate l.ag.length []:=by
 unfold ei
 rw [List.eq_replicate_iff]
 refine ⟨sm,fun t ht=>?_⟩
 obtain ⟨b,_,rfl⟩:=List.mem_map.1 ht
 rfl
theorem xT {l:bf} {sg:List aN} {i:Nat} {s:aN} (hs:sg[i]? =some s) (h: ¬ (cH l s).Lo≤(cH l s).Hi):ei l sg (i+1)=ei l sg i:=by
 unfold ei
 apply List.map_congr_left
 intro b _
 rw [kN]
 have:nj l sg b i=none:=by
  cases e:nj l sg b i with
  |none=>rfl
  |some q=>obtain ⟨s',A,⟨_,B⟩,_⟩:=pk.1 e; rw [hs] at A; cases A; exact absurd B h
 rw [this]; simp
theorem yp {l:bf} {sg:List aN} {i:Nat} {s:aN} (hs:sg[i]? =some s) (hb:0≤s.gj∧s.gj≤(l.ag.length:Int)-1) (h:(cH l s).Lo≤(cH l s).Hi) {x:TM} (hx:(ei l sg i)[s.gj.toNat]? =some x):
 (ei l sg i).set s.gj.toNat (dK x (i:Int) (cH l s))=ei l sg (i+1):=by
 have A:s.gj.toNat<l.ag.length:=by omega
 rw [o1 A] at hx
 cases hx
 have B:dK (kE l sg i s.gj.toNat) (i:Int) (cH l s)=kE l sg (i+1) s.gj.toNat:=by
  have hn:(kE l sg i s.gj.toNat).lookup (i:Int)=none:=iv.2 fun p hp e=>by
   obtain ⟨k,hk,_,_,_,rfl⟩:=rM.1 hp
   simp only at e; omega
  have ho:nj l sg s.gj.toNat i=some ((i:Int),cH l s):=pk.2 ⟨s,hs,⟨om,h⟩,rfl⟩
  rw [kN,ho]
  unfold dK; rw [hn]; rfl
 rw [B]
 apply List.ext_getElem?
 intro b
 rw [List.getElem?_set]
 by_cases e:s.gj.toNat=b
 ·rw [if_pos e,jo,← e,if_pos A,o1 A]
 ·rw [if_neg e]
  by_cases hb':b<l.ag.length
  ·rw [o1 hb',o1 hb',kN]
   have:nj l sg b i=none:=by
    cases e2:nj l sg b i with
    |none=>rfl
    |some q=>obtain ⟨s',C,⟨D,_⟩,_⟩:=pk.1 e2; rw [hs] at C; cases C; exact absurd om e
   rw [this]; simp
  ·rw [List.getElem?_eq_none (by rw [jo]; omega),List.getElem?_eq_none (by rw [jo]; omega)]
noncomputable def ct (l:bf) (r:cE):bT:=⟨r.Start,r.gh,cL l l.ag.length,ei l r.aj r.aj.length,l.bL,l.cv,(r.aj.length:Int)⟩
theorem Lv {l:bf} (ht:cV l.aJ=true) (h:lf l) {i:Nat} (hi:i<l.ag.length):1≤eh l i∧eh l i≤500000000:=by
 have A:=F4 ht h.vw i
 have B:=h.QM i hi
 have C:=h.head.1
 unfold eh o5
 refine ⟨(Int.le_ediv_iff_mul_le om).2 om,?_⟩
 have:(1000*lV l i+l.dM-1)/l.dM≤1000*lV l i+l.dM-1:=Int.ediv_le_self _ om
 omega
theorem N3 (l:bf) (s:aN):0≤(cH l s).Lo∧(cH l s).Hi≤86400000:=by
 have A:=ia (p:=gd (pJ l s) s.Read) (n:=86400001)
 have B:=ia (p:=gf (pJ l s) s.Read) (n:=86400001)
 unfold cH qc
 simp only
 omega
theorem oD {l:bf} {r:cE} (ht:cV l.aJ=true) (h:lf l) (hr:fh l r):Hh (ct l r):=by
 have hh:=h.head
 unfold gk at hh
 refine ⟨?_,by simp [ct,jo,bT.n,eo],hr.time,fun x hx=>?_,fun t A p hp=>?_⟩
 ·show (cL l l.ag.length).length≤6
  rw [eo]; omega
 ·obtain ⟨i,hi,rfl⟩:=List.mem_map.1 hx
  exact Lv ht h (List.mem_range.1 hi)
 ·obtain ⟨b,hb,rfl⟩:=List.mem_map.1 A
  obtain ⟨k,hk,s,hs,⟨_,B⟩,rfl⟩:=rM.1 hp
  have C:=N3 l s
  have D:=hr.len
  simp only
  omega
noncomputable def eH (l:bf) (r:cE) (me:Int):Int:=if dw l=0 then (if fh l r then (if me=0 then (if jD (ct l r)=[] then 8 else 0) else me) else 51) else dw l
theorem nU {l:bf} {r:cE} {me:Int} (h: ¬ dw l=0):eH l r me=dw l:=if_neg h
theorem je {l:bf} {r:cE} {me:Int} (h:dw l=0) (h2: ¬ fh l r):eH l r me=51:=by unfold eH; rw [if_pos h,if_neg h2]
theorem qv {l:bf} {r:cE} {me:Int} (h:dw l=0) (h2:fh l r) (h3: ¬ me=0):eH l r me=me:=by unfold eH; rw [if_pos h,if_pos h2,if_neg h3]
theorem pj {l:bf} {r:cE} {me:Int} (h:dw l=0) (h2:fh l r) (h3:me=0) (h4:jD (ct l r)=[]):eH l r me=8:=by unfold eH; rw [if_pos h,if_pos h2,if_pos h3,if_pos h4]
theorem lO {l:bf} {r:cE} {me:Int} (h:dw l=0) (h2:fh l r) (h3:me=0) (h4: ¬ jD (ct l r)=[]):eH l r me=0:=by unfold eH; rw [if_pos h,if_pos h2,if_pos h3,if_neg h4]
theorem j1 {l:bf} {r:cE} {me:Int} (h:eH l r me=0):dw l=0∧fh l r∧me=0∧ ¬ jD (ct l r)=[]:=by
 unfold eH at h
 split at h
 ·split at h
  ·split at h
   ·split at h
    ·omega
    ·exact ⟨asm,asm,asm,asm⟩
   ·omega
  ·omega
 ·omega
end
section
def xL (l:List Int):Int:=(l.drop 1).foldl min (l.headD 0)
def Ds (l:List Int):Int:=(l.drop 1).foldl max (l.headD 0)
theorem AW: ∀ (l:List Int) (a:Int),(l.foldl min a=a∨l.foldl min a∈l)∧l.foldl min a≤a∧ ∀ x∈l,l.foldl min a≤x
 |[],a=>⟨.inl rfl,sm,sm⟩
 |y::l,a=>by
  obtain ⟨A,C,B⟩:=AW l (min a y)
  simp only [List.foldl_cons]
  refine ⟨?_,om,?_⟩
  ·rcases A with A|A
   ·rw [A]
    rcases Int.le_total a y with q|q
    ·left; omega
    ·right; rw [show min a y=y by omega]; simp
   ·right; exact cS _ A
  ·intro x hx
   rcases List.mem_cons.1 hx with rfl|hx
   ·omega
   ·exact B x hx
theorem BD: ∀ (l:List Int) (a:Int),(l.foldl max a=a∨l.foldl max a∈l)∧a≤l.foldl max a∧ ∀ x∈l,x≤l.foldl max a
 |[],a=>⟨.inl rfl,sm,sm⟩
 |y::l,a=>by
  obtain ⟨A,C,B⟩:=BD l (max a y)
  simp only [List.foldl_cons]
  refine ⟨?_,om,?_⟩
  ·rcases A with A|A
   ·rw [A]
    rcases Int.le_total a y with q|q
    ·right; rw [show max a y=y by omega]; simp
    ·left; omega
   ·right; exact cS _ A
  ·intro x hx
   rcases List.mem_cons.1 hx with rfl|hx
   ·omega
   ·exact B x hx
theorem Ge {l:List Int} (h:l≠[]):xL l∈l∧ ∀ x∈l,xL l≤x:=by
 cases l with
 |nil=>exact absurd rfl h
 |cons y ys=>
  obtain ⟨A,B,C⟩:=AW ys y
  refine ⟨?_,fun x hx=>?_⟩
  ·rcases A with A|A
   ·simp [xL,A]
   ·exact cS _ (by simpa [xL] using A)
  ·rcases List.mem_cons.1 hx with rfl|hx
   ·simpa [xL] using B
   ·simpa [xL] using C x hx
theorem Oj {l:List Int} (h:l≠[]):Ds l∈l∧ ∀ x∈l,x≤Ds l:=by
 cases l with
 |nil=>exact absurd rfl h
 |cons y ys=>
  obtain ⟨A,B,C⟩:=BD ys y
  refine ⟨?_,fun x hx=>?_⟩
  ·rcases A with A|A
   ·simp [Ds,A]
   ·exact cS _ (by simpa [Ds] using A)
  ·rcases List.mem_cons.1 hx with rfl|hx
   ·simpa [Ds] using B
   ·simpa [Ds] using C x hx
noncomputable def k7 (l:bf) (r:cE):List Int:=if eH l r 0=0 then jD (ct l r) else []
theorem lH {l:bf} {r:cE} (h:eH l r 0=0):k7 l r=jD (ct l r):=if_pos h
theorem ud {l:bf} {r:cE} (h: ¬ eH l r 0=0):k7 l r=[]:=if_neg h
theorem ui {l:bf} {r:cE} (h:eH l r 0=0):k7 l r≠[]:=by rw [lH h]; exact (j1 h).2.2.2
noncomputable def EJ (l:bf) (r:cE):Int:=if eH l r 0=0 then (if l.bH<xL (k7 l r) then 2 else if Ds (k7 l r)≤l.bH then 0 else 1) else 0
noncomputable def jC (l:bf) (b:Int):Int:=if 0≤b∧b≤(l.ag.length:Int)-1 then 0 else 2
theorem xA {l:bf} {b:Int} (h:0≤b∧b≤(l.ag.length:Int)-1):jC l b=0:=if_pos h
theorem EK {l:bf} {b:Int} (h:jC l b=0):0≤b∧b≤(l.ag.length:Int)-1:=by
 unfold jC at h
 split at h
 ·assumption
 ·omega
noncomputable def mu (l:bf) (r:cE) (b:Nat):aa:=uR (ml (ct l r) b)
noncomputable def eQ (l:bf) (r:cE) (b:Int):Int:=if eH l r (jC l b)=0 then (if mu l r b.toNat=mx then 6 else 0) else eH l r (jC l b)
noncomputable def eZ (l:bf) (r:cE) (b:Int):aa:=if eQ l r b=0 then mu l r b.toNat else dD
theorem nF {l:bf} {r:cE} {b:Int} (h: ¬ eH l r (jC l b)=0):eQ l r b=eH l r (jC l b)∧eZ l r b=dD:=by
 have e:eQ l r b=eH l r (jC l b):=if_neg h
 exact ⟨e,by unfold eZ; rw [if_neg (by rw [e]; exact h)]⟩
theorem pZ {l:bf} {r:cE} {b:Nat} (h:eH l r (jC l b)=0) (h2:mu l r b=mx):eQ l r b=6∧eZ l r b=dD:=by
 have e:eQ l r b=6:=by unfold eQ; rw [if_pos h,Int.toNat_natCast,if_pos h2]
 exact ⟨e,by unfold eZ; rw [if_neg (by rw [e]; omega)]⟩
theorem oe {l:bf} {r:cE} {b:Nat} (h:eH l r (jC l b)=0) (h2: ¬ mu l r b=mx):eQ l r b=0∧eZ l r b=mu l r b:=by
 have e:eQ l r b=0:=by unfold eQ; rw [if_pos h,Int.toNat_natCast,if_neg h2]
 exact ⟨e,by unfold eZ; rw [if_pos e,Int.toNat_natCast]⟩
theorem LH {w:bT} (h:Hh w) {b:Nat} {q:Int×aa} (hq:q∈ml w b):0≤q.2.Lo∧q.2.Lo≤q.2.Hi∧q.2.Hi≤86400000:=by
 have A:=mP hq
 obtain ⟨o,ho,p,hp,u,hu,e⟩:=hE.1 hq
 obtain ⟨_,_,rfl⟩:=jl.1 e
 have B:=h.opt ho
 simp only [jq] at A ⊢
 omega
theorem w9 {l:bf} {r:cE} {b:Int} (h:eQ l r b=0):0≤(eZ l r b).Lo∧(eZ l r b).Lo≤(eZ l r b).Hi∧(eZ l r b).Hi≤86400000:=by
 have ho:eH l r (jC l b)=0:=by
  by_cases e:eH l r (jC l b)=0
  ·exact e
  ·rw [(nF e).1] at h; exact absurd h e
 obtain ⟨B,C,_⟩:=j1 ho
 obtain ⟨ht,A⟩:=gL B
 have hw:=oD ht A C
 have hv:eZ l r b=mu l r b.toNat:=by unfold eZ; rw [if_pos h]
 have hn:mu l r b.toNat≠mx:=fun e=>by unfold eQ at h; rw [if_pos ho,if_pos e] at h; omega
 have hh:=uD (l:=ml (ct l r) b.toNat) fun q hq=>mP hq
 rw [hv]
 unfold mu at hn ⊢
 rcases hh with ⟨_,e⟩|hh
 ·exact absurd e hn
 ·obtain ⟨x,hx,ex⟩:=hh.lo
  obtain ⟨y,hy,ey⟩:=hh.hi
  have:=LH hw hx
  have:=LH hw hy
  have:=hh.le
  omega
noncomputable def Au (l:bf) (r:cE):aa:=if eQ l r l.bH=0 then ⟨(eZ l r l.bH).Lo-r.Start,(eZ l r l.bH).Hi-r.Start⟩ else dD
theorem As {l:bf} {r:cE} (h:eQ l r l.bH=0):Au l r=⟨(eZ l r l.bH).Lo-r.Start,(eZ l r l.bH).Hi-r.Start⟩:=if_pos h
theorem EC {l:bf} {r:cE} (h: ¬ eQ l r l.bH=0):Au l r=dD:=if_neg h
theorem u0 {l:bf} {r:cE} {b:Int} (h:eQ l r b=0):fh l r:=by
 by_cases e:eH l r (jC l b)=0
 ·exact (j1 e).2.1
 ·rw [(nF e).1] at h; exact absurd h e
theorem zC {k:List (Int×aa)} {h:aa} {q:Int×aa} {z:aa} (hh:kd k h) (hq:q.2.Lo≤q.2.Hi) (hz:l7 h q.2=z):kd (k++[q]) z:=by subst hz; exact tY hh hq
end
section
set_option maxRecDepth 20000
def Rx:ao:=⟨1,⟨10000,10200⟩,⟨0,100⟩,⟨0,0⟩,0,0⟩
def yf:au:=⟨100,[⟨0,⟨0,2⟩⟩,⟨100000,⟨5,6⟩⟩]⟩
def QP (o:Int):bE:=⟨⟨0,⟨o,o⟩⟩,0⟩
def nO (f:Int):bf:=⟨[Rx],2000,[yf],[QP 1000,QP 4000,QP 9000],1,f,1⟩
def mC:cE:=⟨10000,20000,[⟨0,10600⟩,⟨0,11000⟩,⟨1,12600⟩]⟩
theorem H9:cV [Rx]=true:=by decide
theorem w8:eY yf:=by
 have hi: ∀ (i:Nat) (x:cG),yf.bu[i]? =some x→i=0∧x=⟨0,⟨0,2⟩⟩∨i=1∧x=⟨100000,⟨5,6⟩⟩:=fun i x h=>by
  match i with
  |0=>left; simp [yf] at h; exact ⟨rfl,h.symm⟩
  |1=>right; simp [yf] at h; exact ⟨rfl,h.symm⟩
  |n+2=>simp [yf] at h
 refine ⟨dc,dc,fun i x hx=>?_,fun i k x o hx hk ho=>?_⟩
 ·rcases hi i x hx with ⟨rfl,rfl⟩|⟨rfl,rfl⟩<;>(unfold fx; decide)
 ·rcases hi i x hx with ⟨rfl,rfl⟩|⟨rfl,rfl⟩
  ·omega
  ·rcases hi k o ho with ⟨rfl,rfl⟩|⟨rfl,rfl⟩
   ·unfold nI; decide
   ·omega
theorem zL {o:Int} (h:0≤o∧o<10000):fr [Rx] ⟨0,⟨o,o⟩⟩:=⟨sm,Rx,rfl,by show o≤o∧0≤o∧o≤10000-1; omega⟩
theorem Np {f:Int} (hf:0≤f∧f≤3):lf (nO f):=by
 refine ⟨?_,fun c hc=>?_,fun b hb=>?_,fun i hi=>?_⟩
 ·unfold gk; simp [nO]; omega
 ·simp [nO] at hc; subst hc; exact w8
 ·simp [nO] at hb
  rcases hb with rfl|rfl|rfl
  ·exact ⟨zL om,by simp [QP,nO]⟩
  ·exact ⟨zL om,by simp [QP,nO]⟩
  ·exact ⟨zL om,by simp [QP,nO]⟩
 ·have A:i<3:=hi
  have:i=0∨i=1∨i=2:=by omega
  rcases this with rfl|rfl|rfl
  ·show (1:Int)≤lV (nO 0) 0; decide
  ·show (1:Int)≤lV (nO 0) 1; decide
  ·show (1:Int)≤lV (nO 0) 2; decide
def mK:bf:=nO 1
theorem OH:dw mK=0:=wW H9 (Np om)
theorem Ak {r x:Int} (h0:0<x) (h1:x≤86400000) (hy:gd yf r x=true) (hn:gd yf r (x-1)=false):fu (gd yf r) 86400001=x:=
 yE om om hy fun z hz A=>by
  cases e:gd yf r z with
  |false=>rfl
  |true=>
   unfold gd at e hn
   have:=(nR w8 hz (show z≤x-1 by omega) om).2
   have B:=of_decide_eq_true e
   have C:=of_decide_eq_false hn
   omega
theorem AB {r x:Int} (h0:0<x) (h1:x≤86400000) (hy:gf yf r x=true) (hn:gf yf r (x-1)=false):fu (gf yf r) 86400001=x:=
 yE om om hy fun z hz A=>by
  cases e:gf yf r z with
  |false=>rfl
  |true=>
   unfold gf at e hn
   have:=(nR w8 hz (show z≤x-1 by omega) om).1
   have B:=of_decide_eq_true e
   have C:=of_decide_eq_false hn
   omega
theorem Q4:qc yf 10600=⟨10596,10602⟩:=by unfold qc; rw [Ak (x:=10596) om om dc dc,AB (x:=10603) om om dc dc]; rfl
theorem Rm:qc yf 11000=⟨10996,11002⟩:=by unfold qc; rw [Ak (x:=10996) om om dc dc,AB (x:=11003) om om dc dc]; rfl
theorem RL:qc yf 12600=⟨12596,12602⟩:=by unfold qc; rw [Ak (x:=12596) om om dc dc,AB (x:=12603) om om dc dc]; rfl
def QY (f:Int):bT:=⟨10000,20000,[500,1500,2500],[[(0,⟨10596,10602⟩),(1,⟨10996,11002⟩)],[(2,⟨12596,12602⟩)],[]],1,f,3⟩
theorem Sl (f:Int):cH (nO f) ⟨0,10600⟩=⟨10596,10602⟩:=Q4
theorem Sj (f:Int):cH (nO f) ⟨0,11000⟩=⟨10996,11002⟩:=Rm
theorem RH (f:Int):cH (nO f) ⟨1,12600⟩=⟨12596,12602⟩:=RL
theorem JL (f:Int):ei (nO f) mC.aj 3=[[(0,⟨10596,10602⟩),(1,⟨10996,11002⟩)],[(2,⟨12596,12602⟩)],[]]:=by
 have o: ∀ b:Nat,kE (nO f) mC.aj 3 b=(nj (nO f) mC.aj b 0).toList++((nj (nO f) mC.aj b 1).toList++(nj (nO f) mC.aj b 2).toList):=fun b=>by
  rw [kN,kN,kN]; simp [kE]
 have A: ∀ b:Nat,nj (nO f) mC.aj b 0=if (0:Int)=(b:Int) then some (0,⟨10596,10602⟩) else none:=fun b=>by
  show (if (0:Int)=(b:Int)∧(cH (nO f) ⟨0,10600⟩).Lo≤(cH (nO f) ⟨0,10600⟩).Hi then some ((0:Int),cH (nO f) ⟨0,10600⟩) else none)=_
  rw [Sl]; by_cases h:(0:Int)=(b:Int)
  ·rw [if_pos h,if_pos ⟨h,dc⟩]<;>rfl
  ·rw [if_neg h,if_neg fun q=>h q.1]
 have B: ∀ b:Nat,nj (nO f) mC.aj b 1=if (0:Int)=(b:Int) then some (1,⟨10996,11002⟩) else none:=fun b=>by
  show (if (0:Int)=(b:Int)∧(cH (nO f) ⟨0,11000⟩).Lo≤(cH (nO f) ⟨0,11000⟩).Hi then some ((1:Int),cH (nO f) ⟨0,11000⟩) else none)=_
  rw [Sj]; by_cases h:(0:Int)=(b:Int)
  ·rw [if_pos h,if_pos ⟨h,dc⟩]<;>rfl
  ·rw [if_neg h,if_neg fun q=>h q.1]
 have C: ∀ b:Nat,nj (nO f) mC.aj b 2=if (1:Int)=(b:Int) then some (2,⟨12596,12602⟩) else none:=fun b=>by
  show (if (1:Int)=(b:Int)∧(cH (nO f) ⟨1,12600⟩).Lo≤(cH (nO f) ⟨1,12600⟩).Hi then some ((2:Int),cH (nO f) ⟨1,12600⟩) else none)=_
  rw [RH]; by_cases h:(1:Int)=(b:Int)
  ·rw [if_pos h,if_pos ⟨h,dc⟩]<;>rfl
  ·rw [if_neg h,if_neg fun q=>h q.1]
 show [kE (nO f) mC.aj 3 0,kE (nO f) mC.aj 3 1,kE (nO f) mC.aj 3 2]=_
 rw [o,o,o,A,A,A,B,B,B,C,C,C]
 rfl
theorem BR (f:Int):ct (nO f) mC=QY f:=by
 unfold ct QY
 rw [show mC.aj.length=3 from rfl,JL]
 rfl
theorem My (f:Int):fh (nO f) mC:=by
 refine ⟨dc,dc,fun i s hs=>?_⟩
 match i with
 |0=>simp [mC] at hs; subst hs; unfold kb k9; simp [nO,mG]
 |1=>simp [mC] at hs; subst hs; unfold kb k9; simp [nO,mG,mC]
 |2=>simp [mC] at hs; subst hs; unfold kb k9; simp [nO,mG,mC]
 |n+3=>simp [mC] at hs
theorem ID:jD (ct mK mC)=[2,3]:=by rw [show ct mK mC=QY 1 from BR 1]; decide
theorem H4:eH mK mC 0=0:=lO OH (My 1) rfl (by rw [ID]; decide)
theorem Ia {b:Nat} (hb:b<3):eH mK mC (jC mK b)=0:=by rw [xA (by show 0≤(b:Int)∧(b:Int)≤3-1; omega)]; exact H4
theorem MS {b:Nat} {z:aa} (hb:b<3) (hz:uR (ml (QY 1) b)=z) (hn:z≠mx):eQ mK mC b=0∧eZ mK mC b=z:=by
 have e:mu mK mC b=z:=by unfold mu; rw [show ct mK mC=QY 1 from BR 1]; exact hz
 have h:=oe (Ia hb) (by rw [e]; exact hn)
 exact ⟨h.1,h.2.trans e⟩
theorem xJ:eQ mK mC 1=0∧eZ mK mC 1=⟨12596,12602⟩:=MS (b:=1) om dc dc
theorem Dk:eQ mK mC mK.bH=0∧Au mK mC=⟨2596,2602⟩:=by
 refine ⟨xJ.1,?_⟩
 rw [As (l:=mK) (r:=mC) xJ.1]
 rw [show eZ mK mC mK.bH=⟨12596,12602⟩ from xJ.2]
 rfl
theorem Ru (f:Int) {a:OA} {c:Nat} (hc:2≤c):eE (nO f) [(a,c)]:=by
 refine ⟨by simp [nO],?_,by simp [nO],U,by simp [nO],fun k m a' hm ha=>?_⟩
 ·intro x hx; simp [nO] at hx; subst hx; simp [Rx]
 ·match k with
  |0=>simp [nO] at hm ha; subst hm; subst ha; simp [yf]; exact hc
  |n+1=>simp at ha
end
section
def mD (l:bf):Prop:=(20<(l.aJ.length:Int)∨8<(l.ai.length:Int)∨10<(l.ag.length:Int))∨ ∃ c∈l.ai,10<(c.bu.length:Int)
noncomputable instance (l:bf):Decidable (mD l):=Classical.propDecidable _
/-- what is asked of a line that comes in -/
structure s8 (l:bf) (az:List RA):Prop where
 sE:l.aJ.length≤9223372036854775807
 side: ∀ x∈l.aJ,0≤x.iZ∧x.iZ≤255
 sD:l.ai.length≤9223372036854775807
 og:az.length=l.ai.length
 sB:l.ag.length≤9223372036854775807
 QL: ∀ (k:Nat) m (a:RA),l.ai[k]? =some m→az[k]? =some a→m.bu.length≤a.2∧m.bu.length≤9223372036854775807
def AN (l:bf) (i:Nat):Prop:= ∀ (j:Nat) c,j<i→l.ai[j]? =some c→(c.bu.length:Int)≤10
theorem JD {l:bf} {i:Nat} (h: ¬ (20<(l.aJ.length:Int))∧ ¬ (8<(l.ai.length:Int))∧ ¬ (10<(l.ag.length:Int))) (hi:l.ai.length≤i) (hs:AN l i): ¬ mD l:=by
 rintro (A|⟨c,hc,B⟩)
 ·omega
 ·obtain ⟨k,hk⟩:=List.getElem?_of_mem hc
  have:=hs k c (by have:=(List.getElem?_eq_some_iff.1 hk).1; omega) hk
  omega
theorem Ij {l:bf} {i:Nat} {c:au} (hc:l.ai[i]? =some c) (h:10<(c.bu.length:Int)):mD l:= .inr ⟨c,aX hc,h⟩
theorem lE {α:Type} {l:List α} {P:Nat→α→Prop} {i:Nat} {x:α} (h: ∀ (j:Nat) y,j<i→l[j]? =some y→P j y) (hx:l[i]? =some x) (hp:P i x): ∀ (j:Nat) y,j<i+1→l[j]? =some y→P j y:=fun j y hj hy=>by
 by_cases e:j=i
 ·subst e; rw [hx] at hy; cases hy; exact hp
 ·exact h j y om hy
theorem wO {α:Type} {l:List α} {P:Nat→α→Prop} {i:Nat} (hi:l.length≤i) (h: ∀ (j:Nat) y,j<i→l[j]? =some y→P j y): ∀ (j:Nat) y,l[j]? =some y→P j y:=fun j y hy=>h j y (by have:=(List.getElem?_eq_some_iff.1 hy).1; omega) hy
theorem xV {α:Type} {l:List α} {P:α→Prop} {i:Nat} (hi:l.length≤i) (h: ∀ (j:Nat) y,j<i→l[j]? =some y→P y): ∀ y∈l,P y:=fun y hy=>by
 obtain ⟨k,hk⟩:=List.getElem?_of_mem hy
 exact wO (P:=fun _ y=>P y) hi h k y hk
theorem Je {l:bf} (h: ¬ mD l):(l.aJ.length:Int)≤20∧(l.ai.length:Int)≤8∧(l.ag.length:Int)≤10∧ ∀ c∈l.ai,(c.bu.length:Int)≤10:=by
 unfold mD at h
 rw [not_or] at h
 refine ⟨om,om,om,fun c hc=>?_⟩
 have:=h.2
 rcases Int.lt_or_le 10 (c.bu.length:Int) with q|q
 ·exact absurd ⟨c,hc,q⟩ this
 ·exact q
theorem s8.small {l:bf} {az:List RA} (h:s8 l az) (hg: ¬ mD l):eE l az:=by
 have A:=Je hg
 exact ⟨om,h.side,om,h.og,om,fun k m a hm ha=>⟨(h.QL k m a hm ha).1,by have:=A.2.2.2 m (aX hm); omega⟩⟩
def EZ (c:au) (x:cG) (k:Nat):Prop:= ∀ (j:Nat) o,j<k→c.bu[j]? =some o→nI c x o
def ti (c:au) (m:Nat):Prop:= ∀ (i:Nat) x,i<m→c.bu[i]? =some x→EZ c x i
theorem JP {c:au} {m:Nat} (h1:0≤c.dj∧c.dj≤1000) (h2:1≤c.bu.length∧c.bu.length≤5) (hs: ∀ (i:Nat) x,c.bu[i]? =some x→fx c i x) (hm:c.bu.length≤m) (hp:ti c m):eY c:=
 ⟨h1,h2,hs,fun i k x o hx hk ho=>hp i x (by have:=(List.getElem?_eq_some_iff.1 hx).1; omega) hx k o hk ho⟩
theorem DI {c:au} {m k:Nat} (h:ti c m) (hk: ∀ y,c.bu[m]? =some y→EZ c y k) (e:k=m):ti c (m+1):=by
 subst e
 intro i x hi hx
 by_cases e:i=k
 ·subst e; exact hk x hx
 ·exact h i x om hx
noncomputable def kH (c:au) (at_:Int) (i:Nat):aa:=if i=0 then dD else gr c at_ i
theorem DG {c:au} {at_:Int} {i:Nat} (h:eY c) (hi:c.bu.length≤i):kH c at_ i=hP c at_:=by
 have:=h.len
 unfold kH; rw [if_neg om,nm hi]
theorem Ao {c:au} {at_:Int} {i:Nat} {x:cG} (h:eY c) (ha:0≤at_∧at_≤90000000) (hx:c.bu[i]? =some x) (hi:i=0):
 kH c at_ (i+1)=⟨max (x.eC.Lo-sw c at_ x) (x.eC.Lo-sw c at_ x),min (x.eC.Hi+sw c at_ x) (x.eC.Hi+sw c at_ x)⟩:=by
 subst hi
 have hb:=h.tW hx
 have ho:=uh h.rD ha hb.1
 unfold kH
 rw [if_neg om,jI hx]
 unfold lD gr
 simp only [List.take_zero,List.foldl_nil,aa.mk.injEq]
 omega
theorem Be {c:au} {at_:Int} {i:Nat} {x:cG} (hx:c.bu[i]? =some x) (hi: ¬ i=0):kH c at_ (i+1)=⟨max (kH c at_ i).Lo (x.eC.Lo-sw c at_ x),min (kH c at_ i).Hi (x.eC.Hi+sw c at_ x)⟩:=by
 unfold kH
 rw [if_neg om,if_neg hi,jI hx]; rfl
def g4 (ts:List ao) (n:Nat):List aa:=(List.range n).map fun k=>eI ts 0 k
theorem CP {ts:List ao} {n:Nat}:g4 ts (n+1)=g4 ts n++[eI ts 0 n]:=by simp [g4,List.range_succ]
theorem oo {ts:List ao} {n:Nat}:(g4 ts n).length=n:=by simp [g4]
theorem pf {ts:List ao} {n k:Nat} {x:aa} (h:(g4 ts n)[k]? =some x):x=eI ts 0 k:=by
 unfold g4 at h
 rw [fB] at h
 cases hk:(List.range n)[k]? with
 |none=>simp [hk] at h
 |some v=>
  have:=List.getElem?_eq_some_iff.1 hk
  simp at this
  simp [hk] at h
  rw [← h,← this.2]
theorem DK {ts:List ao} {a b:cJ} (h:b.a_<a.a_):jL ts a b=nY (jL ts b a):=by
 unfold jL
 rw [if_pos h,if_neg om]
 unfold xr
 rw [Int.min_comm b.a_ a.a_,Int.max_comm b.a_ a.a_]
 unfold nY l8
 simp only [aa.mk.injEq]
 omega
theorem qq {ts:List ao} {a b:cJ} (h: ¬ b.a_<a.a_):jL ts a b=l8 (l8 (eI ts a.a_.toNat (b.a_-a.a_).toNat) b.mA) (nY a.mA):=by
 unfold jL xr
 rw [if_neg h,Int.min_eq_left om,Int.max_eq_right om]
end
section
def hU (m:List aA) (a:cQ):List av:=rd a.1.1 m.length 7 (List.zipWith aA.cells m a.2)::aU aA.gY m a.2
structure PA (h:List aA) (a:cQ):Prop where
 len:h.length≤1000000
 og:a.2.length=h.length
 sig: ∀ d∈h,d.cx.aj.length≤1000000
structure fg (r:cf) (az:List RA) (ha:List cQ):Prop where
 line:eE r.ah az
 iN:r.aI.length≤1000000
 draw:r.bD.length≤12
 iM:r.aq.length≤1000000
 has:ha.length=r.aq.length
 oI: ∀ (k:Nat) h (a:cQ),r.aq[k]? =some h→ha[k]? =some a→PA h a
structure qJ (r:cf) (az:List RA) (ha:List cQ):Prop where
 line:s8 r.ah az
 iN:r.aI.length≤9223372036854775807
 draw:r.bD.length≤9223372036854775807
 iM:r.aq.length≤9223372036854775807
 has:ha.length=r.aq.length
 oI: ∀ (k:Nat) h (a:cQ),r.aq[k]? =some h→ha[k]? =some a→h.length≤9223372036854775807∧a.2.length=h.length∧ ∀ d∈h,d.cx.aj.length≤9223372036854775807
def oV (h:List aA):Prop:=8<(h.length:Int)∨ ∃ d∈h,15<(d.cx.aj.length:Int)
def oy (r:cf):Prop:=(mD r.ah∨8<(r.aI.length:Int)∨8<(r.bD.length:Int)∨5<(r.aq.length:Int))∨ ∃ h∈r.aq,oV h
noncomputable instance (r:cf):Decidable (oy r):=Classical.propDecidable _
theorem M7 {r:cf} (h: ¬ oy r): ¬ mD r.ah∧(r.aI.length:Int)≤8∧(r.bD.length:Int)≤8∧(r.aq.length:Int)≤5∧ ∀ h∈r.aq,(h.length:Int)≤8∧ ∀ d∈h,(d.cx.aj.length:Int)≤15:=by
 unfold oy at h
 obtain ⟨A,B⟩:=not_or.1 h
 obtain ⟨C,E⟩:=not_or.1 A
 refine ⟨C,om,om,om,fun x hx=>?_⟩
 have hn: ¬ oV x:=fun q=>B ⟨x,hx,q⟩
 obtain ⟨F,D⟩:=not_or.1 hn
 refine ⟨om,fun d hd=>?_⟩
 rcases Int.lt_or_le 15 (d.cx.aj.length:Int) with q|q
 ·exact absurd ⟨d,hd,q⟩ D
 ·exact q
theorem qJ.small {r:cf} {az:List RA} {ha:List cQ} (h:qJ r az ha) (hg: ¬ oy r):fg r az ha:=by
 have B:=M7 hg
 refine ⟨h.line.small B.1,om,om,om,h.has,fun k x a hx A=>?_⟩
 have C:=B.2.2.2.2 x (aX hx)
 have D:=h.oI k x a hx A
 exact ⟨om,D.2.1,fun d hd=>by have:=C.2 d hd; omega⟩
def l6 (r:cE):Prop:=r.Start=0∧r.gh=0∧(r.aj.length:Int)=0
instance (r:cE):Decidable (l6 r):=by unfold l6; infer_instance
def iJ (s:aa):Prop:=1≤s.Lo∧s.Lo≤s.Hi∧s.Hi≤600000
instance (s:aa):Decidable (iJ s):=by unfold iJ; infer_instance
def hZ (l:bf) (d:aA):Prop:=if d.Out=true then d.eO=false∧d.Time=dD∧l6 d.cx else if d.eO=true then iJ d.Time∧l6 d.cx else eQ l d.cx l.bH=0∧d.Time=dD
noncomputable instance (l:bf) (d:aA):Decidable (hZ l d):=Classical.propDecidable _
noncomputable def dE (l:bf) (d:aA):aa:=if d.Out=true∨d.eO=true then d.Time else Au l d.cx
/-- which kind a descent is of -/
def oz (d:aA):Int:=if d.Out=true then 0 else if d.eO=true then 1 else 2
theorem Nn {w:bT} (h:Hh w): ∀ (b:Nat) (p:aC×Int),p∈fwd w b→w.Start≤p.2:=by
 have hl: ∀ b,0≤bV w b:=fun b=>by
  unfold bV
  cases e:w.pS[b]? with
  |none=>simp
  |some x=>have:=h.least x (aX e); simp; omega
 intro b
 induction b with
 |zero=>intro p hp; simp only [fwd,bW] at hp; subst hp; exact Int.le_refl _
 |succ b ih=>
  intro q hq
  obtain ⟨p,hp,o,ho,e⟩:=fP.1 hq
  unfold kF at e
  split at e
  ·simp only [Option.some.injEq] at e
   subst e
   have:=ih p hp
   have:=hl b
   simp only; omega
  ·cases e
theorem MU {l:bf} {r:cE} {b:Int} (h:eQ l r b=0):r.Start≤(eZ l r b).Lo:=by
 have ho:eH l r (jC l b)=0:=by
  by_cases e:eH l r (jC l b)=0
  ·exact e
  ·rw [(nF e).1] at h; exact absurd h e
 obtain ⟨B,C,_⟩:=j1 ho
 obtain ⟨ht,A⟩:=gL B
 have hw:=oD ht A C
 have hv:eZ l r b=mu l r b.toNat:=by unfold eZ; rw [if_pos h]
 have hn:mu l r b.toNat≠mx:=fun e=>by unfold eQ at h; rw [if_pos ho,if_pos e] at h; omega
 have hh:=uD (l:=ml (ct l r) b.toNat) fun q hq=>mP hq
 rw [hv]
 unfold mu at hn ⊢
 rcases hh with ⟨_,e⟩|hh
 ·exact absurd e hn
 ·obtain ⟨x,hx,ex⟩:=hh.lo
  obtain ⟨o,ho,p,hp,u,hu,e⟩:=hE.1 hx
  obtain ⟨_,_,rfl⟩:=jl.1 e
  have D:r.Start≤p.2:=Nn hw _ p hp
  have E:0≤bV (ct l r) b.toNat:=by
   unfold bV
   cases e:(ct l r).pS[b.toNat]? with
   |none=>simp
   |some x=>have:=hw.least x (aX e); simp; omega
  simp only [jq] at ex
  omega
theorem Fy {l:bf} {d:aA} (h:hZ l d):0≤(dE l d).Lo∧(dE l d).Lo≤(dE l d).Hi∧(dE l d).Hi≤86400000:=by
 unfold hZ at h
 unfold dE
 split at h
 ·rename_i q; rw [if_pos (Or.inl q),h.2.1]; simp [dD]
 ·rename_i q
  split at h
  ·rename_i A
   rw [if_pos (Or.inr A)]
   obtain ⟨⟨B,C,D⟩,_⟩:=h
   omega
  ·rename_i A
   rw [if_neg (fun z=>z.elim q A),As h.1]
   have B:=w9 h.1
   have C:=(u0 h.1).time
   have D:=MU h.1
   simp only
   omega
theorem FW {l:bf} {d:aA} (h:d.Out=true):dE l d=d.Time:=if_pos (Or.inl h)
theorem zN {l:bf} {d:aA} (h:d.Out=false∧d.eO=true):dE l d=d.Time:=if_pos (Or.inr h.2)
theorem vV {l:bf} {d:aA} (h:d.Out=false∧d.eO=false):dE l d=Au l d.cx:=if_neg (by simp [h])
theorem qw {l:bf} {d:aA} (h:d.Out=true):hZ l d=(d.eO=false∧d.Time=dD∧l6 d.cx):=if_pos h
theorem sS {l:bf} {d:aA} (h:d.Out=false∧d.eO=true):hZ l d=(iJ d.Time∧l6 d.cx):=by unfold hZ; rw [if_neg (by simp [h]),if_pos h.2]
theorem tn {l:bf} {d:aA} (h:d.Out=false∧d.eO=false):hZ l d=(eQ l d.cx l.bH=0∧d.Time=dD):=by unfold hZ; rw [if_neg (by simp [h]),if_neg (by simp [h])]
structure eX (r:cf):Prop where
 num:1≤(r.aI.length:Int)∧(r.aI.length:Int)≤5
 xH:0≤r.ed∧r.ed≤5
 nh:1≤(r.aq.length:Int)∧(r.aq.length:Int)≤3
 ids: ∀ (i:Nat) x,r.aI[i]? =some x→(0≤x∧x≤9999)∧ ∀ y,0<i→r.aI[i-1]? =some y→y<x
 draw:r.bD.Perm ((List.range r.aI.length).map fun (k:Nat)=>(k:Int))
 oI: ∀ h∈r.aq,h.length=r.aI.length∧ ∀ d∈h,hZ r.ah d
noncomputable instance (r:cf):Decidable (eX r):=Classical.propDecidable _
noncomputable def bX (r:cf):Int:=if dw r.ah=0 then (if eX r then 0 else 60) else dw r.ah
end
section
theorem m6 {α β:Type} {f g:α→Option β}: ∀ {l:List α},(∀ x∈l,f x=g x)→l.filterMap f=l.filterMap g
 |[],_=>rfl
 |x::l,h=>by simp only [List.filterMap_cons,h x cm,m6 (l:=l) (fun y hy=>h y (cS _ hy))]
abbrev gp:=List (Int×aa)
/-- the sum of a sled in some heats, the first ones -/
noncomputable def fT (l:bf) (hs:List (List aA)) (i:Nat):Nat→Option aa
 |0=>some ⟨0,0⟩
 |k+1=>match fT l hs i k,(hs[k]?).bind (·[i]?) with
  |some s,some d=>if d.Out=true then none else some ⟨s.Lo+(dE l d).Lo/10,s.Hi+(dE l d).Hi/10⟩
  |_,_=>none
noncomputable def er (l:bf) (hs:List (List aA)) (n h i:Nat):gp:=(List.range n).filterMap fun q=>(fT l hs q (if q<i then h+1 else h)).map fun s=>((q:Int),s)
noncomputable def eM (r:cf) (k:Nat):gp:=(List.range r.aI.length).filterMap fun q=>(fT r.ah r.aq q k).map fun s=>((q:Int),s)
noncomputable def aB (r:cf):gp:=eM r r.aq.length
section
variable {l:bf} {hs:List (List aA)} {n h i q:Nat} {s:aa} {d:aA}
theorem B6:er l hs n h 0=(List.range n).filterMap fun q=>(fT l hs q h).map fun s=>((q:Int),s):=by
 unfold er
 apply m6
 intro q _
 rw [if_neg (Nat.not_lt_zero _)]
theorem No:er l hs n h n=er l hs n (h+1) 0:=by
 rw [B6]
 unfold er
 apply m6
 intro q hq
 rw [if_pos (List.mem_range.1 hq)]
theorem G8 {x:List aA} (hx:hs[h]? =some x) (hd:x[i]? =some d) (ho:d.Out=true):fT l hs i (h+1)=none:=by
 unfold fT
 rw [hx]
 simp only [Option.bind_some,hd]
 cases fT l hs i h with
 |none=>rfl
 |some s=>simp [ho]
theorem DO (h0:fT l hs i h=none):fT l hs i (h+1)=none:=by unfold fT; rw [h0]
theorem Ey {x:List aA} (hx:hs[h]? =some x) (hd:x[i]? =some d) (ho: ¬ d.Out=true) (hs0:fT l hs i h=some s):fT l hs i (h+1)=some ⟨s.Lo+(dE l d).Lo/10,s.Hi+(dE l d).Hi/10⟩:=by
 unfold fT
 rw [hx,hs0]
 simp only [Option.bind_some,hd,if_neg ho]
end
section
variable {l:bf} {hs:List (List aA)} {n h i q:Nat} {s t:aa}
theorem QI {K β:Type} [DecidableEq K] {L Y:List (K×β)} {t:K}:(L++Y).lookup t=match L.lookup t with |some v=>some v|none=>Y.lookup t:=by
 induction L with
 |nil=>rfl
 |cons p L ih=>
  obtain ⟨k,u⟩:=p
  by_cases e:t==k
  ·simp [List.lookup,e]
  ·have:(t==k)=false:=by simpa using e
   simp only [List.cons_append,List.lookup,this,ih]
theorem oN {f:Nat→Option aa}: ∀ (n i:Nat),((List.range n).filterMap fun q=>(f q).map fun s=>((q:Int),s)).lookup (i:Int)=if i<n then f i else none
 |0,i=>by simp
 |n+1,i=>by
  rw [List.range_succ,List.filterMap_append,QI,oN n i]
  by_cases c:i<n
  ·rw [if_pos c,if_pos om]
   cases e:f i with
   |some s=>rfl
   |none=>
    simp only
    cases e2:f n with
    |none=>simp [e2]
    |some u=>
     have:((i:Int)==(n:Int))=false:=by simp only [beq_eq_false_iff_ne,ne_eq]; omega
     simp [e2,List.lookup,this]
  ·rw [if_neg c]
   simp only
   by_cases A:i=n
   ·subst A
    rw [if_pos om]
    cases e2:f i with
    |none=>simp [e2]
    |some u=>simp [e2]
   ·rw [if_neg om]
    have:((i:Int)==(n:Int))=false:=by simp only [beq_eq_false_iff_ne,ne_eq]; omega
    cases e2:f n with
    |none=>simp [e2]
    |some u=>simp [e2,List.lookup,this]
theorem wm:(er l hs n h i).lookup (q:Int)=if q<n then fT l hs q (if q<i then h+1 else h) else none:=oN n q
theorem PI {f g:Nat→Option aa} {n i:Nat} (hi:i<n) {s:aa} (hf:(f i).isSome=true) (hg:g i=some s) (hfg: ∀ q,q≠i→f q=g q):dK ((List.range n).filterMap fun q=>(f q).map fun s=>((q:Int),s)) (i:Int) s=(List.range n).filterMap fun q=>(g q).map fun s=>((q:Int),s):=by
 unfold dK
 rw [if_pos (by rw [oN,if_pos hi]; exact hf),List.map_filterMap]
 apply m6
 intro q _
 by_cases e:q=i
 ·subst e
  obtain ⟨u,hu⟩:=Option.isSome_iff_exists.1 hf
  rw [hu,hg]; simp
 ·rw [hfg q e]
  cases g q with
  |none=>rfl
  |some u=>
   have: ¬ ((q:Int)=(i:Int)):=by omega
   simp [this]
theorem Pf {f g:Nat→Option aa} {n i:Nat} (hg:g i=none) (hfg: ∀ q,q≠i→f q=g q):cd ((List.range n).filterMap fun q=>(f q).map fun s=>((q:Int),s)) (i:Int)=(List.range n).filterMap fun q=>(g q).map fun s=>((q:Int),s):=by
 unfold cd
 rw [List.filter_filterMap]
 apply m6
 intro q _
 by_cases e:q=i
 ·subst e
  rw [hg]
  cases f q with
  |none=>rfl
  |some u=>simp
 ·rw [hfg q e]
  cases g q with
  |none=>rfl
  |some u=>
   have: ¬ ((q:Int)=(i:Int)):=by omega
   simp [this]
theorem Mg (hi:i<n) (h0:(fT l hs i h).isSome=true) (h1:fT l hs i (h+1)=some s):dK (er l hs n h i) (i:Int) s=er l hs n h (i+1):=by
 unfold er
 refine PI hi (by rw [if_neg (Nat.lt_irrefl i)]; exact h0) (by rw [if_pos (Nat.lt_succ_self i)]; exact h1) fun q hq=>?_
 by_cases c:q<i
 ·rw [if_pos c,if_pos om]
 ·rw [if_neg c,if_neg om]
theorem EY (h1:fT l hs i (h+1)=none):cd (er l hs n h i) (i:Int)=er l hs n h (i+1):=by
 unfold er
 refine Pf (by rw [if_pos (Nat.lt_succ_self i)]; exact h1) fun q hq=>?_
 by_cases c:q<i
 ·rw [if_pos c,if_pos om]
 ·rw [if_neg c,if_neg om]
end
theorem B5 {r:cf} {k i:Nat}:(eM r k).lookup (i:Int)=if i<r.aI.length then fT r.ah r.aq i k else none:=oN _ _
def mM (m:gp) (i:Int):gp:=m.filter fun p=> !decide (p.1=i)
def gD (m:gp) (i n:Int):Nat:=(mM m i).countP fun p=>decide (p.2.Hi<n)
def jt (m:gp) (i n:Int):Nat:=(mM m i).countP fun p=>decide (p.2.Lo<n)
def iO (m:gp) (i:Int) (own:aa):List Int:=own.Lo::((mM m i).flatMap fun p=>[p.2.Lo+1,p.2.Hi+1]).filter fun n=>decide (own.Lo≤n∧n≤own.Hi)
def qC (m:gp) (i:Int) (own:aa) (k:Int):Prop:= ∃ n∈iO m i own,(gD m i n:Int)+1≤k∧k≤(jt m i n:Int)+1
noncomputable instance (m:gp) (i:Int) (own:aa) (k:Int):Decidable (qC m i own k):=Classical.propDecidable _
noncomputable def di (m:gp) (i:Int) (own:aa):List Int:=((List.range m.length).map fun (k:Nat)=>(k:Int)+1).filter fun k=>decide (qC m i own k)
section
variable {m:gp} {i:Int} {own:aa}
/-- what a point stands for -/
theorem KM {x:Int} (h1:own.Lo≤x) (h2:x≤own.Hi): ∃ n∈iO m i own,n≤x∧gD m i n=gD m i x∧jt m i n=jt m i x:=by
 -- the greatest point that is no greater
 have key: ∀ (d:Nat) (x:Int),own.Lo≤x→x≤own.Hi→(x-own.Lo).toNat=d→ ∃ n∈iO m i own,n≤x∧gD m i n=gD m i x∧jt m i n=jt m i x:=by
  intro d
  induction d with
  |zero=>
   intro x h1 h2 hd
   have:x=own.Lo:=by omega
   exact ⟨own.Lo,cm ..,om,by rw [this],by rw [this]⟩
  |succ d ih=>
   intro x h1 h2 hd
   by_cases c:x∈iO m i own
   ·exact ⟨x,c,Int.le_refl _,U,U⟩
   ·obtain ⟨n,hn,D,B,C⟩:=ih (x-1) om om om
    have A: ∀ p∈mM m i,p.2.Lo+1≠x∧p.2.Hi+1≠x:=fun p hp=>by
     constructor<;>intro e<;>apply c<;>refine cS _ (List.mem_filter.2 ⟨List.mem_flatMap.2 ⟨p,hp,by rw [← e]; simp⟩,fO ⟨h1,h2⟩⟩)
    refine ⟨n,hn,om,?_,?_⟩
    ·rw [B]
     unfold gD
     apply List.countP_congr
     intro p hp
     have:=(A p hp).2
     rw [decide_eq_true_eq,decide_eq_true_eq]
     omega
    ·rw [C]
     unfold jt
     apply List.countP_congr
     intro p hp
     have:=(A p hp).1
     rw [decide_eq_true_eq,decide_eq_true_eq]
     omega
 exact key _ x h1 h2 U
theorem CU {n:Int} (ho:own.Lo≤own.Hi) (h:n∈iO m i own):own.Lo≤n∧n≤own.Hi:=by
 rcases List.mem_cons.1 h with rfl|h
 ·omega
 ·exact of_decide_eq_true (List.mem_filter.1 h).2
/-- a rank comes about at some sum -/
theorem BE (ho:own.Lo≤own.Hi) {k:Int}:qC m i own k↔ ∃ x,own.Lo≤x∧x≤own.Hi∧(gD m i x:Int)+1≤k∧k≤(jt m i x:Int)+1:=by
 constructor
 ·rintro ⟨n,hn,A,B⟩
  have:=CU ho hn
  exact ⟨n,this.1,this.2,A,B⟩
 ·rintro ⟨x,A,B,E,F⟩
  obtain ⟨n,hn,_,C,D⟩:=KM (m:=m) (i:=i) A B
  exact ⟨n,hn,by rw [C]; exact E,by rw [D]; exact F⟩
theorem Jp (hi:m.lookup i≠none) {x:Int}:jt m i x+1≤m.length:=by
 unfold jt
 refine Nat.lt_of_le_of_lt List.countP_le_length ?_
 unfold mM
 obtain ⟨v,hv⟩:=Option.ne_none_iff_exists'.1 hi
 have hm: ∃ p∈m,p.1=i:=by
  clear hi
  induction m with
  |nil=>simp at hv
  |cons p m ih=>
   obtain ⟨a,b⟩:=p
   by_cases e:i=a
   ·exact ⟨_,cm ..,e.symm⟩
   ·have:(i==a)=false:=by simpa using e
    simp only [List.lookup,this] at hv
    obtain ⟨p,hp,e⟩:=ih hv
    exact ⟨p,cS _ hp,e⟩
 obtain ⟨p,hp,e⟩:=hm
 refine Nat.lt_of_le_of_ne (List.length_filter_le _ _) fun q=>?_
 have:=(List.filter_eq_self (p:=fun p:Int×aa=> !decide (p.1=i))).1 (List.filter_sublist.eq_of_length q) p hp
 simp [e] at this
theorem yu (hi:m.lookup i≠none) {k:Int}:k∈di m i own↔qC m i own k:=by
 unfold di
 rw [List.mem_filter,tx,decide_eq_true_eq]
 constructor
 ·rintro ⟨_,h⟩; exact h
 ·intro h
  refine ⟨?_,h⟩
  obtain ⟨n,_,A,B⟩:=h
  have:=Jp hi (x:=n)
  exact ⟨(k-1).toNat,List.mem_range.2 om,om⟩
end
end
section
def p7 (l:List Int):List (List Value):=l.map fun x=>[vI x]
theorem tD {l:List Int}:(p7 l).length=l.length:=by simp [p7]
theorem HQ {l:List Int} {k:Nat} {x:Int} (h:l[k]? =some x):(p7 l)[k]? =some [vI x]:=by simp [p7,h]
theorem HJ {l:List Int} {k:Nat} {x:List Value} (h:(p7 l)[k]? =some x): ∃ y,l[k]? =some y∧x=[vI y]:=by
 simp only [p7,fB,Option.map_eq_some_iff] at h
 obtain ⟨y,hy,rfl⟩:=h
 exact ⟨y,hy,U⟩
theorem Dy {l:List Int}: ∀ x∈p7 l,x.length=1:=fun x hx=>by
 simp only [p7,tx] at hx
 obtain ⟨y,_,rfl⟩:=hx
 rfl
theorem ye {l:List Int}:l.take (p7 l).length=l:=by rw [tD,List.take_of_length_le (Nat.le_refl _)]
theorem jS {l:List Int} {k:Nat} {x:Int} (h:l[k]? =some x):l.take (k+1)=l.take k++[x]:=by
 rw [List.take_add_one,h]; rfl
def dk (l:List Int):List Int:=l.mergeSort fun a b=>decide (a≤b)
theorem fF {l:List Int}:(dk l).Perm l:=List.mergeSort_perm _ _
theorem kY {l:List Int}:(dk l).Pairwise (· ≤ ·):=by
 have:=List.pairwise_mergeSort (le:=fun (a b:Int)=>decide (a≤b)) (fun a b c A B=>by simp at A B ⊢; omega) (fun a b=>by simp; omega) l
 exact this.imp fun h=>by simpa using h
@[simp] theorem gn {l:List Int}:(dk l).length=l.length:=fF.length_eq
theorem qy {l m:List Int} (h1:m.Perm l) (h2:m.Pairwise (· ≤ ·)):m=dk l:=rE (h1.trans fF.symm) h2 kY
end
section
open Go.RowKit
def sC (s:aM):List Value:=[vS s.a s.n s.c]
theorem zb: ∀ s,(sC s).length=1:=fun s=>rfl
theorem LK (l:List aM): ∀ v∈(l.map sC).flatten,v.oneCell'=true:=my (fun s=>rfl) l
def CD (l:List aa) (a:RA):aM:=⟨a.1,l.length,a.2⟩
def Ei (l:List aa) (a:RA):List Value:=[vS a.1 l.length a.2]
def L9 (l:List aa) (a:RA):List av:=[rd a.1 l.length 2 (l.map aa.cells)]
def Dd (l:List aa) (a:RA):List av:=[own a.1 a.2 Kk 2 (l.map aa.cells)]
theorem yr {ls:List (List aa)} {az:List RA}:(List.zipWith CD ls az).map sC=List.zipWith Ei ls az:=by
 rw [List.map_zipWith]; rfl
theorem sT: ∀ (m:List aa) (a:RA) (w:World),(∀ X∈Dd m a,X.holds w)→ ∀ X∈L9 m a,X.holds w:=fun m a w h X hX=>by
 simp only [L9,bW] at hX
 subst hX
 have:=nD (h _ (List.mem_singleton.2 rfl))
 simpa using this
theorem wG {l:List (List aa)} {bz:List RA}:(bo (aU Dd l bz)).wr=true:=by
 show (aU Dd l bz).all (·.wr)=true
 rw [fc]
 intro X hX
 obtain ⟨k,m,a,_,_,h⟩:=jJ hX
 simp only [Dd,bW] at h
 subst h; rfl
theorem mO {ls:List (List aa)} {az:List RA} (h:az.length=ls.length):(List.zipWith Ei ls az).length=ls.length:=by simp [h]
noncomputable def gH (r:cf) (i:Nat):List (List aa):=(r.aq.take i).map fun h=>h.map (dE r.ah)
noncomputable def cP (r:cf):List (List aa):=gH r r.aq.length
section
variable {r:cf} {i:Nat} {h:List aA} {tz:List RA} {a:RA}
theorem vd (hh:r.aq[i]? =some h):gH r (i+1)=gH r i++[h.map (dE r.ah)]:=by unfold gH; rw [List.take_add_one,hh,List.map_append]; rfl
theorem kI (hi:i≤r.aq.length):(gH r i).length=i:=by unfold gH; rw [List.length_map,List.length_take]; omega
theorem dH:(cP r).length=r.aq.length:=kI (Nat.le_refl _)
theorem EL (hh:r.aq[i]? =some h):(cP r)[i]? =some (h.map (dE r.ah)):=by
 unfold cP gH
 rw [List.take_length,fB,hh]; rfl
theorem yT {m:List aa} (hh:r.aq[i]? =some h) (hm:(cP r)[i]? =some m):m=h.map (dE r.ah):=by
 rw [EL hh] at hm
 exact (Option.some.inj hm).symm
theorem sP (hh:r.aq[i]? =some h) (hl:tz.length=i):List.zipWith CD (gH r (i+1)) (tz++[a])=List.zipWith CD (gH r i) tz++[CD (h.map (dE r.ah)) a]:=by
 have hi:=(List.getElem?_eq_some_iff.1 hh).1
 rw [vd hh,List.zipWith_append (by rw [kI om,hl])]
 rfl
theorem BG (hh:r.aq[i]? =some h) (hl:tz.length=i):aU Dd (gH r i) tz++[own a.1 a.2 Kk 2 ((h.map (dE r.ah)).map aa.cells)]=aU Dd (gH r (i+1)) (tz++[a]):=by
 have hi:=(List.getElem?_eq_some_iff.1 hh).1
 rw [vd hh,jN (by rw [kI om,hl])]
 simp [aU,Dd]
end
theorem zc {lo hi:Int} {l:List Int}:pP lo hi l=true↔ ∀ x∈l,lo≤x∧x≤hi:=by
 unfold pP
 rw [Bool.not_eq_true',List.any_eq_false]
 constructor
 ·intro h x hx; have:=h x hx; simp only [decide_eq_true_eq] at this; omega
 ·intro h x hx; have:=h x hx; simp only [decide_eq_true_eq]; omega
abbrev HU (n:Nat):List Int:=(List.range n).map fun (k:Nat)=>(k:Int)
theorem xd (n:Nat):(HU n).Pairwise (· ≤ ·):=by
 unfold HU
 rw [List.pairwise_map]
 exact List.pairwise_lt_range.imp fun h=>by omega
theorem uT {l:List Int} {n:Nat} (h:l.Perm (HU n)):dk l=HU n:=(qy h.symm (xd n)).symm
theorem Hu {l:List Int} {n:Nat} (hl:l.length=n) (h: ∀ j,j<n→ ∀ x,(dk l)[j]? =some x→x=(j:Int)):l.Perm (HU n):=by
 have e:dk l=HU n:=by
  apply List.ext_getElem
  ·simp [hl]
  ·intro j A B
   have C:j<n:=by simpa using B
   have:=h j C _ (e9 A)
   simpa using this
 rw [← e]; exact fF.symm
def qV (r:cf) (i:Nat):Prop:= ∀ j,j<i→(∀ x,(dk r.bD)[j]? =some x→x=(j:Int))∧ ∀ x y,r.aI[j]? =some x→0<j→r.aI[j-1]? =some y→y<x
def D7 (r:cf) (h:List aA):Prop:=h.length=r.aI.length∧ ∀ d∈h,hZ r.ah d
def j5 (r:cf) (i:Nat):Prop:= ∀ (j:Nat) h,j<i→r.aq[j]? =some h→D7 r h
def nZ (l:bf) (h:List aA) (k:Nat):Prop:= ∀ (j:Nat) d,j<k→h[j]? =some d→hZ l d
section
variable {r:cf} {i:Nat}
theorem Eo:qV r 0:=fun j hj=>absurd hj (Nat.not_lt_zero _)
theorem wP {x:Int} (h:qV r i) (hd:(dk r.bD)[i]? =some x) (e:x=(i:Int)) (hs: ∀ x y,r.aI[i]? =some x→0<i→r.aI[i-1]? =some y→y<x):qV r (i+1):=fun j hj=>by
 rcases Nat.lt_or_ge j i with q|q
 ·exact h j q
 ·obtain rfl:j=i:=by omega
  exact ⟨fun y hy=>by rw [hd] at hy; cases hy; exact e,hs⟩
theorem xU:j5 r 0:=fun j h hj=>absurd hj (Nat.not_lt_zero _)
theorem wY {h:List aA} (hh:j5 r i) (hx:r.aq[i]? =some h) (ho:D7 r h):j5 r (i+1):=fun j y hj hy=>by
 rcases Nat.lt_or_ge j i with q|q
 ·exact hh j y q hy
 ·obtain rfl:j=i:=by omega
  rw [hx] at hy; cases hy; exact ho
theorem uS {l:bf} {h:List aA}:nZ l h 0:=fun j d hj=>absurd hj (Nat.not_lt_zero _)
theorem u3 {l:bf} {h:List aA} {d:aA} (ht:nZ l h i) (hx:h[i]? =some d) (ho:hZ l d):nZ l h (i+1):=fun j y hj hy=>by
 rcases Nat.lt_or_ge j i with q|q
 ·exact ht j y q hy
 ·obtain rfl:j=i:=by omega
  rw [hx] at hy; cases hy; exact ho
theorem FQ {h:List aA} (hl:h.length=r.aI.length) (ht:nZ r.ah h i) (hi:h.length≤i):D7 r h:=⟨hl,fun d hd=>by
 obtain ⟨j,hj⟩:=List.getElem?_of_mem hd
 exact ht j d (by have:=(List.getElem?_eq_some_iff.1 hj).1; omega) hj⟩
theorem Kp {n:Nat} (hn:n=r.aI.length) (h1:1≤(r.aI.length:Int)∧(r.aI.length:Int)≤5) (h2:r.bD.length=r.aI.length) (h3:0≤r.ed∧r.ed≤5) (h4:1≤(r.aq.length:Int)∧(r.aq.length:Int)≤3) (h5:pP 0 9999 r.aI=true)
 (h6:qV r n) (h7:j5 r i) (hi:r.aq.length≤i):eX r:=by
 subst hn
 refine ⟨h1,h3,h4,fun k x hx=>⟨zc.1 h5 x (aX hx),fun y hk hy=>?_⟩,Hu h2 fun j hj=>(h6 j hj).1,fun h hh=>?_⟩
 ·exact (h6 k (List.getElem?_eq_some_iff.1 hx).1).2 x y hx hk hy
 ·obtain ⟨j,hj⟩:=List.getElem?_of_mem hh
  exact h7 j h (by have:=(List.getElem?_eq_some_iff.1 hj).1; omega) hj
theorem eX.yk (h:eX r):r.bD.length=r.aI.length:=by have:=h.draw.length_eq; simpa using this
theorem eX.ins (h:eX r):pP 0 9999 r.aI=true:=zc.2 fun x hx=>by
 obtain ⟨j,hj⟩:=List.getElem?_of_mem hx
 exact (h.ids j x hj).1
theorem eX.drawn (h:eX r) {x:Int} (hx:(dk r.bD)[i]? =some x):x=(i:Int):=by
 rw [uT h.draw] at hx
 have hi:=(List.getElem?_eq_some_iff.1 hx).1
 simp at hi
 rw [fB,List.getElem?_range hi] at hx
 exact (Option.some.inj hx).symm
theorem eX.AF (h:eX r):j5 r i:=fun j x _ hx=>h.oI x (aX hx)
theorem zw (h: ¬ dw r.ah=0):bX r=dw r.ah:=if_neg h
theorem kx (h:dw r.ah=0) (hn: ¬ eX r):bX r=60:=by unfold bX; rw [if_pos h,if_neg hn]
theorem CC (h:dw r.ah=0) (hn:eX r):bX r=0:=by unfold bX; rw [if_pos h,if_pos hn]
theorem iG (h:bX r=0):dw r.ah=0∧eX r:=by
 unfold bX at h
 split at h
 ·split at h
  ·exact ⟨asm,asm⟩
  ·cases h
 ·exact absurd h asm
end
section
variable {r:cf} {k i n h:Nat} {s:aa} {l:bf} {hs:List (List aA)}
theorem Ax: ∀ {k:Nat} {s:aa},j5 r k→k≤r.aq.length→fT r.ah r.aq i k=some s→0≤s.Lo∧s.Lo≤s.Hi∧s.Hi≤8640000*(k:Int)
 |0,s,_,_,h=>by
  simp only [fT,Option.some.injEq] at h
  subst h; simp
 |k+1,s,hh,hk,h=>by
  unfold fT at h
  split at h
  ·rename_i u d hu hd
   split at h
   ·cases h
   ·cases h
    have A:=Ax (fun j x hj hx=>hh j x om hx) om hu
    obtain ⟨x,hx,hd⟩:=Option.bind_eq_some_iff.1 hd
    have B:=Fy ((hh k x om hx).2 d (aX hd))
    simp only
    push_cast
    omega
  ·cases h
theorem M9:dK (er l hs i 0 0) (i:Int) ⟨0,0⟩=er l hs (i+1) 0 0:=by
 have A:(er l hs i 0 0).lookup (i:Int)=none:=by rw [wm,if_neg (Nat.lt_irrefl i)]
 unfold dK
 rw [A]
 simp only [Option.isSome_none,Bool.false_eq_true,if_false]
 unfold er
 rw [List.range_succ,List.filterMap_append]
 simp [fT]
theorem IW (hi:i<n):(er l hs n h i).lookup (i:Int)=fT l hs i h:=by rw [wm,if_pos hi,if_neg (Nat.lt_irrefl i)]
theorem Js {α β:Type} {f:α→β} {tr:List β} {ht:List α} {x:β} {d:α} (e:tr=ht.map f) (hx:tr[i]? =some x) (hd:ht[i]? =some d):x=f d:=by
 rw [e,fB,hd] at hx
 exact (Option.some.inj hx).symm
theorem MW:er r.ah r.aq r.aI.length h 0=eM r h:=B6
end
end
section
def vy (key:Int→Int) (l:List Int) (x:Int):List Int:=l.takeWhile (fun y=>decide (key y≤key x))++x::l.dropWhile (fun y=>decide (key y≤key x))
def eD (key:Int→Int) (l:List Int):List Int:=l.foldl (vy key) []
def Ew (key:Int→Int) (l:List Int):Prop:=l.Pairwise fun a b=>key a≤key b
section
variable {key:Int→Int} {l A B D:List Int} {x u v:Int} {i j:Nat}
theorem GD:(vy key l x).Perm (x::l):=by
 unfold vy
 refine List.perm_middle.trans ?_
 rw [List.takeWhile_append_dropWhile]
theorem OF (hA: ∀ y∈A,key y≤key x) (hB: ∀ y∈B,key x<key y):(A++B).takeWhile (fun y=>decide (key y≤key x))=A∧(A++B).dropWhile (fun y=>decide (key y≤key x))=B:=by
 induction A with
 |nil=>
  cases B with
  |nil=>simp
  |cons b B=>
   have h:=hB b cm
   have:decide (key b≤key x)=false:=cr om
   rw [List.nil_append,List.takeWhile_cons,List.dropWhile_cons,this]
   exact ⟨U,U⟩
 |cons a A ih=>
  have h:=ih fun y hy=>hA y (cS _ hy)
  have:decide (key a≤key x)=true:=fO (hA a cm)
  simp only [List.cons_append,List.takeWhile,List.dropWhile,this]
  exact ⟨by rw [h.1],h.2⟩
theorem wh (hA: ∀ y∈A,key y≤key x) (hB: ∀ y∈B,key x<key y):vy key (A++B) x=A++x::B:=by
 unfold vy
 rw [(OF hA hB).1,(OF hA hB).2]
theorem CG (x:Int): ∀ {l:List Int},Ew key l→ ∃ A B,l=A++B∧(∀ y∈A,key y≤key x)∧ ∀ y∈B,key x<key y
 |[],_=>⟨[],[],rfl,(fun y h=>by cases h),fun y h=>by cases h⟩
 |a::l,h=>by
  unfold Ew at h
  rw [List.pairwise_cons] at h
  by_cases c:key a≤key x
  ·obtain ⟨A,B,e,hA,hB⟩:=CG x (l:=l) h.2
   refine ⟨a::A,B,by rw [e]; rfl,fun y hy=>?_,hB⟩
   rcases List.mem_cons.1 hy with rfl|hy
   ·exact c
   ·exact hA y hy
  ·refine ⟨[],a::l,rfl,fun y hy=>(by cases hy),fun y hy=>?_⟩
   rcases List.mem_cons.1 hy with rfl|hy
   ·omega
   ·have:=h.1 y hy; omega
theorem NA (h:Ew key l):Ew key (vy key l x):=by
 obtain ⟨A,B,rfl,hA,hB⟩:=CG x h
 rw [wh hA hB]
 unfold Ew at h ⊢
 rw [List.pairwise_append] at h ⊢
 refine ⟨h.1,List.pairwise_cons.2 ⟨fun y hy=>by have:=hB y hy; omega,h.2.1⟩,fun y hy z hz=>?_⟩
 rcases List.mem_cons.1 hz with rfl|hz
 ·exact hA y hy
 ·exact h.2.2 y hy z hz
theorem Cd:eD key (l++[x])=vy key (eD key l) x:=by unfold eD; rw [List.foldl_append]; rfl
theorem C7 (h:l[i]? =some x):eD key (l.take (i+1))=vy key (eD key (l.take i)) x:=by rw [jS h,Cd]
theorem w6: ∀ {l m:List Int},(l.foldl (vy key) m).Perm (m++l)
 |[],m=>by simp
 |x::l,m=>(w6 (l:=l) (m:=vy key m x)).trans (((GD).append_right l).trans (by
  rw [List.cons_append]
  exact List.perm_middle.symm))
theorem qg:(eD key l).Perm l:=by simpa [eD] using w6 (key:=key) (l:=l) (m:=[])
theorem CE: ∀ {l m:List Int},Ew key m→Ew key (l.foldl (vy key) m)
 |[],m,h=>h
 |x::l,m,h=>CE (l:=l) (NA h)
theorem uk:Ew key (eD key l):=CE List.Pairwise.nil
theorem ko:(eD key l).length=l.length:=qg.length_eq
def Cu (key:Int→Int) (l:List Int) (i j:Nat) (D:List Int):Prop:= ∃ A B x,l[i]? =some x∧A.length=j∧eD key (l.take i)=A++B∧(∀ y∈B,key x<key y)∧D=A++x::(B++l.drop (i+1))
def sQ (key:Int→Int) (l:List Int) (i:Nat) (D:List Int):Prop:=D=eD key (l.take i)++l.drop i
theorem H3 (h:0<l.length):sQ key l 1 l:=by
 cases l with
 |nil=>simp at h
 |cons a l=>simp [sQ,eD,vy]
theorem KT (hi:l.length≤i) (h:sQ key l i D):D=eD key l:=by
 subst h; rw [List.take_of_length_le hi,List.drop_of_length_le hi,List.append_nil]
theorem Dr (hi:i<l.length) (h:sQ key l i D):Cu key l i i D:=by
 have hx:l[i]? =some l[i]:=e9 hi
 refine ⟨eD key (l.take i),[],l[i],hx,by rw [ko,List.length_take]; omega,sm,fun y hy=>(by cases hy),?_⟩
 rw [h,List.nil_append,List.drop_eq_getElem_cons hi]
theorem xG: ∀ {A:List Int},0<A.length→ ∃ A' y,A=A'++[y]:=fun {A} h=>⟨A.dropLast,A.getLast (by intro e; subst e; simp at h),(List.dropLast_concat_getLast _).symm⟩
theorem GR (hj:0<j) (h:Cu key l i j D) (hu:D[j]? =some u) (hv:D[j-1]? =some v) (hlt:key u<key v):Cu key l i (j-1) ((D.set j v).set (j-1) u):=by
 obtain ⟨A,B,x,hx,hl,he,hB,rfl⟩:=h
 obtain ⟨A',y,rfl⟩:=xG (A:=A) om
 simp only [List.length_append,List.length_cons,List.length_nil] at hl
 subst hl
 have C:(A'++[y]++x::(B++l.drop (i+1)))=A'++y::x::(B++l.drop (i+1)):=by simp
 rw [C] at hu hv ⊢
 rw [List.getElem?_append_right om,show A'.length+(0+1)-A'.length=1 by omega] at hu
 rw [show A'.length+(0+1)-1=A'.length by omega,List.getElem?_append_right (Nat.le_refl _),Nat.sub_self] at hv
 simp at hu hv
 subst hu hv
 refine ⟨A',y::B,x,hx,om,by rw [he]; simp,fun z hz=>?_,?_⟩
 ·rcases List.mem_cons.1 hz with rfl|hz
  ·exact hlt
  ·exact hB z hz
 ·rw [show A'.length+(0+1)-1=A'.length by omega,List.set_append_right _ _ om,List.set_append_right _ _ (Nat.le_refl _),show A'.length+(0+1)-A'.length=1 by omega,Nat.sub_self]
  simp
theorem zp (h:Cu key l i j D) (hc: ∀ A,A.length=j→(∃ C,D=A++C)→Ew key A→ ∀ x,l[i]? =some x→D[j]? =some x→ ∀ y∈A,key y≤key x):sQ key l (i+1) D:=by
 obtain ⟨A,B,x,hx,hl,he,hB,rfl⟩:=h
 unfold sQ
 have E:Ew key (A++B):=he▸uk
 rw [C7 hx,he,wh (hc A hl ⟨_,rfl⟩ (by unfold Ew at E ⊢; rw [List.pairwise_append] at E; exact E.1) x hx (by rw [List.getElem?_append_right om,← hl]; simp)) hB]
 simp
theorem yM (hj: ¬ 0<j) (h:Cu key l i j D):sQ key l (i+1) D:=zp h fun A hl _ _ x _ _ y hy=>by
 have:A=[]:=jB om
 subst this; cases hy
theorem yA (hj:0<j) (h:Cu key l i j D) (hu:D[j]? =some u) (hv:D[j-1]? =some v) (hlt: ¬ key u<key v):sQ key l (i+1) D:=zp h fun A hl hC hA x hx hd y hy=>by
 obtain ⟨C,hC⟩:=hC
 obtain ⟨A',z,rfl⟩:=xG (A:=A) om
 simp only [List.length_append,List.length_cons,List.length_nil] at hl
 rw [hd] at hu; cases hu
 have e:D[j-1]? =some z:=by
  rw [hC,List.append_assoc,List.getElem?_append_right om,show j-1-A'.length=0 by omega]; simp
 rw [e] at hv; cases hv
 unfold Ew at hA
 rw [List.pairwise_append] at hA
 rcases List.mem_append.1 hy with hy|hy
 ·have:=hA.2.2 y hy v sm; omega
 ·rw [bW] at hy; subst hy; omega
end
end
section
def rF (k:Nat) (l:List Int):List Int:=(l.take k).reverse++l.drop k
def HD (l:List Int) (k i:Nat) (D:List Int):Prop:=D.length=l.length∧ ∀ p,p<l.length→D[p]? =l[if p<k∧(p<i∨k≤p+i) then k-1-p else p]?
section
variable {l D:List Int} {k i j:Nat} {u v:Int}
theorem j9:(rF k l).length=l.length:=by unfold rF; rw [List.length_append,List.length_reverse,List.length_take,List.length_drop]; omega
theorem L6:HD l k 0 l:=⟨rfl,fun p hp=>by rw [if_neg om]⟩
theorem KP (hk:k≤l.length) (hij:i<j) (hj:j+i+1=k) (h:HD l k i D) (hu:D[i]? =some u) (hv:D[j]? =some v):HD l k (i+1) ((D.set i v).set j u):=by
 refine ⟨by rw [List.length_set,List.length_set]; exact h.1,fun p hp=>?_⟩
 have hl:=h.1
 have hi:=h.2 i om
 have A:=h.2 j om
 rw [hu,if_neg om] at hi
 rw [hv,if_neg om] at A
 by_cases B:p=j
 ·subst B
  rw [List.getElem?_set_self (by rw [List.length_set]; omega),if_pos om,show k-1-p=i by omega,hi]
 ·rw [List.getElem?_set_ne (fun e=>B e.symm)]
  by_cases C:p=i
  ·subst C
   rw [List.getElem?_set_self om,if_pos om,show k-1-p=j by omega,A]
  ·rw [List.getElem?_set_ne (fun e=>C e.symm),h.2 p hp]
   by_cases c:p<k∧(p<i∨k≤p+i)
   ·rw [if_pos c,if_pos om]
   ·rw [if_neg c,if_neg om]
theorem Og (hk:k≤l.length) (hi:k≤2*i+1) (h:HD l k i D):D=rF k l:=by
 apply List.ext_getElem?
 intro p
 by_cases hp:p<l.length
 ·rw [h.2 p hp]
  unfold rF
  by_cases c:p<k
  ·rw [List.getElem?_append_left (by rw [List.length_reverse,List.length_take]; omega),List.getElem?_reverse (by rw [List.length_take]; omega),List.length_take,Nat.min_eq_left hk,List.getElem?_take]
   rw [if_pos (show k-1-p<k by omega)]
   by_cases A:p<k∧(p<i∨k≤p+i)
   ·rw [if_pos A]
   ·rw [if_neg A,show k-1-p=p by omega]
  ·rw [if_neg om,List.getElem?_append_right (by rw [List.length_reverse,List.length_take]; omega),List.length_reverse,List.length_take,Nat.min_eq_left hk,List.getElem?_drop,show k+(p-k)=p by omega]
 ·rw [List.getElem?_eq_none (by rw [h.1]; omega),List.getElem?_eq_none (by rw [j9]; omega)]
end
end
end Go.Proofs.YtdllkkdchkhimaaGreatDoor
