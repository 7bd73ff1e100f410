/-
 The statement topMeasured_said, part 2 of 5: Short, Grow, Global, RunA, Tab, Run, Comp, Ret, LoopK, Narw, Drop, Spot, NarD, First, Line, Wrap, Nest, Goes, NarL, Plain, TopX, Ice, Post, MapK, Called, Queue, Bits, RowsP, Meets, Answers, ExP, Upto, Idx, NarP, TopY, LineR, Twin, DrawB, BoolC, NarM, Mono, Safe, Within, Walls, Ends, In, NarS, MapR, Told.
 Conditions: none.
-/
import Derived.Test.YtkidpbhlgnalaaaGreatTz1
import Derived.Test.YtkidpbhlgnalaaaGreatProg
import Derived.KernelRfl
namespace Go.Proofs.YtkidpbhlgnalaaaGreat
set_option maxRecDepth 100000
set_option maxHeartbeats 4000000
set_option linter.unusedVariables false
section
open Go.RowKit
/-- an operation that hands v to its slot d -/
structure SE (E:dW) (ops:Array Oper) (o:Oper) (D:eU) (L:cG) (C:List au) (v:Value) (d:Nat):Prop where
 h:SD E ops o D L C v
 o:o.dst=some d
 n:Nat.blt d E.n=true
theorem rS {E:dW} {ops:Array Oper} {Q:cq} {o:Oper} {rest:List Oper} {D:eU} {L:cG} {C:List au} {v:Value} {d:Nat}
 (h:SE E ops o D L C v d) (k:RJ E ops Q rest D ((d,v)::L) C):RJ E ops Q (o::rest) D L C:=FK h.h h.o h.n k
theorem dS {E:dW} {ops:Array Oper} {F:cG→Prop} {o:Oper} {rest:List Oper} {D:eU} {L:cG} {C:List au} {v:Value} {d:Nat}
 (h:SE E ops o D L C v d) (k:DJ E ops D C F rest ((d,v)::L)):DJ E ops D C F (o::rest) L:=Fx h.h h.o h.n k
theorem eS {E:dW} {ops:Array Oper} {D:eU} {C' C1:List au} {F:cG→Prop} {bs:List Bool} {o:Oper} {l rest:List Oper} {L:cG} {v:Value} {d:Nat}
 (hl:l=o::rest) (h:SE E ops o D L C' v d) (k:lF E ops D C' C1 F bs rest ((d,v)::L)):lF E ops D C' C1 F (false::bs) l L:=Hh h.h hl h.o h.n k
theorem fS {E:dW} {ops:Array Oper} {D:eU} {C' C1:List au} {F:cG→Prop} {bs:List Bool} {o:Oper} {l rest:List Oper} {L:cG} {v:Value} {d:Nat}
 (hl:l=o::rest) (h:SE E ops o D L C1 v d) (k:lF E ops D C' C1 F bs rest ((d,v)::L)):lF E ops D C' C1 F (true::bs) l L:=G3 h.h hl h.o h.n k
def gB (n:Nat) (ops:Array Oper) (L:cG) (d:Nat) (g:Option (Nat×Bool)):Bool:=gW ops L g&&Nat.blt d n
theorem B4 {n:Nat} {ops:Array Oper} {L:cG} {d:Nat} {g:Option (Nat×Bool)} (h:gB n ops L d g=true):gW ops L g=true:=by
 unfold gB at h; rw [cZ] at h; exact h.1
theorem BZ {n:Nat} {ops:Array Oper} {L:cG} {d:Nat} {g:Option (Nat×Bool)} (h:gB n ops L d g=true):Nat.blt d n=true:=by
 unfold gB at h; rw [cZ] at h; exact h.2
def vF (n:Nat) (ops:Array Oper) (L:cG) (d:Nat) (g:Option (Nat×Bool)) (x:Operand):Option Value:=match gB n ops L d g with
 |true=>ev L x
 |false=>none
def bF (n:Nat) (ops:Array Oper) (L:cG) (d:Nat) (g:Option (Nat×Bool)) (x y:Operand):Option (Value×Value):=match gB n ops L d g with
 |true=>match ev L x,ev L y with
  |some u,some v=>some (u,v)
  |_,_=>none
 |false=>none
def pF (n:Nat) (ops:Array Oper) (L:cG) (d:Nat) (g:Option (Nat×Bool)) (c x y:Operand):Option Value:=match gB n ops L d g with
 |true=>match ev L c with
  |some (.bool true)=>ev L x
  |some (.bool false)=>ev L y
  |_=>none
 |false=>none
def xF (n:Nat) (ops:Array Oper) (L:cG) (d:Nat) (g:Option (Nat×Bool)) (x:Operand) (i:Nat):Option Value:=match vF n ops L d g x with
 |some (.tuple vs)=>vs.toList[i]?
 |_=>none
def uF (n:Nat) (ops:Array Oper) (L:cG) (d:Nat) (g:Option (Nat×Bool)) (xs ys:List Operand):Option (List Value×List Value):=match gB n ops L d g with
 |true=>match evs L xs,evs L ys with
  |some u,some v=>some (u,v)
  |_,_=>none
 |false=>none
def cF (n:Nat) (ops:Array Oper) (L:cG) (d:Nat) (g:Option (Nat×Bool)) (fop:Operand) (xs:List Operand):Option (FuncId×List Value):=match gB n ops L d g with
 |true=>match ev L fop,evs L xs with
  |some (.func (.func f) fi ca),some vs=>some (f,fi.toList++vs++ca.toList)
  |_,_=>none
 |false=>none
theorem fw {n:Nat} {ops:Array Oper} {L:cG} {d:Nat} {g:Option (Nat×Bool)} {x:Operand} {v:Value} (h:vF n ops L d g x=some v):gW ops L g=true∧Nat.blt d n=true∧ev L x=some v:=by
 unfold vF at h
 split at h
 ·rename_i hb; exact ⟨B4 hb,BZ hb,h⟩
 ·cases h
theorem mf {n:Nat} {ops:Array Oper} {L:cG} {d:Nat} {g:Option (Nat×Bool)} {x y:Operand} {u v:Value} (h:bF n ops L d g x y=some (u,v)):gW ops L g=true∧Nat.blt d n=true∧ev L x=some u∧ev L y=some v:=by
 unfold bF at h
 split at h
 ·rename_i hb
  split at h
  ·rename_i hx hy; cases h; exact ⟨B4 hb,BZ hb,hx,hy⟩
  ·cases h
 ·cases h
theorem E1 {n:Nat} {ops:Array Oper} {L:cG} {d:Nat} {g:Option (Nat×Bool)} {x y:List Operand} {u v:List Value} (h:uF n ops L d g x y=some (u,v)):gW ops L g=true∧Nat.blt d n=true∧evs L x=some u∧evs L y=some v:=by
 unfold uF at h
 split at h
 ·rename_i hb
  split at h
  ·rename_i hx hy; cases h; exact ⟨B4 hb,BZ hb,hx,hy⟩
  ·cases h
 ·cases h
section
variable {E:dW} {ops:Array Oper} {Q:cq} {rest:List Oper} {D:List Deferred} {L:List (Nat×Value)} {C:List au}
variable {d:Nat} {ty:TypeId} {ps:String} {af:Array Edge} {g:Option (Nat×Bool)}
theorem SX {o:Oper} {v:Value} (h:SD E ops o D L C v) (ho:o.dst=some d) (hd:Nat.blt d E.n=true):SE E ops o D L C v d:=⟨h,ho,hd⟩
theorem MV {x:Operand} {v:Value} (h:vF E.n ops L d g x=some v):SE E ops ⟨some d,.move x,ty,ps,af,g⟩ D L C v d:=by
 obtain ⟨A,B,F⟩:=fw h; exact ⟨wE A F,rfl,B⟩
theorem AG {x:Operand} {v:Value} (h:vF E.n ops L d g x=some v):SE E ops ⟨some d,.assign x,ty,ps,af,g⟩ D L C v d:=by
 obtain ⟨A,B,F⟩:=fw h; exact ⟨rp A F,rfl,B⟩
theorem OX {op:Op} (h:(uC ops L g&&Nat.blt d E.n)=true):SE E ops ⟨some d,op,ty,ps,af,g⟩ D L C undef d:=by
 rw [cZ] at h; exact ⟨za h.1,rfl,h.2⟩
theorem NG {xt:TypeId} {x:Operand} {n:Int} (h:vF E.n ops L d g x=some (.int .i64 n)) (hb:lQ (-n)):SE E ops ⟨some d,.unOp .neg xt x,ty,ps,af,g⟩ D L C (.int .i64 (-n)) d:=by
 obtain ⟨A,B,F⟩:=fw h; exact ⟨Em A F hb,rfl,B⟩
theorem PK {c x y:Operand} {v:Value} (h:pF E.n ops L d g c x y=some v):SE E ops ⟨some d,.pick c x y,ty,ps,af,g⟩ D L C v d:=by
 unfold pF at h
 split at h
 ·rename_i hb
  split at h
  ·rename_i hc; exact ⟨rJ (B4 hb) hc h,rfl,BZ hb⟩
  ·rename_i hc; exact ⟨rM (B4 hb) hc h,rfl,BZ hb⟩
  ·cases h
 ·cases h
theorem EX {x:Operand} {i:Nat} {v:Value} (h:xF E.n ops L d g x i=some v):SE E ops ⟨some d,.extract x i,ty,ps,af,g⟩ D L C v d:=by
 unfold xF at h
 split at h
 ·rename_i vs hv
  obtain ⟨A,B,F⟩:=fw hv
  exact ⟨qy (vs:=vs.toList) A (by simpa using F) h,U,B⟩
 ·cases h
theorem LN {x:Operand} {t e:TypeId} {A:OA} {n c:Nat} (h:vF E.n ops L d g x=some (.slice A n c)) (ht:E.P.underlying t=some (.slice e)):
 SE E ops ⟨some d,.call {callee:= .builtin .len,args:= #[x],argTypes:= #[t]},ty,ps,af,g⟩ D L C (.int .i64 n) d:=by
 obtain ⟨B,F,G⟩:=fw h; exact ⟨z9 B G ht,rfl,F⟩
theorem BI {op:BinOp} {xt yt:TypeId} {x y:Operand} {u v r:Value} (h:bF E.n ops L d g x y=some (u,v)) (hb:ew E.P op xt x y u v r):SE E ops ⟨some d,.binOp op xt x y yt,ty,ps,af,g⟩ D L C r d:=by
 obtain ⟨A,B,F,G⟩:=mf h; exact ⟨bJ A F G hb,rfl,B⟩
theorem MN {x y:Operand} {ts:Array TypeId} {a b:Int} {k:IntKind} (h:bF E.n ops L d g x y=some (.int k a,.int k b)):
 SE E ops ⟨some d,.call {callee:= .builtin .min,args:= #[x,y],argTypes:=ts},ty,ps,af,g⟩ D L C (.int k (min a b)) d:=by
 obtain ⟨A,B,F,G⟩:=mf h; exact ⟨D1 A F G,rfl,B⟩
theorem MX {x y:Operand} {ts:Array TypeId} {a b:Int} {k:IntKind} (h:bF E.n ops L d g x y=some (.int k a,.int k b)):
 SE E ops ⟨some d,.call {callee:= .builtin .max,args:= #[x,y],argTypes:=ts},ty,ps,af,g⟩ D L C (.int k (max a b)) d:=by
 obtain ⟨A,B,F,G⟩:=mf h; exact ⟨Fh A F G,rfl,B⟩
theorem FA (o':Nat) {x:Operand} {b o s f k:Nat} (h:vF E.n ops L d g x=some (.pointer (some ⟨b,o,none⟩))) (hf:o9 E.P s f=some k) (ho:o+k=o'):
 SE E ops ⟨some d,.fieldAddr s x f,ty,ps,af,g⟩ D L C (.pointer (some ⟨b,o',none⟩)) d:=by
 obtain ⟨A,B,F⟩:=fw h; exact ⟨DC A F hf ho,rfl,B⟩
theorem lp (k':Nat) {x:Operand} {A:OA} {n sz:Nat} {es:List (List Value)} {k0 s f k:Nat} (h:vF E.n ops L d g x=some (.pointer (gN A k0))) (hR:iK C (rd A n sz es).holds) (hn:0<n*sz)
 (hf:o9 E.P s f=some k) (ho:k0+k=k'):SE E ops ⟨some d,.fieldAddr s x f,ty,ps,af,g⟩ D L C (.pointer (gN A k')) d:=by
 obtain ⟨B,F,G⟩:=fw h; exact ⟨Ah B G hR hn hf ho,rfl,F⟩
theorem JF (k':Nat) {x:Operand} {A:OA} {ad:Addr} {k0 s f k:Nat} (h:vF E.n ops L d g x=some (.pointer (gN A k0))) (hA:A=some ad)
 (hf:o9 E.P s f=some k) (ho:k0+k=k'):SE E ops ⟨some d,.fieldAddr s x f,ty,ps,af,g⟩ D L C (.pointer (gN A k')) d:=by
 obtain ⟨B,F,G⟩:=fw h; exact ⟨AM B G hA hf ho,rfl,F⟩
theorem IA (k:Nat) {x ix:Operand} {A:OA} {n c sz e t:Nat} {es:List (List Value)} {j:Int} (h:bF E.n ops L d g x ix=some (.slice A n c,.int .i64 j)) (hR:iK C (rd A n sz es).holds)
 (ht:tE E.P t=some (e,sz)) (hz:0<sz) (hj:j=(k:Int)) (hk:k<n):SE E ops ⟨some d,.indexAddr t x ix,ty,ps,af,g⟩ D L C (.pointer (gN A (k*sz))) d:=by
 obtain ⟨B,F,G,H⟩:=mf h; exact ⟨Ht B G H hR ht hz hj hk,rfl,F⟩
theorem JS (k o':Nat) {x ix:Operand} {b o n c sz e t:Nat} {j:Int} (h:bF E.n ops L d g x ix=some (.slice (some ⟨b,o,none⟩) n c,.int .i64 j))
 (ht:tE E.P t=some (e,sz)) (hj:j=(k:Int)) (hk:k<n) (ho:o+k*sz=o'):SE E ops ⟨some d,.indexAddr t x ix,ty,ps,af,g⟩ D L C (.pointer (some ⟨b,o',none⟩)) d:=by
 obtain ⟨A,B,F,G⟩:=mf h; exact ⟨By A F G ht hj hk ho,rfl,B⟩
/-- the whole of a block, a part of it, one cell -/
theorem LW (i:Nat) {x:Operand} {b t tt n:Nat} {cs:List Value} (h:vF E.n ops L d g x=some (.pointer (some ⟨b,0,none⟩))) (ht:tK E.P t=some (true,n)) (hC:C[i]? =some (bm b tt cs)) (hn:cs.length=n):
 SE E ops ⟨some d,.load t x,ty,ps,af,g⟩ D L C (.agg cs.toArray) d:=by
 obtain ⟨A,B,F⟩:=fw h; exact ⟨oL A F ht (mg i hC sm) hn,rfl,B⟩
theorem Jy (i:Nat) {x:Operand} {b t tt n:Nat} {cs:List Value} (h:vF E.n ops L d g x=some (.pointer (some ⟨b,0,none⟩))) (ht:tK E.P t=some (true,n)) (hC:C[i]? =some (bm b tt cs).ro) (hn:cs.length=n):
 SE E ops ⟨some d,.load t x,ty,ps,af,g⟩ D L C (.agg cs.toArray) d:=by
 obtain ⟨A,B,F⟩:=fw h; exact ⟨oL A F ht (n_ i hC sm) hn,rfl,B⟩
theorem LP (vs:List Value) (i:Nat) {x:Operand} {b o t tt n:Nat} {cs:List Value} (h:vF E.n ops L d g x=some (.pointer (some ⟨b,o,none⟩))) (ht:tK E.P t=some (true,n)) (hC:C[i]? =some (bm b tt cs)) (hv:(cs.drop o).take vs.length=vs) (hn:vs.length=n):
 SE E ops ⟨some d,.load t x,ty,ps,af,g⟩ D L C (.agg vs.toArray) d:=by
 obtain ⟨A,B,F⟩:=fw h; exact ⟨oL A F ht (mg i hC hv) hn,rfl,B⟩
theorem Fp (vs:List Value) (i:Nat) {x:Operand} {b o t tt n:Nat} {cs:List Value} (h:vF E.n ops L d g x=some (.pointer (some ⟨b,o,none⟩))) (ht:tK E.P t=some (true,n)) (hC:C[i]? =some (bm b tt cs).ro) (hv:(cs.drop o).take vs.length=vs) (hn:vs.length=n):
 SE E ops ⟨some d,.load t x,ty,ps,af,g⟩ D L C (.agg vs.toArray) d:=by
 obtain ⟨A,B,F⟩:=fw h; exact ⟨oL A F ht (n_ i hC hv) hn,rfl,B⟩
theorem L1 (v:Value) (i:Nat) {x:Operand} {b o t tt n:Nat} {cs:List Value} (h:vF E.n ops L d g x=some (.pointer (some ⟨b,o,none⟩))) (ht:tK E.P t=some (false,n)) (hC:C[i]? =some (bm b tt cs)) (hv:(cs.drop o).take 1=[v]):
 SE E ops ⟨some d,.load t x,ty,ps,af,g⟩ D L C v d:=by
 obtain ⟨A,B,F⟩:=fw h; exact ⟨ow A F ht (mg i hC hv),rfl,B⟩
theorem Dp (v:Value) (i:Nat) {x:Operand} {b o t tt n:Nat} {cs:List Value} (h:vF E.n ops L d g x=some (.pointer (some ⟨b,o,none⟩))) (ht:tK E.P t=some (false,n)) (hC:C[i]? =some (bm b tt cs).ro) (hv:(cs.drop o).take 1=[v]):
 SE E ops ⟨some d,.load t x,ty,ps,af,g⟩ D L C v d:=by
 obtain ⟨A,B,F⟩:=fw h; exact ⟨ow A F ht (n_ i hC hv),rfl,B⟩
theorem Jz (i:Nat) {x:Operand} {b t tt n:Nat} {v:Value} (h:vF E.n ops L d g x=some (.pointer (some ⟨b,0,none⟩))) (ht:tK E.P t=some (false,n)) (hC:C[i]? =some (bm b tt [v])):
 SE E ops ⟨some d,.load t x,ty,ps,af,g⟩ D L C v d:=by
 obtain ⟨A,B,F⟩:=fw h; exact ⟨ow A F ht (mg i hC rfl),rfl,B⟩
theorem Ft (i:Nat) {x:Operand} {b t tt n:Nat} {v:Value} (h:vF E.n ops L d g x=some (.pointer (some ⟨b,0,none⟩))) (ht:tK E.P t=some (false,n)) (hC:C[i]? =some (bm b tt [v]).ro):
 SE E ops ⟨some d,.load t x,ty,ps,af,g⟩ D L C v d:=by
 obtain ⟨A,B,F⟩:=fw h; exact ⟨ow A F ht (n_ i hC rfl),rfl,B⟩
/-- what is read of a row -/
theorem fT (k o:Nat) (v:Value) {x:Operand} {A:OA} {t m n sz:Nat} {es:List (List Value)} {e:List Value} (h:vF E.n ops L d g x=some (.pointer (gN A m))) {nn:Nat} (ht:tK E.P t=some (false,nn)) (hR:iK C (rd A n sz es).holds) (he:es[k]? =some e) (hm:m=k*sz+o) (hz:0<sz) (hv:(e.drop o).take 1=[v]):
 SE E ops ⟨some d,.load t x,ty,ps,af,g⟩ D L C v d:=by
 obtain ⟨B,F,G⟩:=fw h; exact ⟨ow B G ht (CZ hR he hm hz hv),rfl,F⟩
theorem jq (k o:Nat) (vs:List Value) {x:Operand} {A:OA} {t m n sz:Nat} {es:List (List Value)} {e:List Value} (h:vF E.n ops L d g x=some (.pointer (gN A m))) {nn:Nat} (ht:tK E.P t=some (true,nn)) (hR:iK C (rd A n sz es).holds) (he:es[k]? =some e) (hm:m=k*sz+o) (hz:0<sz) (hv:(e.drop o).take vs.length=vs) (hn:vs.length=nn):
 SE E ops ⟨some d,.load t x,ty,ps,af,g⟩ D L C (.agg vs.toArray) d:=by
 obtain ⟨B,F,G⟩:=fw h; exact ⟨oL B G ht (CZ hR he hm hz hv) hn,rfl,F⟩
theorem CL {fop:Operand} {xs:Array Operand} {ts:Array TypeId} {f:FuncId} {args:List Value} {Cp:List au} {v:Value} (c:cz E.P f args Cp v) (hC:gU C Cp) (h:cF E.n ops L d g fop xs.toList=some (f,args)):
 SE E ops ⟨some d,.call {callee:= .value fop,args:=xs,argTypes:=ts},ty,ps,af,g⟩ D L C v d:=by
 unfold cF at h
 split at h
 ·rename_i hb
  split at h
  ·rename_i hf hx; cases h; exact ⟨wh (B4 hb) hf hx rfl c hC,rfl,BZ hb⟩
  ·cases h
 ·cases h
theorem FU {fn:Fn} {xs ys:Array Operand} {us vs:List Value} (h:uF E.n ops L d g xs.toList ys.toList=some (us,vs)):SE E ops ⟨some d,.makeFunc fn xs ys,ty,ps,af,g⟩ D L C (.func fn us.toArray vs.toArray) d:=by
 obtain ⟨A,B,F,G⟩:=E1 h; exact ⟨Cy A F G,rfl,B⟩
theorem cX {fop:Operand} {xs:Array Operand} {ts:Array TypeId} {f:FuncId} {args:List Value} {Cp:List au} {α:Type} {V:α→Value} {p:α→Prop} {N:α→List au} (c:lx E.P f args Cp V p N) (hC:gU C Cp)
 (h:cF E.n ops L d g fop xs.toList=some (f,args)) (k: ∀ x,p x→RJ E ops Q rest D ((d,V x)::L) (N x++C)):
 RJ E ops Q (⟨some d,.call {callee:= .value fop,args:=xs,argTypes:=ts},ty,ps,af,g⟩::rest) D L C:=by
 unfold cF at h
 split at h
 ·rename_i hb
  split at h
  ·rename_i hf hx; cases h; exact Ea (B4 hb) hf hx rfl c hC (BZ hb) k
  ·cases h
 ·cases h
/-- a box of a struct, of one cell -/
theorem ej {t:TypeId} {x:Operand} {cs:List Value} (h:vF E.n ops L d g x=some (.agg cs.toArray)) (k: ∀ b,RJ E ops Q rest D ((d,.pointer (some ⟨b,0,none⟩))::L) (bm b t cs::C)):
 RJ E ops Q (⟨some d,.box t x,ty,ps,af,g⟩::rest) D L C:=by
 obtain ⟨A,B,F⟩:=fw h; exact Dh A F rfl B k
theorem o4 {t:TypeId} {x:Operand} {v:Value} (h:vF E.n ops L d g x=some v) (hv:v.cells.toList=[v]) (k: ∀ b,RJ E ops Q rest D ((d,.pointer (some ⟨b,0,none⟩))::L) (bm b t [v]::C)):
 RJ E ops Q (⟨some d,.box t x,ty,ps,af,g⟩::rest) D L C:=by
 obtain ⟨A,B,F⟩:=fw h; exact Dh A F hv B k
theorem AL {t:TypeId} {cs:List Value} (h:gB E.n ops L d g=true) (hz:tZ E.P t=some cs) (k: ∀ b,RJ E ops Q rest D ((d,.pointer (some ⟨b,0,none⟩))::L) (bm b t cs::C)):
 RJ E ops Q (⟨some d,.alloc t,ty,ps,af,g⟩::rest) D L C:=wc (B4 h) hz (BZ h) k
/-- a store into the block at the place i of the state -/
def sF (ops:Array Oper) (L:cG) (g:Option (Nat×Bool)) (x y:Operand):Option (Value×Value):=match gW ops L g with
 |true=>match ev L x,ev L y with
  |some u,some v=>some (u,v)
  |_,_=>none
 |false=>none
theorem vg {ops:Array Oper} {L:cG} {g:Option (Nat×Bool)} {x y:Operand} {u v:Value} (h:sF ops L g x y=some (u,v)):gW ops L g=true∧ev L x=some u∧ev L y=some v:=by
 unfold sF at h
 split at h
 ·rename_i hb
  split at h
  ·rename_i hx hy; cases h; exact ⟨hb,hx,hy⟩
  ·cases h
 ·cases h
theorem HM {t n b o tt:Nat} {x y:Operand} {v:Value} {cs cs':List Value} {C':List au} (i:Nat) (h:sF ops L g x y=some (.pointer (some ⟨b,o,none⟩),v)) (ht:(tK E.P t).map (·.2)=some n) (hC:C[i]? =some (bm b tt cs))
 (hk:(v.cells.toList.length==n&&v.cells.toList.all Value.oneCell'&&Nat.ble (o+n) cs.length)=true) (hcs:cs.take o++v.cells.toList++cs.drop (o+n)=cs') (hC':C.set i (bm b tt cs')=C') (k:RJ E ops Q rest D L C'):
 RJ E ops Q (⟨none,.store t x y,ty,ps,af,g⟩::rest) D L C:=by
 obtain ⟨A,B,F⟩:=vg h
 simp only [cZ,beq_iff_eq] at hk
 exact sj i A B F ht U hk.1.1 hk.1.2 hC hk.2 hcs hC' k
/-- a store of a whole block, by a struct, by one cell -/
theorem BK {t n b tt:Nat} {x y:Operand} {cs cs':List Value} {C':List au} (i:Nat) (h:sF ops L g x y=some (.pointer (some ⟨b,0,none⟩),.agg cs'.toArray)) (ht:(tK E.P t).map (·.2)=some n) (hC:C[i]? =some (bm b tt cs))
 (hk:(Nat.beq cs'.length n&&cs'.all Value.oneCell'&&Nat.beq n cs.length)=true) (hC':C.set i (bm b tt cs')=C') (k:RJ E ops Q rest D L C'):
 RJ E ops Q (⟨none,.store t x y,ty,ps,af,g⟩::rest) D L C:=by
 obtain ⟨AA,J,K⟩:=vg h
 simp only [cZ] at hk
 obtain ⟨⟨A,B⟩,F⟩:=hk
 have H:=Nat.eq_of_beq_eq_true A
 have G:=Nat.eq_of_beq_eq_true F
 exact sj i AA J K ht U H B hC (by rw [Nat.zero_add,G]; exact Nat.ble_self_eq_true _) (by rw [Nat.zero_add,G,List.take_zero,List.drop_length]; show []++cs'++[]=cs'; simp) hC' k
theorem HN {t n b tt:Nat} {x y:Operand} {v u:Value} {C':List au} (i:Nat) (h:sF ops L g x y=some (.pointer (some ⟨b,0,none⟩),v)) (ht:(tK E.P t).map (·.2)=some n) (hC:C[i]? =some (bm b tt [u]))
 (hv:v.cells.toList=[v]) (hk:(Nat.beq n 1&&v.oneCell')=true) (hC':C.set i (bm b tt [v])=C') (k:RJ E ops Q rest D L C'):
 RJ E ops Q (⟨none,.store t x y,ty,ps,af,g⟩::rest) D L C:=by
 obtain ⟨G,H,AA⟩:=vg h
 rw [cZ] at hk
 obtain ⟨A,B⟩:=hk
 have F:=Nat.eq_of_beq_eq_true A
 subst F
 exact sj i G H AA ht hv U (by simp [B]) hC U U hC' k
theorem eC {t n b tt:Nat} {x y:Operand} {cs cs':List Value} (h:sF ops L g x y=some (.pointer (some ⟨b,0,none⟩),.agg cs'.toArray)) (ht:(tK E.P t).map (·.2)=some n) (hk:(Nat.beq cs'.length n&&cs'.all Value.oneCell'&&Nat.beq n cs.length)=true) (k:RJ E ops Q rest D L (bm b tt cs'::C)):RJ E ops Q (⟨none,.store t x y,ty,ps,af,g⟩::rest) D L (bm b tt cs::C):=BK 0 h ht rfl hk rfl k
theorem I_ {t n b tt:Nat} {x y:Operand} {v u:Value} (h:sF ops L g x y=some (.pointer (some ⟨b,0,none⟩),v)) (ht:(tK E.P t).map (·.2)=some n) (hv:v.cells.toList=[v]) (hk:(Nat.beq n 1&&v.oneCell')=true) (k:RJ E ops Q rest D L (bm b tt [v]::C)):RJ E ops Q (⟨none,.store t x y,ty,ps,af,g⟩::rest) D L (bm b tt [u]::C):=HN 0 h ht rfl hv hk rfl k
theorem I2 (cs':List Value) {t n b o tt:Nat} {x y:Operand} {v:Value} {cs:List Value} (h:sF ops L g x y=some (.pointer (some ⟨b,o,none⟩),v)) (ht:(tK E.P t).map (·.2)=some n) (hk:(v.cells.toList.length==n&&v.cells.toList.all Value.oneCell'&&Nat.ble (o+n) cs.length)=true) (hcs:cs.take o++v.cells.toList++cs.drop (o+n)=cs') (k:RJ E ops Q rest D L (bm b tt cs'::C)):RJ E ops Q (⟨none,.store t x y,ty,ps,af,g⟩::rest) D L (bm b tt cs::C):=HM 0 h ht rfl hk hcs rfl k
theorem oa {t n b tt:Nat} {x y:Operand} {cs cs':List Value} {A0:au} (h:sF ops L g x y=some (.pointer (some ⟨b,0,none⟩),.agg cs'.toArray)) (ht:(tK E.P t).map (·.2)=some n) (hk:(Nat.beq cs'.length n&&cs'.all Value.oneCell'&&Nat.beq n cs.length)=true) (k:RJ E ops Q rest D L (A0::bm b tt cs'::C)):RJ E ops Q (⟨none,.store t x y,ty,ps,af,g⟩::rest) D L (A0::bm b tt cs::C):=BK 1 h ht rfl hk rfl k
theorem sT {t n b tt:Nat} {x y:Operand} {cs cs':List Value} {A0 A1:au} (h:sF ops L g x y=some (.pointer (some ⟨b,0,none⟩),.agg cs'.toArray)) (ht:(tK E.P t).map (·.2)=some n) (hk:(Nat.beq cs'.length n&&cs'.all Value.oneCell'&&Nat.beq n cs.length)=true) (k:RJ E ops Q rest D L (A0::A1::bm b tt cs'::C)):RJ E ops Q (⟨none,.store t x y,ty,ps,af,g⟩::rest) D L (A0::A1::bm b tt cs::C):=BK 2 h ht rfl hk rfl k
theorem BG {t n b tt:Nat} {x y:Operand} {cs cs':List Value} {A0 A1 A2:au} (h:sF ops L g x y=some (.pointer (some ⟨b,0,none⟩),.agg cs'.toArray)) (ht:(tK E.P t).map (·.2)=some n) (hk:(Nat.beq cs'.length n&&cs'.all Value.oneCell'&&Nat.beq n cs.length)=true) (k:RJ E ops Q rest D L (A0::A1::A2::bm b tt cs'::C)):RJ E ops Q (⟨none,.store t x y,ty,ps,af,g⟩::rest) D L (A0::A1::A2::bm b tt cs::C):=BK 3 h ht rfl hk rfl k
theorem JC {t n b tt:Nat} {x y:Operand} {v u:Value} {A0 A1 A2:au} (h:sF ops L g x y=some (.pointer (some ⟨b,0,none⟩),v)) (ht:(tK E.P t).map (·.2)=some n) (hv:v.cells.toList=[v]) (hk:(Nat.beq n 1&&v.oneCell')=true) (k:RJ E ops Q rest D L (A0::A1::A2::bm b tt [v]::C)):RJ E ops Q (⟨none,.store t x y,ty,ps,af,g⟩::rest) D L (A0::A1::A2::bm b tt [u]::C):=HN 3 h ht rfl hv hk rfl k
theorem Jn {t n b tt:Nat} {x y:Operand} {cs cs':List Value} {A0 A1 A2 A3:au} (h:sF ops L g x y=some (.pointer (some ⟨b,0,none⟩),.agg cs'.toArray)) (ht:(tK E.P t).map (·.2)=some n) (hk:(Nat.beq cs'.length n&&cs'.all Value.oneCell'&&Nat.beq n cs.length)=true) (k:RJ E ops Q rest D L (A0::A1::A2::A3::bm b tt cs'::C)):RJ E ops Q (⟨none,.store t x y,ty,ps,af,g⟩::rest) D L (A0::A1::A2::A3::bm b tt cs::C):=BK 4 h ht rfl hk rfl k
theorem JL (cs':List Value) {t n b o tt:Nat} {x y:Operand} {v:Value} {cs:List Value} {A0 A1 A2 A3:au} (h:sF ops L g x y=some (.pointer (some ⟨b,o,none⟩),v)) (ht:(tK E.P t).map (·.2)=some n) (hk:(v.cells.toList.length==n&&v.cells.toList.all Value.oneCell'&&Nat.ble (o+n) cs.length)=true) (hcs:cs.take o++v.cells.toList++cs.drop (o+n)=cs') (k:RJ E ops Q rest D L (A0::A1::A2::A3::bm b tt cs'::C)):RJ E ops Q (⟨none,.store t x y,ty,ps,af,g⟩::rest) D L (A0::A1::A2::A3::bm b tt cs::C):=HM 4 h ht rfl hk hcs rfl k
theorem Db {t n b tt:Nat} {x y:Operand} {cs cs':List Value} {A0 A1 A2 A3 A4:au} (h:sF ops L g x y=some (.pointer (some ⟨b,0,none⟩),.agg cs'.toArray)) (ht:(tK E.P t).map (·.2)=some n) (hk:(Nat.beq cs'.length n&&cs'.all Value.oneCell'&&Nat.beq n cs.length)=true) (k:RJ E ops Q rest D L (A0::A1::A2::A3::A4::bm b tt cs'::C)):RJ E ops Q (⟨none,.store t x y,ty,ps,af,g⟩::rest) D L (A0::A1::A2::A3::A4::bm b tt cs::C):=BK 5 h ht rfl hk rfl k
theorem JH {t n b tt:Nat} {x y:Operand} {v u:Value} {A0 A1 A2 A3 A4:au} (h:sF ops L g x y=some (.pointer (some ⟨b,0,none⟩),v)) (ht:(tK E.P t).map (·.2)=some n) (hv:v.cells.toList=[v]) (hk:(Nat.beq n 1&&v.oneCell')=true) (k:RJ E ops Q rest D L (A0::A1::A2::A3::A4::bm b tt [v]::C)):RJ E ops Q (⟨none,.store t x y,ty,ps,af,g⟩::rest) D L (A0::A1::A2::A3::A4::bm b tt [u]::C):=HN 5 h ht rfl hv hk rfl k
theorem HS {t n b tt:Nat} {x y:Operand} {cs cs':List Value} {A0 A1 A2 A3 A4 A5:au} (h:sF ops L g x y=some (.pointer (some ⟨b,0,none⟩),.agg cs'.toArray)) (ht:(tK E.P t).map (·.2)=some n) (hk:(Nat.beq cs'.length n&&cs'.all Value.oneCell'&&Nat.beq n cs.length)=true) (k:RJ E ops Q rest D L (A0::A1::A2::A3::A4::A5::bm b tt cs'::C)):RJ E ops Q (⟨none,.store t x y,ty,ps,af,g⟩::rest) D L (A0::A1::A2::A3::A4::A5::bm b tt cs::C):=BK 6 h ht rfl hk rfl k
theorem JU {t n b tt:Nat} {x y:Operand} {v u:Value} {A0 A1 A2 A3 A4 A5:au} (h:sF ops L g x y=some (.pointer (some ⟨b,0,none⟩),v)) (ht:(tK E.P t).map (·.2)=some n) (hv:v.cells.toList=[v]) (hk:(Nat.beq n 1&&v.oneCell')=true) (k:RJ E ops Q rest D L (A0::A1::A2::A3::A4::A5::bm b tt [v]::C)):RJ E ops Q (⟨none,.store t x y,ty,ps,af,g⟩::rest) D L (A0::A1::A2::A3::A4::A5::bm b tt [u]::C):=HN 6 h ht rfl hv hk rfl k
theorem JK (cs':List Value) {t n b o tt:Nat} {x y:Operand} {v:Value} {cs:List Value} {A0 A1 A2 A3 A4 A5 A6:au} (h:sF ops L g x y=some (.pointer (some ⟨b,o,none⟩),v)) (ht:(tK E.P t).map (·.2)=some n) (hk:(v.cells.toList.length==n&&v.cells.toList.all Value.oneCell'&&Nat.ble (o+n) cs.length)=true) (hcs:cs.take o++v.cells.toList++cs.drop (o+n)=cs') (k:RJ E ops Q rest D L (A0::A1::A2::A3::A4::A5::A6::bm b tt cs'::C)):RJ E ops Q (⟨none,.store t x y,ty,ps,af,g⟩::rest) D L (A0::A1::A2::A3::A4::A5::A6::bm b tt cs::C):=HM 7 h ht rfl hk hcs rfl k
theorem JI (cs':List Value) {t n b o tt:Nat} {x y:Operand} {v:Value} {cs:List Value} {A0 A1 A2 A3 A4 A5 A6 A7:au} (h:sF ops L g x y=some (.pointer (some ⟨b,o,none⟩),v)) (ht:(tK E.P t).map (·.2)=some n) (hk:(v.cells.toList.length==n&&v.cells.toList.all Value.oneCell'&&Nat.ble (o+n) cs.length)=true) (hcs:cs.take o++v.cells.toList++cs.drop (o+n)=cs') (k:RJ E ops Q rest D L (A0::A1::A2::A3::A4::A5::A6::A7::bm b tt cs'::C)):RJ E ops Q (⟨none,.store t x y,ty,ps,af,g⟩::rest) D L (A0::A1::A2::A3::A4::A5::A6::A7::bm b tt cs::C):=HM 8 h ht rfl hk hcs rfl k
theorem El {t n b tt:Nat} {x y:Operand} {cs cs':List Value} {A0 A1 A2 A3 A4 A5 A6 A7 A8 A9:au} (h:sF ops L g x y=some (.pointer (some ⟨b,0,none⟩),.agg cs'.toArray)) (ht:(tK E.P t).map (·.2)=some n) (hk:(Nat.beq cs'.length n&&cs'.all Value.oneCell'&&Nat.beq n cs.length)=true) (k:RJ E ops Q rest D L (A0::A1::A2::A3::A4::A5::A6::A7::A8::A9::bm b tt cs'::C)):RJ E ops Q (⟨none,.store t x y,ty,ps,af,g⟩::rest) D L (A0::A1::A2::A3::A4::A5::A6::A7::A8::A9::bm b tt cs::C):=BK 10 h ht rfl hk rfl k
theorem Je {t n b tt:Nat} {x y:Operand} {cs cs':List Value} {A0 A1 A2 A3 A4 A5 A6 A7 A8 A9 A10:au} (h:sF ops L g x y=some (.pointer (some ⟨b,0,none⟩),.agg cs'.toArray)) (ht:(tK E.P t).map (·.2)=some n) (hk:(Nat.beq cs'.length n&&cs'.all Value.oneCell'&&Nat.beq n cs.length)=true) (k:RJ E ops Q rest D L (A0::A1::A2::A3::A4::A5::A6::A7::A8::A9::A10::bm b tt cs'::C)):RJ E ops Q (⟨none,.store t x y,ty,ps,af,g⟩::rest) D L (A0::A1::A2::A3::A4::A5::A6::A7::A8::A9::A10::bm b tt cs::C):=BK 11 h ht rfl hk rfl k
end
section
variable {E:dW} {y:Code} {Q:cq} {D:List Deferred} {L:List (Nat×Value)} {C:List au}
theorem WS {id:Nat} {ops:Array Oper} (h: ∀ K:Act→World→Prop,(∀ D L C,WJ E y Q D L C→KJ E K D L C)→RJ E ops (Exit.then K Q) ops.toList D L C):WJ E (.seq (.region id ops false) y) Q D L C:=al fun K hK=>ao (h K hK)
theorem RK {ops:Array Oper} {K:Act→World→Prop} {Q':cq} (hK: ∀ D L C,WJ E y Q D L C→KJ E K D L C) (k:WJ E y Q D L C):RJ E ops (Exit.then K Q') [] D L C:=aB (aY (hK _ _ _ k))
theorem KK {K:Act→World→Prop} {Q':cq} (hK: ∀ D L C,WJ E y Q D L C→KJ E K D L C) (k:WJ E y Q D L C):KJ E (Exit.then K Q' .normal) D L C:=aY (hK _ _ _ k)
theorem WK {K:Act→World→Prop} {Q':cq} (hK: ∀ D L C,WJ E y Q D L C→KJ E K D L C) (k:WJ E y Q D L C):WJ E .skip (Exit.then K Q') D L C:=bS (aY (hK _ _ _ k))
end
theorem DT {p:Prop} [Decidable p] (h:decide p=true):p:=of_decide_eq_true h
theorem DF {p:Prop} [Decidable p] (h:decide p=false): ¬ p:=of_decide_eq_false h
theorem XT {p:Prop} [Decidable p] (h:(!decide p)=true): ¬ p:=by simpa using h
theorem XF {p:Prop} [Decidable p] (h:(!decide p)=false):p:=by simpa using h
/-- what a function hands back: one result, two, three, that lie in slots -/
theorem Q1 {E:dW} {fn:Func} {K:Act→World→Prop} {L:cG} {C:List au} {t:Nat} {u v:Value} (hQ: ∀ D L C,LJ E fn (uy E.w0 v) D L C→KJ E K D L C) (hS:E.S=nz) (hr:fn.results.toList=[.tmp t]) (hl:L.lookup t=some u) (e:u=v):KJ E K [] L C:=
 hQ _ _ _ (fH (vs:=[u]) (by rw [hr]; exact ⟨hl,trivial⟩) fun w hs=>xM e (by rw [hS] at hs; exact hs))
theorem Q2 {E:dW} {fn:Func} {K:Act→World→Prop} {L:cG} {C:List au} {t s:Nat} {u x v:Value} (hQ: ∀ D L C,LJ E fn (uy E.w0 v) D L C→KJ E K D L C) (hS:E.S=nz) (hr:fn.results.toList=[.tmp t,.tmp s]) (hl:L.lookup t=some u) (hm:L.lookup s=some x) (e:vT [u,x]=v):KJ E K [] L C:=
 hQ _ _ _ (fH (vs:=[u,x]) (by rw [hr]; exact ⟨hl,hm,trivial⟩) fun w hs=>xM e (by rw [hS] at hs; exact hs))
theorem N1 {E:dW} {ops:Array Oper} {D:eU} {C' C1:List au} {F:cG→List au→Prop} {tb rem:List Nat} {n:Nat} {L:cG} {C:List au} (i:Nat)
 (h:ua E ops D C' C1 F tb n (rem.filter (· != i)) i L C) (hm:rem.filter (fun i=>rem.all fun j=> !fu (mw ops) j i)=[i]:=by kernel_rfl):TN E ops D C' C1 F tb (n+1) rem L C:=dz [i] hm (bD h en)
theorem NO {E:dW} {ops:Array Oper} {D:eU} {C' C1:List au} {F:cG→List au→Prop} {tb rem:List Nat} {n i:Nat} {L:cG} {C:List au} {o:Oper} (ho:ops[i]? =some o) (ht:tb.contains i=false) (rem':List Nat)
 (h: ∀ K:Act→World→Prop,(∀ L' C'',(∀ w,St E.S E.w0 C'' w→St E.S E.w0 C' w)→TN E ops D C' C1 F tb n rem' L' C''→KJ E K D L' C'')→RJ E ops (NQ K) [o] D L C) (hr:rem=rem':=by kernel_rfl):ua E ops D C' C1 F tb n rem i L C:=c_ ho hr ht h
theorem RD {E:dW} {ops:Array Oper} {K:Act→World→Prop} {D:eU} {L:cG} {C C':List au} {X:cG→List au→Prop} (hT: ∀ L' C'',(∀ w,St E.S E.w0 C'' w→St E.S E.w0 C' w)→X L' C''→KJ E K D L' C'')
 (k:Nat) (h2:C.drop k=C') (h:X L C):RJ E ops (NQ K) [] D L C:=aB (hT _ _ (fun w hs=>h2▸hs.take (List.drop_sublist k C)) h)
theorem bg {L L':cG} (h:L'.map (fun p=>L.lookup p.1)=L'.map (fun p=>some p.2)):cL L L':=by
 induction L' with
 |nil=>exact cL.nil _
 |cons p t ih=>
  simp only [List.map_cons,List.cons.injEq] at h
  exact cL.cons h.1 (ih h.2)
theorem x_ {C:List au} {A A' B B' D D':au} (i j k:Nat) (h1:C[i]? =some A') (e1:A'.holds=A.holds) (h2:C[j]? =some B') (e2:B'.holds=B.holds) (h3:C[k]? =some D') (e3:D'.holds=D.holds):gU C [A,B,D]:=eM i h1 e1 (eM j h2 e2 (eM k h3 e3 av))
theorem bH {E:dW} {c:Operand} {x y:Code} {b:Bool} {Q:cq} {D:List Deferred} {L:List (Nat×Value)} {C:List au} (hc:ev L c=some (.bool b)) (h2:b=false→WJ E y Q D L C) (h1:b=true→WJ E x Q D L C):WJ E (.cond c x y) Q D L C:=cd hc h1 h2
theorem dq {E:dW} {ops:Array Oper} {Q:cq} {rest:List Oper} {D:List Deferred} {L:List (Nat×Value)} {C:List au} {t:Nat} {b:Bool} (h:L.lookup t=some (.bool b)) (h2:b=false→RJ E ops Q rest D ((t,.bool false)::L) C) (h1:b=true→RJ E ops Q rest D ((t,.bool true)::L) C):RJ E ops Q rest D L C:=bx h h1 h2
theorem gj {E:dW} {ops:Array Oper} {Q:cq} {rest:List Oper} {D:List Deferred} {L:List (Nat×Value)} {C:List au} {t:Nat} {b:Bool} {os:List Oper} (h:L.lookup t=some (.bool b)) (h2:b=false→DJ E ops D C (fun L2=>RJ E ops Q rest D L2 C) os ((t,.bool false)::L)) (h1:b=true→DJ E ops D C (fun L2=>RJ E ops Q rest D L2 C) os ((t,.bool true)::L)):DJ E ops D C (fun L2=>RJ E ops Q rest D L2 C) os L:=dY h h1 h2
theorem b_ {L:List (Nat×Value)}: ∀ (k:Nat) {L2:List (Nat×Value)} (q:cL L (L2.drop k)) (h:(L2.take k).map (fun p=>L.lookup p.1)=(L2.take k).map (fun p=>some p.2):=by rfl),cL L L2
 |0,_,q,_=>q
 |_+1,[],_,_=>cL.nil _
 |k+1,p::L2,q,h=>by
  obtain ⟨A,B⟩:=List.cons.inj (show L.lookup p.1::(L2.take k).map (fun p=>L.lookup p.1)=some p.2::(L2.take k).map (fun p=>some p.2) from h)
  exact cL.cons (t:=p.1) (v:=p.2) A (b_ k q B)
theorem oX {E:dW} {ops:Array Oper} {Q:cq} {rest:List Oper} {D:List Deferred} {L:List (Nat×Value)} {C:List au} {d:Nat} {ty:TypeId} {ps:String} {af:Array Edge} {g:Option (Nat×Bool)} {op:Op} (k:RJ E ops Q rest D ((d,undef)::L) C) (h:(uC ops L g&&Nat.blt d E.n)=true:=by rfl):RJ E ops Q (⟨some d,op,ty,ps,af,g⟩::rest) D L C:=rS (OX h) k
theorem dX {E:dW} {ops:Array Oper} {F:List (Nat×Value)→Prop} {rest:List Oper} {D:List Deferred} {L:List (Nat×Value)} {C:List au} {d:Nat} {ty:TypeId} {ps:String} {af:Array Edge} {g:Option (Nat×Bool)} {op:Op} (k:DJ E ops D C F rest ((d,undef)::L)) (h:(uC ops L g&&Nat.blt d E.n)=true:=by rfl):DJ E ops D C F (⟨some d,op,ty,ps,af,g⟩::rest) L:=dS (OX h) k
end
section
open Go.RowKit
/-- what of a slice is left from k on -/
def mJ (A:OA) (c k sz:Nat):OA:=if c=k then A else A.map (·.add (k*sz))
section
variable {E:dW} {ops:Array Oper} {Q:cq} {rest:List Oper} {D:List Deferred} {L:List (Nat×Value)} {C:List au}
variable {d:Nat} {ty:TypeId} {ps:String} {af:Array Edge} {g:Option (Nat×Bool)}
theorem wP {P:Program} {t e sz:Nat} (h:tE P t=some (e,sz)) (w:World):P.underlying t=some (.slice e)∧(sizeOf e).run P w= .ok sz w:=by
 unfold tE at h
 split at h
 ·rename_i e' hu
  split at h
  ·rename_i i hi
   cases h
   exact ⟨hu,by simp [sizeOf,typeInfo,hi]⟩
  ·cases h
 ·cases h
theorem ph {P:Program} {t e:Nat} (h:P.underlying t=some (.slice e)):P.underlying t=some (.slice (P.elem t)):=by
 rw [h]; simp [Program.elem,h]
theorem wL {P:Program} {t e:Nat} (h:P.underlying t=some (.slice e)):P.elem t=e:=by simp [Program.elem,h]
/-- s[k:] -/
theorem Jx (k:Nat) {x lo:Operand} {t e sz n c:Nat} {A:OA} {j:Int} (h:bF E.n ops L d g x lo=some (.slice A n c,.int .i64 j)) (ht:tE E.P t=some (e,sz)) (hj:j=(k:Int)) (hk:k≤n):
 SE E ops ⟨some d,.slice t x (some lo) none none,ty,ps,af,g⟩ D L C (.slice (mJ A c k sz) (n-k) (c-k)) d:=by
 obtain ⟨G,H,AA,J⟩:=mf h
 subst hj
 refine ⟨dh G sm fun a w B hs=>?_,U,H⟩
 obtain ⟨hu,hz⟩:=wP ht w
 have hr:=run_slice_l (P:=E.P) w t A n c (ph hu) .i64 (k:Int) om om
 rw [wL hu,hz] at hr
 simp only [Result.andThen,Int.toNat_natCast,sliced] at hr
 have F:=run_sliceAt_slice (P:=E.P) w t (.slice A n c) (some (.int .i64 (k:Int))) none none (ph hu)
 simp [execOp,B.ev AA,B.ev J,F,hr,mJ]
/-- s[:k] -/
theorem HK (k:Nat) {x hi:Operand} {t e sz n c:Nat} {A:OA} {j:Int} (h:bF E.n ops L d g x hi=some (.slice A n c,.int .i64 j)) (ht:tE E.P t=some (e,sz)) (hj:j=(k:Int)) (hk:k≤c):
 SE E ops ⟨some d,.slice t x none (some hi) none,ty,ps,af,g⟩ D L C (.slice A k c) d:=by
 obtain ⟨H,AA,J,K⟩:=mf h
 subst hj
 refine ⟨dh H sm fun a w B hs=>?_,U,AA⟩
 obtain ⟨hu,hz⟩:=wP ht w
 have hr:=run_slice_h (P:=E.P) w t A n c (ph hu) .i64 (k:Int) om om
 rw [wL hu,hz] at hr
 have G:(if c=0 then A else A.map (·.add (0*sz)))=A:=by
  split
  ·rfl
  ·cases A with
   |none=>rfl
   |some ad=>simp [Addr.add]
 simp only [Result.andThen,Int.toNat_natCast,sliced,G,Nat.sub_zero] at hr
 have F:=run_sliceAt_slice (P:=E.P) w t (.slice A n c) none (some (.int .i64 (k:Int))) none (ph hu)
 simp [execOp,B.ev J,B.ev K,F,hr]
/-- an element of a row whose place is known -/
theorem HP (k:Nat) {x ix:Operand} {A:OA} {ad:Addr} {n c sz e t:Nat} {j:Int} (h:bF E.n ops L d g x ix=some (.slice A n c,.int .i64 j)) (hA:A=some ad) (ht:tE E.P t=some (e,sz)) (hj:j=(k:Int)) (hk:k<n):
 SE E ops ⟨some d,.indexAddr t x ix,ty,ps,af,g⟩ D L C (.pointer (gN A (k*sz))) d:=by
 obtain ⟨F,G,H,AA⟩:=mf h
 refine ⟨dh F sm fun a w B hs=>?_,U,G⟩
 subst hA hj
 simp [execOp,B.ev H,B.ev AA,gN,lT ht hk]
theorem JB {x:Operand} {t e:TypeId} {A:OA} {n c:Nat} (h:vF E.n ops L d g x=some (.slice A n c)) (ht:E.P.underlying t=some (.slice e)):
 SE E ops ⟨some d,.call {callee:= .builtin .cap,args:= #[x],argTypes:= #[t]},ty,ps,af,g⟩ D L C (.int .i64 c) d:=by
 obtain ⟨F,G,H⟩:=fw h
 refine ⟨dh F sm fun a w B hs=>?_,U,G⟩
 simp [execOp,resolve,invoke,builtin,B.ev H,Builtin.cap_,run_underlying ht,goInt]
/-- append(nil[:0], make([]T, n)...): an empty row with room -/
theorem Ff {s x:Operand} {t it e sz by_ n:Nat} {z:Value} {k0:IntKind} (h:gB E.n ops L d g=true) (hs:ev L s=some (.slice none 0 0)) (hx:ev L x=some (.int .i64 (n:Int))) (ht:tA E.P t=some (e,sz,by_,z)) (hit:E.P.underlying it=some (.int k0)) (hsz:Nat.blt 0 sz=true)
 (hn:0<n) (hn2:n≤1000) (hb2:by_≤1000)
 (k: ∀ (b c:Nat),n≤c→RJ E ops Q rest D ((d,.slice (some ⟨b,0,none⟩) n c)::L) (own (some ⟨b,0,none⟩) c e sz []::C)):
 RJ E ops Q (⟨some d,.call {callee:= .builtin .append,args:= #[s,x],argTypes:= #[t,it]},ty,ps,af,g⟩::rest) D L C:=by
 intro act w B O
 have hd':d<E.n:=by rw [← Nat.blt_eq]; exact BZ h
 have hsz':0<sz:=by rw [← Nat.blt_eq]; exact hsz
 obtain ⟨inf,hu,hi,hz,X,Y,Z⟩:=sf ht
 unfold nv
 rw [if_pos (dw B (B4 h))]
 have H:IntKind.i64.wrap (n:Int)=(n:Int):=gM ⟨om,om⟩
 have J:=grownCap_ge w n 0 e
 have AB:grownCap w n 0 e≤maxLen:=grownCap_le_maxLen w n 0 e (by simp only [maxLen]; omega)
 have M:Builtin.nextslicecap n 0=n:=by simp [Builtin.nextslicecap,hn]
 have a:n*inf.bytes≤1000000:=by rw [Y]; exact Nat.mul_le_mul hn2 hb2
 have R: ¬ (n*inf.size=0):=by rw [X]; exact Nat.ne_of_gt (Nat.mul_pos hn hsz')
 have T: ¬ ((n:Int)<0):=by omega
 have AA: ¬ (281474976710656<(n:Int)*(inf.bytes:Int)):=by
  have:((n*inf.bytes:Nat):Int)≤1000000:=by omega
  rw [Int.natCast_mul] at this; omega
 have f: ¬ (n≤0):=by omega
 have V: ¬ (9223372036854775807<(n:Int)):=by omega
 have W: ¬ (281474976710656<n*inf.bytes):=by omega
 have G:(Builtin.append_ #[t,it] ty #[.slice none 0 0,.int .i64 (n:Int)]).run E.P w= .ok (.slice (some ⟨w.heap.size,0,none⟩) n (grownCap w n 0 e)) (w.drew.alloc (.cells (Builtin.zeroCells z.cells n++Builtin.zeroCells z.cells (grownCap w n 0 e-n)) e)):=by
  have K: ¬ (n=0):=by omega
  simp [Builtin.append_,run_underlying hu,run_underlying hit,sizeOf,typeInfo,zeroValue,hi,hz,H,AA,V,W,M,R,K,Question.forced,newRow,grownCap,Builtin.firstCells,Builtin.lenOf,asInt,asIntOf]
  exact fun h=>absurd h T
 refine fp sm (w':=w.drew.alloc (.cells (Builtin.zeroCells z.cells n++Builtin.zeroCells z.cells (grownCap w n 0 e-n)) e)) (v:= .slice (some ⟨w.heap.size,0,none⟩) n (grownCap w n 0 e)) ?_ ?_
 ·simp [execOp,resolve,invoke,builtin,B.ev hs,B.ev hx,G]
 ·refine k w.heap.size (grownCap w n 0 e) J _ _ (B.put hd' _) ?_
  have F:cQ no w (w.drew.alloc (.cells (Builtin.zeroCells z.cells n++Builtin.zeroCells z.cells (grownCap w n 0 e-n)) e)):=(cQ.drew no w).trans (cQ.alloc no w.drew _)
  refine O.grow (N:=[own (some ⟨w.heap.size,0,none⟩) (grownCap w n 0 e) e sz []]) F ⟨?_,?_,sm⟩
  ·intro A hA
   simp only [cN] at hA
   subst hA
   refine ⟨sm,sm,.inr ⟨w.heap.size,grownCap w n 0 e,_,U,Nat.zero_le _,heap_alloc_new w.drew _,Nat.zero_le _,AB,?_,sm⟩⟩
   simp only [Array.size_append,size_zeroCells,Z,← Nat.add_mul]
   congr 1; omega
  ·intro A hA b hb
   simp only [cN] at hA
   subst hA
   obtain ⟨ad,S,rfl⟩:=hb
   cases S; exact Nat.le_refl _
end
theorem vZ {w:World} {a:OA} {c e sz:Nat} {es:List (List Value)} (h:(own a c e sz es).holds w):es.length≤c:=by
 rcases h.2.2 with ⟨A,B⟩|⟨g,cap,cur,hv,_,_,C,_⟩
 ·omega
 ·injection hv with _ _ hc; omega
end
section
open Go.RowKit
/-- an array's length, its elements' type and their size -/
def aE (P:Program) (t:TypeId):Option (Nat×TypeId×Nat):=
 match P.underlying t with
 |some (.array n e)=>match P.info? e with
  |some i=>some (n,e,i.size)
  |none=>none
 |_=>none
theorem BP {P:Program} {t n e sz:Nat} (h:aE P t=some (n,e,sz)) (w:World):P.underlying t=some (.array n e)∧(sizeOf e).run P w= .ok sz w:=by
 unfold aE at h
 split at h
 ·rename_i n' e' hu
  split at h
  ·rename_i i hi
   cases h
   exact ⟨hu,by simp [sizeOf,typeInfo,hi]⟩
  ·cases h
 ·cases h
theorem ji {P:Program} {t n e sz:Nat} (h:aE P t=some (n,e,sz)) (a:Addr) {k:Nat} (hk:k<n) (w:World):
 (Instr.indexAt t (.pointer (some a)) (.int .i64 (k:Int))).run P w= .ok (.pointer (some (a.add (k*sz)))) w:=by
 obtain ⟨hu,hz⟩:=BP h w
 have A: ¬ n≤k:=by omega
 simp [Instr.indexAt,underlying,hu,Instr.sureAddr,asIntOf,hz,A]
 try exact fun h=>absurd h A
 try omega
section
variable {E:dW} {ops:Array Oper} {Q:cq} {rest:List Oper} {D:List Deferred} {L:List (Nat×Value)} {C:List au}
variable {dst:Option Nat} {ty:TypeId} {ps:String} {af:Array Edge} {g:Option (Nat×Bool)}
theorem fc {x ix:Operand} {a:Addr} {t n e sz k:Nat} {j:Int} (hg:gW ops L g=true) (hx:ev L x=some (.pointer (some a))) (hi:ev L ix=some (.int .i64 j)) (ht:aE E.P t=some (n,e,sz)) (hj:j=(k:Int)) (hk:k<n):
 SD E ops ⟨dst,.indexAddr t x ix,ty,ps,af,g⟩ D L C (.pointer (gN (some a) (k*sz))):=
 dh hg sm fun b w A hs=>by
  subst hj
  simp [execOp,A.ev hx,A.ev hi,gN,ji ht a hk]
end
end
section
open Go.RowKit
/-- a table of facts on the program's types -/
structure uG where
 tk:List (Nat×Bool×Nat)
 fo:List (Nat×List (Option Nat))
 sl:List Nat
def Fu {α:Type}:List (Nat×α)→Nat→Option α
 |[],_=>none
 |(k,v)::l,t=>match Nat.beq k t with
  |true=>some v
  |false=>Fu l t
theorem rW {α:Type}: ∀ {l:List (Nat×α)} {t:Nat} {v:α},Fu l t=some v→(t,v)∈l
 |[],t,v,h=>by simp [Fu] at h
 |(k,u)::l,t,v,h=>by
  unfold Fu at h
  split at h
  ·rename_i hb
   cases h
   rw [Nat.eq_of_beq_eq_true hb]; exact gk
  ·exact fA _ (rW h)
def Ba:List Nat→Nat→Bool
 |[],_=>false
 |k::l,t=>match Nat.beq k t with
  |true=>true
  |false=>Ba l t
theorem tj: ∀ {l:List Nat} {t:Nat},Ba l t=true→t∈l
 |[],t,h=>by simp [Ba] at h
 |k::l,t,h=>by
  unfold Ba at h
  split at h
  ·rename_i hb
   rw [Nat.eq_of_beq_eq_true hb]; exact gk
  ·exact fA _ (tj h)
def uG.AH (T:uG) (t:Nat):Option (Bool×Nat):=Fu T.tk t
def uG.foF (T:uG) (s f:Nat):Option Nat:=match Fu T.fo s with
 |some l=>match l[f]? with
  |some (some k)=>some k
  |_=>none
 |none=>none
structure iA (P:Program) (T:uG):Prop where
 tk: ∀ p∈T.tk,tK P p.1=some p.2
 fo: ∀ p∈T.fo,∀ f k,p.2[f]? =some (some k)→o9 P p.1 f=some k
 sl: ∀ t∈T.sl,∃ e,P.underlying t=some (.slice e)
theorem iA.AH {P:Program} {T:uG} (h:iA P T) {t:Nat} {r:Bool×Nat} (e:T.AH t=some r):tK P t=some r:=h.tk _ (rW e)
theorem iA.foF {P:Program} {T:uG} (h:iA P T) {s f k:Nat} (e:T.foF s f=some k):o9 P s f=some k:=by
 unfold uG.foF at e
 split at e
 ·rename_i l hl
  split at e
  ·rename_i k' hk
   cases e
   exact h.fo _ (rW hl) f k hk
  ·cases e
 ·cases e
def HG (P:Program) (T:uG):Bool:=(T.tk.all fun p=>decide (tK P p.1=some p.2))&&(T.fo.all fun p=>(List.range p.2.length).all fun f=>match p.2[f]? with
 |some (some k)=>decide (o9 P p.1 f=some k)
 |_=>true)&&T.sl.all fun t=>match P.underlying t with
 |some (.slice _)=>true
 |_=>false
theorem Fa {P:Program} {T:uG} (h:HG P T=true):iA P T:=by
 unfold HG at h
 rw [cZ,cZ] at h
 obtain ⟨⟨B,C⟩,D⟩:=h
 refine ⟨fun p hp=>by simpa using cT.1 B p hp,fun p hp f k hk=>?_,fun t ht=>?_⟩
 ·have A:=cT.1 (cT.1 C p hp) f (List.mem_range.2 (aV.1 hk).1)
  rw [hk] at A
  simpa using A
 ·have A:=cT.1 D t ht
  split at A
  ·rename_i e he; exact ⟨e,he⟩
  ·cases A
end
section
theorem yF:tK Tryz.prog 3=some (false,1):=by kernel_rfl
theorem IG:tK Tryz.prog 24=some (true,1):=by kernel_rfl
theorem DP:tK Tryz.prog 28=some (true,2):=by kernel_rfl
theorem Jq:tK Tryz.prog 30=some (true,10):=by kernel_rfl
theorem HZ:tK Tryz.prog 31=some (false,1):=by kernel_rfl
theorem IX:tK Tryz.prog 37=some (true,3):=by kernel_rfl
theorem I4:tK Tryz.prog 39=some (true,7):=by kernel_rfl
theorem G4:tK Tryz.prog 50=some (false,1):=by kernel_rfl
theorem IM:tK Tryz.prog 57=some (false,1):=by kernel_rfl
theorem Is:tK Tryz.prog 59=some (true,7):=by kernel_rfl
theorem FD:tK Tryz.prog 67=some (false,1):=by kernel_rfl
theorem Jl:tK Tryz.prog 73=some (true,9):=by kernel_rfl
theorem Jm:tK Tryz.prog 75=some (true,7):=by kernel_rfl
theorem Ie:tK Tryz.prog 79=some (true,5):=by kernel_rfl
theorem Jb:tK Tryz.prog 86=some (true,5):=by kernel_rfl
theorem Iy:tK Tryz.prog 88=some (true,1):=by kernel_rfl
theorem Iv:tK Tryz.prog 95=some (true,13):=by kernel_rfl
theorem Ge:tK Tryz.prog 113=some (true,3):=by kernel_rfl
theorem GO:tK Tryz.prog 124=some (false,1):=by kernel_rfl
theorem Fy:tK Tryz.prog 142=some (true,3):=by kernel_rfl
theorem Gk:tK Tryz.prog 154=some (true,1):=by kernel_rfl
theorem GU:tK Tryz.prog 155=some (true,2):=by kernel_rfl
theorem FR:tK Tryz.prog 169=some (true,1):=by kernel_rfl
theorem Hx:tK Tryz.prog 170=some (true,4):=by kernel_rfl
theorem GA:tK Tryz.prog 176=some (true,3):=by kernel_rfl
theorem GB:tK Tryz.prog 181=some (true,1):=by kernel_rfl
theorem Gq:tK Tryz.prog 182=some (true,2):=by kernel_rfl
theorem Hf:tK Tryz.prog 197=some (true,8):=by kernel_rfl
theorem vw:(tK Tryz.prog 3).map (·.2)=some 1:=by rw [yF]; rfl
theorem lI:(tK Tryz.prog 24).map (·.2)=some 1:=by rw [IG]; rfl
theorem cn:(tK Tryz.prog 28).map (·.2)=some 2:=by rw [DP]; rfl
theorem I0:(tK Tryz.prog 30).map (·.2)=some 10:=by rw [Jq]; rfl
theorem H0:(tK Tryz.prog 31).map (·.2)=some 1:=by rw [HZ]; rfl
theorem F_:(tK Tryz.prog 37).map (·.2)=some 3:=by rw [IX]; rfl
theorem H7:(tK Tryz.prog 39).map (·.2)=some 7:=by rw [I4]; rfl
theorem GG:(tK Tryz.prog 50).map (·.2)=some 1:=by rw [G4]; rfl
theorem Jg:(tK Tryz.prog 57).map (·.2)=some 1:=by rw [IM]; rfl
theorem w4:(tK Tryz.prog 59).map (·.2)=some 7:=by rw [Is]; rfl
theorem E8:(tK Tryz.prog 67).map (·.2)=some 1:=by rw [FD]; rfl
theorem Bv:(tK Tryz.prog 73).map (·.2)=some 9:=by rw [Jl]; rfl
theorem CN:(tK Tryz.prog 75).map (·.2)=some 7:=by rw [Jm]; rfl
theorem Gp:(tK Tryz.prog 79).map (·.2)=some 5:=by rw [Ie]; rfl
theorem yI:(tK Tryz.prog 86).map (·.2)=some 5:=by rw [Jb]; rfl
theorem vj:(tK Tryz.prog 88).map (·.2)=some 1:=by rw [Iy]; rfl
theorem qS:(tK Tryz.prog 95).map (·.2)=some 13:=by rw [Iv]; rfl
theorem qx:(tK Tryz.prog 113).map (·.2)=some 3:=by rw [Ge]; rfl
theorem Gc:(tK Tryz.prog 124).map (·.2)=some 1:=by rw [GO]; rfl
theorem C6:(tK Tryz.prog 142).map (·.2)=some 3:=by rw [Fy]; rfl
theorem Dx:(tK Tryz.prog 154).map (·.2)=some 1:=by rw [Gk]; rfl
theorem Du:(tK Tryz.prog 155).map (·.2)=some 2:=by rw [GU]; rfl
theorem vR:(tK Tryz.prog 169).map (·.2)=some 1:=by rw [FR]; rfl
theorem Gt:(tK Tryz.prog 170).map (·.2)=some 4:=by rw [Hx]; rfl
theorem DB:(tK Tryz.prog 176).map (·.2)=some 3:=by rw [GA]; rfl
theorem Dr:(tK Tryz.prog 181).map (·.2)=some 1:=by rw [GB]; rfl
theorem Ga:(tK Tryz.prog 182).map (·.2)=some 2:=by rw [Gq]; rfl
theorem F4:(tK Tryz.prog 197).map (·.2)=some 8:=by rw [Hf]; rfl
theorem wO:aE Tryz.prog 142=some (3,141,1):=by kernel_rfl
theorem gR:aE Tryz.prog 144=some (13,3,1):=by kernel_rfl
theorem gO:aE Tryz.prog 146=some (13,144,13):=by kernel_rfl
theorem D3:ke Tryz.prog 11=true:=by kernel_rfl
theorem G7:ke Tryz.prog 131=true:=by kernel_rfl
theorem GQ:ke Tryz.prog 154=true:=by kernel_rfl
theorem Hk:ke Tryz.prog 155=true:=by kernel_rfl
theorem GZ:ke Tryz.prog 167=true:=by kernel_rfl
theorem Gm:ke Tryz.prog 173=true:=by kernel_rfl
theorem FE:ke Tryz.prog 177=true:=by kernel_rfl
theorem Gh:ke Tryz.prog 194=true:=by kernel_rfl
theorem lD (l:List I): ∀ v∈(l.map I.cells).flatten,v.oneCell'=true:=kK (fun _=>rfl) l
theorem o6 (l:List ae): ∀ v∈(l.map ae.cells).flatten,v.oneCell'=true:=kK (fun _=>rfl) l
theorem np (l:List ab): ∀ v∈(l.map ab.cells).flatten,v.oneCell'=true:=kK (fun _=>rfl) l
theorem o5 (l:List dU): ∀ v∈(l.map dU.cells).flatten,v.oneCell'=true:=kK (fun _=>rfl) l
theorem IJ:tA Tryz.prog 22=some (73,9,72,(Value.agg [(vI 0),(vI 0),(vI 0),(vI 0),(vI 0),(vI 0),(vI 0),(Value.int .u8 0),(vI 0)].toArray)):=by kernel_rfl
theorem IU:tA Tryz.prog 31=some (67,1,24,(vS none 0 0)):=by kernel_rfl
theorem Gf:tA Tryz.prog 50=some (28,2,16,(Value.agg [(vI 0),(vI 0)].toArray)):=by kernel_rfl
theorem I9:tA Tryz.prog 57=some (118,4,32,(Value.agg [(vI 0),(vI 0),(vI 0),(vI 0)].toArray)):=by kernel_rfl
theorem od:tA Tryz.prog 67=some (3,1,8,(vI 0)):=by kernel_rfl
theorem Hw:tA Tryz.prog 217=some (37,3,24,(Value.agg [(vI 0),(vI 0),(vI 0)].toArray)):=by kernel_rfl
theorem u0:tB Tryz.prog 24=some ([(vS none 0 0)],[(0,1)]):=by kernel_rfl
theorem fm:tB Tryz.prog 28=some ([(vI 0),(vI 0)],[(0,1),(1,1)]):=by kernel_rfl
theorem xU:tB Tryz.prog 30=some ([(vS none 0 0),(vS none 0 0),(vS none 0 0),(vI 0),(vI 0),(vI 0),(vI 0),(vI 0),(vI 0),(vI 0)],[(0,1),(1,1),(2,1),(3,2),(5,2),(7,1),(8,1),(9,1)]):=by kernel_rfl
theorem FX:tB Tryz.prog 33=some ([(Value.int .u8 0),(vI 0),(vI 0),(vI 0),(vI 0),(vI 0),(vI 0),(vI 0),(vI 0),(vI 0),(vI 0)],[(0,1),(1,2),(3,2),(5,2),(7,2),(9,2)]):=by kernel_rfl
theorem GS:tB Tryz.prog 37=some ([(vI 0),(vI 0),(vI 0)],[(0,1),(1,2)]):=by kernel_rfl
theorem IB:tB Tryz.prog 39=some ([(vS none 0 0),(vS none 0 0),(vS none 0 0),(vI 0),(vI 0),(vI 0),(vI 0)],[(0,1),(1,1),(2,1),(3,3),(6,1)]):=by kernel_rfl
theorem Ik:tB Tryz.prog 59=some ([(vS none 0 0),(vI 0),(vS none 0 0),(vS none 0 0),(vI 0),(vI 0),(vI 0)],[(0,1),(1,1),(2,1),(3,1),(4,1),(5,1),(6,1)]):=by kernel_rfl
theorem BN:tB Tryz.prog 73=some ([(vI 0),(vI 0),(vI 0),(vI 0),(vI 0),(vI 0),(vI 0),(Value.int .u8 0),(vI 0)],[(0,1),(1,2),(3,2),(5,2),(7,1),(8,1)]):=by kernel_rfl
theorem Io:tB Tryz.prog 75=some ([(vI 0),(Value.int .u8 0),(vI 0),(vI 0),(vI 0),(vI 0),(vI 0)],[(0,1),(1,1),(2,3),(5,1),(6,1)]):=by kernel_rfl
theorem H3:tB Tryz.prog 77=some ([(vI 0),(vI 0),(vI 0)],[(0,2),(2,1)]):=by kernel_rfl
theorem IW:tB Tryz.prog 79=some ([(vI 0),(vI 0),(vI 0),(vI 0),(vB false)],[(0,2),(2,1),(3,1),(4,1)]):=by kernel_rfl
theorem Im:tB Tryz.prog 88=some ([(vS none 0 0)],[(0,1)]):=by kernel_rfl
theorem Hb:tB Tryz.prog 95=some ([(Value.int .u8 0),(vI 0),(vI 0),(vI 0),(vI 0),(vI 0),(vI 0),(vI 0),(vI 0),(vI 0),(vI 0),(vS none 0 0),(vB false)],[(0,11),(11,1),(12,1)]):=by kernel_rfl
theorem Gn:tB Tryz.prog 113=some ([(vI 0),(vI 0),(vI 0)],[(0,1),(1,2)]):=by kernel_rfl
theorem G9:tB Tryz.prog 116=some ([(vI 0),(vS none 0 0)],[(0,1),(1,1)]):=by kernel_rfl
theorem Hp:tB Tryz.prog 118=some ([(vI 0),(vI 0),(vI 0),(vI 0)],[(0,3),(3,1)]):=by kernel_rfl
theorem C_:tB Tryz.prog 141=some ([Value.nilFunc],[(0,1)]):=by kernel_rfl
theorem F9:tB Tryz.prog 142=some ([Value.nilFunc,Value.nilFunc,Value.nilFunc],[(0,1),(1,1),(2,1)]):=by kernel_rfl
theorem C8:tB Tryz.prog 154=some ([Value.nilFunc],[(0,1)]):=by kernel_rfl
theorem Hy:tB Tryz.prog 155=some ([Value.nilFunc,Value.nilFunc],[(0,1),(1,1)]):=by kernel_rfl
theorem G8:tB Tryz.prog 166=some ([(vS none 0 0),(vS none 0 0),(vS none 0 0),(vI 0),(vI 0),(vI 0),(vI 0),(vI 0),(vI 0),(vI 0)],[(0,10)]):=by kernel_rfl
theorem wk:tB Tryz.prog 169=some ([Value.nilFunc],[(0,1)]):=by kernel_rfl
theorem FZ:tB Tryz.prog 170=some ([Value.nilFunc,Value.nilFunc,Value.nilFunc,Value.nilFunc],[(0,1),(1,1),(2,1),(3,1)]):=by kernel_rfl
theorem CX:tB Tryz.prog 181=some ([Value.nilFunc],[(0,1)]):=by kernel_rfl
theorem Gx:tB Tryz.prog 182=some ([Value.nilFunc,Value.nilFunc],[(0,1),(1,1)]):=by kernel_rfl
theorem Hr:tB Tryz.prog 188=some ([(vS none 0 0),(vS none 0 0),(vS none 0 0),(vI 0),(vI 0),(vI 0),(vI 0),(vS none 0 0)],[(0,7),(7,1)]):=by kernel_rfl
theorem Hn:tB Tryz.prog 194=some ([(vS none 0 0)],[(0,1)]):=by kernel_rfl
theorem Gv:tB Tryz.prog 197=some ([(vS none 0 0),(vI 0),(vI 0),(vI 0),(vS none 0 0),(vS none 0 0),(vI 0),(vB false)],[(0,1),(1,1),(2,1),(3,1),(4,1),(5,1),(6,1),(7,1)]):=by kernel_rfl
theorem GR:tB Tryz.prog 274=some ([(vS none 0 0),(Value.map none)],[(0,1),(1,1)]):=by kernel_rfl
theorem l5:tE Tryz.prog 22=some (73,9):=by kernel_rfl
theorem lJ:tE Tryz.prog 25=some (77,3):=by kernel_rfl
theorem lu:tE Tryz.prog 26=some (79,5):=by kernel_rfl
theorem iO:tE Tryz.prog 31=some (67,1):=by kernel_rfl
theorem sH:tE Tryz.prog 34=some (75,7):=by kernel_rfl
theorem DS:tE Tryz.prog 35=some (176,3):=by kernel_rfl
theorem sZ:tE Tryz.prog 40=some (86,5):=by kernel_rfl
theorem hU:tE Tryz.prog 50=some (28,2):=by kernel_rfl
theorem DX:tE Tryz.prog 56=some (116,2):=by kernel_rfl
theorem sx:tE Tryz.prog 57=some (118,4):=by kernel_rfl
theorem cK:tE Tryz.prog 67=some (3,1):=by kernel_rfl
theorem oS:tE Tryz.prog 114=some (113,3):=by kernel_rfl
theorem p7:tE Tryz.prog 217=some (37,3):=by kernel_rfl
theorem C4:tE Tryz.prog 244=some (197,8):=by kernel_rfl
theorem JM:tV Tryz.prog 4=some (vB false):=by kernel_rfl
theorem C9:tX Tryz.prog 155=some (2,154):=by kernel_rfl
theorem wu:tX Tryz.prog 170=some (4,169):=by kernel_rfl
theorem Dc:tX Tryz.prog 182=some (2,181):=by kernel_rfl
theorem g6:tZ Tryz.prog 3=some [(vI 0)]:=by kernel_rfl
theorem qV:tZ Tryz.prog 24=some [(vS none 0 0)]:=by kernel_rfl
theorem cv:tZ Tryz.prog 28=some [(vI 0),(vI 0)]:=by kernel_rfl
theorem I6:tZ Tryz.prog 30=some [(vS none 0 0),(vS none 0 0),(vS none 0 0),(vI 0),(vI 0),(vI 0),(vI 0),(vI 0),(vI 0),(vI 0)]:=by kernel_rfl
theorem yw:tZ Tryz.prog 37=some [(vI 0),(vI 0),(vI 0)]:=by kernel_rfl
theorem HY:tZ Tryz.prog 39=some [(vS none 0 0),(vS none 0 0),(vS none 0 0),(vI 0),(vI 0),(vI 0),(vI 0)]:=by kernel_rfl
theorem Hg:tZ Tryz.prog 50=some [(vS none 0 0)]:=by kernel_rfl
theorem yH:tZ Tryz.prog 59=some [(vS none 0 0),(vI 0),(vS none 0 0),(vS none 0 0),(vI 0),(vI 0),(vI 0)]:=by kernel_rfl
theorem nN:tZ Tryz.prog 67=some [(vS none 0 0)]:=by kernel_rfl
theorem uP:tZ Tryz.prog 73=some [(vI 0),(vI 0),(vI 0),(vI 0),(vI 0),(vI 0),(vI 0),(Value.int .u8 0),(vI 0)]:=by kernel_rfl
theorem zH:tZ Tryz.prog 75=some [(vI 0),(Value.int .u8 0),(vI 0),(vI 0),(vI 0),(vI 0),(vI 0)]:=by kernel_rfl
theorem o8:tZ Tryz.prog 77=some [(vI 0),(vI 0),(vI 0)]:=by kernel_rfl
theorem nB:tZ Tryz.prog 79=some [(vI 0),(vI 0),(vI 0),(vI 0),(vB false)]:=by kernel_rfl
theorem zW:tZ Tryz.prog 86=some [(Value.int .u8 0),(vI 0),(vI 0),(vI 0),(vI 0)]:=by kernel_rfl
theorem uN:tZ Tryz.prog 88=some [(vS none 0 0)]:=by kernel_rfl
theorem qP:tZ Tryz.prog 95=some [(Value.int .u8 0),(vI 0),(vI 0),(vI 0),(vI 0),(vI 0),(vI 0),(vI 0),(vI 0),(vI 0),(vI 0),(vS none 0 0),(vB false)]:=by kernel_rfl
theorem oM:tZ Tryz.prog 113=some [(vI 0),(vI 0),(vI 0)]:=by kernel_rfl
theorem GW:tZ Tryz.prog 116=some [(vI 0),(vS none 0 0)]:=by kernel_rfl
theorem Hs:tZ Tryz.prog 118=some [(vI 0),(vI 0),(vI 0),(vI 0)]:=by kernel_rfl
theorem FH:tZ Tryz.prog 124=some [Value.nilFunc]:=by kernel_rfl
theorem Dt:tZ Tryz.prog 142=some [Value.nilFunc,Value.nilFunc,Value.nilFunc]:=by kernel_rfl
theorem Dz:tZ Tryz.prog 154=some [Value.nilFunc]:=by kernel_rfl
theorem DD:tZ Tryz.prog 155=some [Value.nilFunc,Value.nilFunc]:=by kernel_rfl
theorem wK:tZ Tryz.prog 169=some [Value.nilFunc]:=by kernel_rfl
theorem FF:tZ Tryz.prog 170=some [Value.nilFunc,Value.nilFunc,Value.nilFunc,Value.nilFunc]:=by kernel_rfl
theorem Dw:tZ Tryz.prog 176=some [(vI 0),(Value.int .u8 0),(vI 0)]:=by kernel_rfl
theorem Ds:tZ Tryz.prog 181=some [Value.nilFunc]:=by kernel_rfl
theorem HC:tZ Tryz.prog 182=some [Value.nilFunc,Value.nilFunc]:=by kernel_rfl
theorem C3:tZ Tryz.prog 197=some [(vS none 0 0),(vI 0),(vI 0),(vI 0),(vS none 0 0),(vS none 0 0),(vI 0),(vB false)]:=by kernel_rfl
theorem zt:tZ Tryz.prog 146=some ((List.replicate 169 (0:Int)).map (Value.int .i64)):=by kernel_rfl
theorem oe:Tryz.prog.underlying 3=some (.int .i64):=by kernel_rfl
theorem IT:Tryz.prog.underlying 4=some .bool:=by kernel_rfl
theorem vX:Tryz.prog.underlying 5=some (.int .u8):=by kernel_rfl
theorem JP:Tryz.prog.underlying 9=some .string:=by kernel_rfl
theorem EM:Tryz.prog.underlying 22=some (.slice 73):=by kernel_rfl
theorem ID:Tryz.prog.underlying 25=some (.slice 77):=by kernel_rfl
theorem H5:Tryz.prog.underlying 26=some (.slice 79):=by kernel_rfl
theorem GY:Tryz.prog.underlying 31=some (.slice 67):=by kernel_rfl
theorem IQ:Tryz.prog.underlying 34=some (.slice 75):=by kernel_rfl
theorem HT:Tryz.prog.underlying 35=some (.slice 176):=by kernel_rfl
theorem F3:Tryz.prog.underlying 40=some (.slice 86):=by kernel_rfl
theorem GM:Tryz.prog.underlying 41=some (.int .u16):=by kernel_rfl
theorem CT:Tryz.prog.underlying 67=some (.slice 3):=by kernel_rfl
theorem E0:Tryz.prog.underlying 89=some (.map 3 86):=by kernel_rfl
theorem v8:Tryz.prog.underlying 216=some (.map 3 4):=by kernel_rfl
theorem G_:Tryz.prog.underlying 243=some (.int .u64):=by kernel_rfl
theorem Ha:Tryz.prog.underlying 271=some (.int .u64):=by kernel_rfl
theorem HD:Tryz.prog.underlying 272=some (.map 3 249):=by kernel_rfl
theorem Ep:fL Tryz.prog 28=some [(3,0),(3,1)]:=by kernel_rfl
theorem zL (d:Nat) (s z:I) (w:World):(Op.equalIn (d+2) 28 (.agg s.cells.toArray) (.agg z.cells.toArray)).run Tryz.prog w= .ok (decide (s=z)) w:=by
 have hc:(decide (s.Lo=z.Lo)&&(decide (s.Hi=z.Hi)&&true))=decide (s=z):=by rw [Bool.eq_iff_iff]; simp [I.ext_iff]
 rw [← hc]
 exact p8 (d+1) Ep w (nF w (kz yF U w) (kz yF U w) (sk _ oe w) (nF w (kz yF U w) (kz yF U w) (sk _ oe w) (vM w)))
theorem Aq (x y:Operand) (s z:I):ew Tryz.prog .eql 28 x y (.agg s.cells.toArray) (.agg z.cells.toArray) (.bool (decide (s=z))):=rG x y (qh Ep) fun w=>zL 9998 s z w
theorem AA (x y:Operand) (s z:I):ew Tryz.prog .neq 28 x y (.agg s.cells.toArray) (.agg z.cells.toArray) (.bool (!decide (s=z))):=xq x y (qh Ep) fun w=>zL 9998 s z w
theorem FL:fL Tryz.prog 37=some [(3,0),(28,1)]:=by kernel_rfl
theorem FQ (d:Nat) (s z:ae) (w:World):(Op.equalIn (d+3) 37 (.agg s.cells.toArray) (.agg z.cells.toArray)).run Tryz.prog w= .ok (decide (s=z)) w:=by
 have hc:(decide (s.ax=z.ax)&&(decide (s.hG=z.hG)&&true))=decide (s=z):=by rw [Bool.eq_iff_iff]; simp [ae.ext_iff]
 rw [← hc]
 exact p8 (d+2) FL w (nF w (kz yF U w) (kz yF U w) (sk _ oe w) (nF w (pR (vs:=I.cells s.hG) DP U w) (pR (vs:=I.cells z.hG) DP U w) (zL (d+0) s.hG z.hG w) (vM w)))
theorem GV (x y:Operand) (s z:ae):ew Tryz.prog .eql 37 x y (.agg s.cells.toArray) (.agg z.cells.toArray) (.bool (decide (s=z))):=rG x y (qh FL) fun w=>FQ 9997 s z w
theorem cx:Tryz.prog.follows .mixedOrders=true:=by kernel_rfl
def TT:uG:=⟨[(1,false,1),(2,false,1),(3,false,1),(4,false,1),(5,false,1),(6,false,1),(7,true,4),(8,true,4),(12,false,1),(15,false,1),(16,false,1),(17,false,1),(18,true,1),(19,true,1),(21,false,1),(22,false,1),(23,true,1),(24,true,1),(25,false,1),(26,false,1),(27,true,2),(28,true,2),(29,true,10),(30,true,10),(31,false,1),(32,true,11),(33,true,11),(34,false,1),(35,false,1),(36,true,3),(37,true,3),(38,true,7),(39,true,7),(40,false,1),(41,false,1),(42,false,1),(43,false,1),(44,false,1),(45,false,1),(46,false,1),(47,false,1),(49,false,1),(50,false,1),(52,false,1),(54,false,1),(55,false,1),(56,false,1),(57,false,1),(58,true,7),(59,true,7),(61,false,1),(63,false,1),(64,false,1),(65,false,1),(66,false,1),(67,false,1),(69,false,1),(70,false,1),(71,false,1),(72,true,9),(73,true,9),(74,true,7),(75,true,7),(76,true,3),(77,true,3),(78,true,5),(79,true,5),(80,false,1),(81,false,1),(82,false,1),(83,false,1),(84,false,1),(85,true,5),(86,true,5),(87,true,1),(88,true,1),(89,false,1),(91,false,1),(93,false,1),(94,true,13),(95,true,13),(97,false,1),(98,false,1),(99,false,1),(100,false,1),(101,false,1),(102,false,1),(104,false,1),(105,false,1),(107,false,1),(108,false,1),(109,false,1),(110,false,1),(111,false,1),(112,true,3),(113,true,3),(114,false,1),(115,true,2),(116,true,2),(117,true,4),(118,true,4),(119,false,1),(120,false,1),(121,false,1),(122,false,1),(123,false,1),(124,false,1),(125,false,1),(127,false,1),(128,false,1),(129,false,1),(131,false,1),(132,false,1),(133,false,1),(134,false,1),(135,false,1),(136,false,1),(137,false,1),(138,false,1),(139,false,1),(140,true,1),(141,true,1),(142,true,3),(143,false,1),(144,true,13),(147,false,1),(148,false,1),(149,false,1),(150,false,1),(151,false,1),(152,false,1),(153,false,1),(154,true,1),(155,true,2),(156,false,1),(157,false,1),(158,false,1),(159,false,1),(160,false,1),(162,false,1),(163,false,1),(164,false,1),(165,true,10),(166,true,10),(167,false,1),(168,false,1),(169,true,1),(170,true,4),(171,false,1),(172,false,1),(173,false,1),(174,false,1),(175,true,3),(176,true,3),(177,false,1),(178,false,1),(179,false,1),(180,true,1),(181,true,1),(182,true,2),(183,false,1),(185,false,1),(186,false,1),(187,true,8),(188,true,8),(189,false,1),(190,false,1),(191,false,1),(192,false,1),(193,true,1),(194,true,1),(195,false,1),(196,true,8),(197,true,8),(198,false,1),(199,false,1),(200,false,1),(201,false,1),(202,false,1),(203,false,1),(204,false,1),(205,false,1),(206,false,1),(207,false,1),(208,false,1),(209,false,1),(210,false,1),(211,false,1),(212,false,1),(213,false,1),(214,false,1),(215,false,1),(216,false,1),(217,false,1),(218,false,1),(219,false,1),(220,false,1),(221,false,1),(222,false,1),(223,false,1),(224,false,1),(225,false,1),(227,false,1),(228,false,1),(229,false,1),(230,false,1),(231,false,1),(232,false,1),(233,false,1),(235,false,1),(236,false,1),(237,false,1),(238,false,1),(239,false,1),(240,false,1),(241,false,1),(242,false,1),(243,false,1),(244,false,1),(245,false,1),(246,false,1),(247,false,1),(248,true,7),(249,true,7),(250,false,1),(251,false,1),(252,false,1),(253,false,1),(254,false,1),(255,false,1),(256,false,1),(257,false,1),(258,false,1),(259,false,1),(260,false,1),(261,false,1),(263,false,1),(264,false,1),(265,false,1),(267,false,1),(268,false,1),(269,false,1),(270,false,1),(271,false,1),(272,false,1),(273,true,2),(274,true,2),(275,false,1),(276,true,2),(277,true,2),(279,false,1),(280,false,1),(281,false,1),(282,false,1),(283,true,2),(284,true,4),(285,true,4),(286,false,1),(287,false,1),(288,false,1),(289,false,1),(290,true,3),(291,true,3),(292,false,1),(293,false,1),(294,false,1),(295,false,1),(296,false,1),(297,false,1),(298,false,1),(299,true,2),(300,true,2),(301,false,1),(302,false,1),(303,false,1),(304,false,1),(305,false,1),(306,false,1),(307,false,1),(309,false,1),(310,false,1),(311,false,1),(312,false,1),(313,false,1),(314,false,1),(315,false,1),(316,false,1),(317,false,1),(318,false,1),(319,false,1),(320,false,1),(323,true,0),(324,true,0),(325,true,0),(326,false,1),(327,false,1),(328,false,1),(329,false,1),(330,false,1),(331,false,1),(332,false,1),(333,true,11),(334,true,11),(335,false,1)],[(7,[some 0,some 1,some 2,some 3]),(8,[some 0,some 1,some 2,some 3]),(18,[some 0]),(19,[some 0]),(23,[some 0]),(24,[some 0]),(27,[some 0,some 1]),(28,[some 0,some 1]),(29,[some 0,some 1,some 2,some 3,some 5,some 7,some 8,some 9]),(30,[some 0,some 1,some 2,some 3,some 5,some 7,some 8,some 9]),(32,[some 0,some 1,some 3,some 5,some 7,some 9]),(33,[some 0,some 1,some 3,some 5,some 7,some 9]),(36,[some 0,some 1]),(37,[some 0,some 1]),(38,[some 0,some 1,some 2,some 3,some 6]),(39,[some 0,some 1,some 2,some 3,some 6]),(58,[some 0,some 1,some 2,some 3,some 4,some 5,some 6]),(59,[some 0,some 1,some 2,some 3,some 4,some 5,some 6]),(72,[some 0,some 1,some 3,some 5,some 7,some 8]),(73,[some 0,some 1,some 3,some 5,some 7,some 8]),(74,[some 0,some 1,some 2,some 5,some 6]),(75,[some 0,some 1,some 2,some 5,some 6]),(76,[some 0,some 2]),(77,[some 0,some 2]),(78,[some 0,some 2,some 3,some 4]),(79,[some 0,some 2,some 3,some 4]),(85,[some 0,some 1,some 2,some 3]),(86,[some 0,some 1,some 2,some 3]),(87,[some 0]),(88,[some 0]),(94,[some 0,some 11,some 12]),(95,[some 0,some 11,some 12]),(112,[some 0,some 1]),(113,[some 0,some 1]),(115,[some 0,some 1]),(116,[some 0,some 1]),(117,[some 0,some 3]),(118,[some 0,some 3]),(140,[some 0]),(141,[some 0]),(154,[some 0]),(165,[some 0]),(166,[some 0]),(169,[some 0]),(175,[some 0,some 1,some 2]),(176,[some 0,some 1,some 2]),(180,[some 0]),(181,[some 0]),(187,[some 0,some 7]),(188,[some 0,some 7]),(193,[some 0]),(194,[some 0]),(196,[some 0,some 1,some 2,some 3,some 4,some 5,some 6,some 7]),(197,[some 0,some 1,some 2,some 3,some 4,some 5,some 6,some 7]),(248,[some 0,some 1,some 2,some 4,some 6]),(249,[some 0,some 1,some 2,some 4,some 6]),(273,[some 0,some 1]),(274,[some 0,some 1]),(276,[some 0,some 1]),(277,[some 0,some 1]),(284,[some 0,some 2]),(285,[some 0,some 2]),(290,[some 0,some 1]),(291,[some 0,some 1]),(299,[some 0,some 1]),(300,[some 0,some 1]),(333,[some 0,some 1,some 2,some 3,some 4,some 5,some 6,some 7,some 8,some 9,some 10]),(334,[some 0,some 1,some 2,some 3,some 4,some 5,some 6,some 7,some 8,some 9,some 10])],[22,25,26,31,34,35,40,50,56,57,67,114,192,195,217,244,247,252]⟩
theorem lz:iA Tryz.prog TT:=Fa kr
theorem bQ {t:TypeId} {x:Bool×Nat} (h:TT.AH t=some x:=by rfl):tK Tryz.prog t=some x:=lz.AH h
theorem fh {s f k:Nat} (h:TT.foF s f=some k:=by rfl):o9 Tryz.prog s f=some k:=lz.foF h
end
section
open Go.RowKit
/-- blocks that are read -/
def MM (C:List au) (M:List (Nat×List Value)):Prop:= ∀ p∈M,∀ o vs,(p.2.drop o).take vs.length=vs→At C (some ⟨p.1,o,none⟩) vs
theorem mn {C:List au}:MM C []:=fun p h=>by cases h
theorem mc {C:List au} {b t:Nat} {cs:List Value} {M:List (Nat×List Value)} (i:Nat) (hC:C[i]? =some (bm b t cs)) (h:MM C M):MM C ((b,cs)::M):=fun p hp o vs hv=>by
 rcases bZ.1 hp with rfl|hp
 ·exact mg i hC hv
 ·exact h p hp o vs hv
theorem mr {C:List au} {b t:Nat} {cs:List Value} {M:List (Nat×List Value)} (i:Nat) (hC:C[i]? =some (bm b t cs).ro) (h:MM C M):MM C ((b,cs)::M):=fun p hp o vs hv=>by
 rcases bZ.1 hp with rfl|hp
 ·exact n_ i hC hv
 ·exact h p hp o vs hv
def k4:List Prop→Prop
 |[]=>True
 |p::l=>p∧k4 l
theorem gK {p:Prop} {l:List Prop} (h:p) (h2:k4 l):k4 (p::l):=⟨h,h2⟩
/-- the value of an operation, what it asks for, and what is left of the list of places -/
def pv (T:uG) (ops:Array Oper) (M:List (Nat×List Value)) (L:cG) (hs:List Nat) (g:Option (Nat×Bool)) (op:Op):Option (Value×List Prop×List Nat):=
 match uC ops L g with
 |true=>some (undef,[],hs)
 |false=>match gW ops L g with
  |false=>none
  |true=>match op with
   | .move x=>match ev L x with
    |some v=>some (v,[],hs)
    |none=>none
   | .assign x=>match ev L x with
    |some v=>some (v,[],hs)
    |none=>none
   | .pick c x y=>match ev L c with
    |some (.bool true)=>match ev L x with
     |some v=>some (v,[],hs)
     |none=>none
    |some (.bool false)=>match ev L y with
     |some v=>some (v,[],hs)
     |none=>none
    |_=>none
   | .unOp .not _ x=>match ev L x with
    |some (.bool b)=>some (.bool !b,[],hs)
    |_=>none
   | .extract x i=>match ev L x with
    |some (.tuple vs)=>match vs.toList[i]? with
     |some v=>some (v,[],hs)
     |none=>none
    |_=>none
   | .fieldAddr s x f=>match ev L x with
    |some (.pointer (some ⟨b,o,none⟩))=>match T.foF s f with
     |some k=>some (.pointer (some ⟨b,o+k,none⟩),[],hs)
     |none=>none
    |_=>none
   | .binOp op _ x y _=>match ev L x with
    |some (.int .i64 a)=>match ev L y with
     |some (.int .i64 b)=>match op with
      | .lss=>some (.bool (decide (a<b)),[],hs)
      | .leq=>some (.bool (decide (a≤b)),[],hs)
      | .gtr=>some (.bool (decide (b<a)),[],hs)
      | .geq=>some (.bool (decide (b≤a)),[],hs)
      | .eql=>some (.bool (decide (a=b)),[],hs)
      | .neq=>some (.bool (!decide (a=b)),[],hs)
      | .add=>some (.int .i64 (a+b),[-9223372036854775808≤a+b,a+b≤9223372036854775807],hs)
      | .sub=>some (.int .i64 (a-b),[-9223372036854775808≤a-b,a-b≤9223372036854775807],hs)
      |_=>none
     |_=>none
    |_=>none
   | .load t x=>match ev L x with
    |some (.pointer (some ⟨b,o,none⟩))=>match M[hs.headD 0]? with
     |some (b',cs)=>match T.AH t with
      |some (false,_)=>match cs[o]? with
       |some v=>some (v,[b'=b],hs.tail)
       |none=>none
      |some (true,n)=>match Nat.beq o 0 with
       |true=>match Nat.beq cs.length n with
        |true=>some (.agg cs.toArray,[b'=b],hs.tail)
        |false=>none
       |false=>none
      |none=>none
     |none=>none
    |_=>none
   | .call c=>match c with
    |{callee:= .builtin .len,args:=xs,argTypes:=ts}=>match xs.toList with
     |[x]=>match ts.toList with
      |[t]=>match ev L x with
       |some (.slice A n c)=>match Ba T.sl t with
        |true=>some (.int .i64 n,[],hs)
        |false=>none
       |_=>none
      |_=>none
     |_=>none
    |_=>none
   |_=>none
section
variable {E:dW} {T:uG} {ops:Array Oper} {M:List (Nat×List Value)} {D:List Deferred} {L:List (Nat×Value)} {C:List au} {hs hs':List Nat}
theorem oV {cs:List Value} {o:Nat} {v:Value} (h:cs[o]? =some v):(cs.drop o).take [v].length=[v]:=by
 obtain ⟨hl,rfl⟩:=aV.1 h
 rw [List.drop_eq_getElem_cons hl]; rfl
theorem FT {o:Oper} {v:Value} {S:List Prop} (hT:iA E.P T) (hM:MM C M) (h:pv T ops M L hs o.guard o.op=some (v,S,hs')) (hS:k4 S):SD E ops o D L C v:=by
 obtain ⟨dst,op,ty,ps,af,g⟩:=o
 unfold pv at h
 simp only at h
 split at h
 ·rename_i hg
  cases h
  exact za hg
 ·split at h
  ·cases h
  ·rename_i hg
   split at h
   ·split at h
    ·rename_i hx; cases h; exact wE hg hx
    ·cases h
   ·split at h
    ·rename_i hx; cases h; exact rp hg hx
    ·cases h
   ·split at h
    ·rename_i hc
     split at h
     ·rename_i hx; cases h; exact rJ hg hc hx
     ·cases h
    ·rename_i hc
     split at h
     ·rename_i hx; cases h; exact rM hg hc hx
     ·cases h
    ·cases h
   ·split at h
    ·rename_i hx; cases h; exact Ei hg hx
    ·cases h
   ·split at h
    ·rename_i vs hx
     split at h
     ·rename_i v' hv; cases h; exact qy (vs:=vs.toList) hg (by simpa using hx) hv
     ·cases h
    ·cases h
   ·split at h
    ·rename_i hx
     split at h
     ·rename_i hk; cases h; exact DC hg hx (hT.foF hk) rfl
     ·cases h
    ·cases h
   ·split at h
    ·rename_i hx
     split at h
     ·rename_i hy
      split at h
      ·cases h; exact bJ hg hx hy ig
      ·cases h; exact bJ hg hx hy nU
      ·cases h; exact bJ hg hx hy vQ
      ·cases h; exact bJ hg hx hy pV
      ·cases h; exact bJ hg hx hy j5
      ·cases h; exact bJ hg hx hy fW
      ·cases h; exact bJ hg hx hy (iZ ⟨hS.1,hS.2.1⟩)
      ·cases h; exact bJ hg hx hy (pK ⟨hS.1,hS.2.1⟩)
      ·cases h
     ·cases h
    ·cases h
   ·split at h
    ·rename_i hx
     split at h
     ·rename_i b' cs hm
      have A:=aG hm
      split at h
      ·rename_i hk
       split at h
       ·rename_i hv
        cases h
        obtain rfl:=hS.1
        exact ow hg hx (hT.AH hk) (hM _ A _ _ (oV hv))
       ·cases h
      ·rename_i n hk
       split at h
       ·rename_i ho
        split at h
        ·rename_i hn
         cases h
         obtain rfl:=hS.1
         have H:=Nat.eq_of_beq_eq_true ho
         subst H
         exact oL hg hx (hT.AH hk) (hM _ A 0 cs sm) (Nat.eq_of_beq_eq_true hn)
        ·cases h
       ·cases h
      ·cases h
     ·cases h
    ·cases h
   ·split at h
    ·rename_i xs ts
     split at h
     ·rename_i x G
      split at h
      ·rename_i t F
       split at h
       ·rename_i hx
        split at h
        ·rename_i B
         cases h
         obtain ⟨e,he⟩:=hT.sl t (tj B)
         have AA:xs= #[x]:=by apply Array.ext'; simpa using G
         have J:ts= #[t]:=by apply Array.ext'; simpa using F
         subst AA J
         exact z9 hg hx he
        ·cases h
       ·cases h
      ·cases h
     ·cases h
    ·cases h
   ·cases h
def pr (T:uG) (n:Nat) (ops:Array Oper) (M:List (Nat×List Value)):Nat→List Nat→cG→List Oper→Option (cG×List Oper×List Prop)
 |0,_,L,rest=>some (L,rest,[])
 |k+1,hs,L,[]=>none
 |k+1,hs,L,o::rest=>match o.dst with
  |none=>none
  |some d=>match Nat.blt d n with
   |false=>none
   |true=>match pv T ops M L hs o.guard o.op with
    |none=>none
    |some (v,S,hs')=>match pr T n ops M k hs' ((d,v)::L) rest with
     |none=>none
     |some (L',rest',S')=>some (L',rest',S++S')
theorem qG: ∀ {S S':List Prop},k4 (S++S')→k4 S∧k4 S'
 |[],S',h=>⟨trivial,h⟩
 |p::S,S',h=>⟨⟨h.1,(qG h.2).1⟩,(qG h.2).2⟩
/-- whatever is closed under single steps -/
theorem z4 {J:List Oper→cG→Prop} (hT:iA E.P T) (hM:MM C M) (hJ: ∀ o rest L d v,SD E ops o D L C v→o.dst=some d→Nat.blt d E.n=true→J rest ((d,v)::L)→J (o::rest) L):
 ∀ (k:Nat) (hs:List Nat) (L:cG) (rest:List Oper) {L':cG} {rest':List Oper} {S:List Prop},pr T E.n ops M k hs L rest=some (L',rest',S)→k4 S→J rest' L'→J rest L
 |0,hs,L,rest,L',rest',S,h,hS,hj=>by
  unfold pr at h
  cases h
  exact hj
 |k+1,hs,L,[],L',rest',S,h,hS,hj=>by unfold pr at h; cases h
 |k+1,hs,L,o::rest,L',rest',S,h,hS,hj=>by
  unfold pr at h
  split at h
  ·cases h
  ·rename_i d hd
   split at h
   ·cases h
   ·rename_i hn
    split at h
    ·cases h
    ·rename_i v S1 A hv
     split at h
     ·cases h
     ·rename_i L1 G S2 hr
      cases h
      obtain ⟨B,F⟩:=qG hS
      exact hJ o rest L d v (FT hT hM hv B) hd hn (z4 hT hM hJ k A _ rest hr F hj)
variable {Q:cq} {rest rest':List Oper} {L0 L':List (Nat×Value)} {S:List Prop} {F:List (Nat×Value)→Prop}
/-- a run of operations, one after the other -/
theorem rP (k:Nat) (hs:List Nat) (hM:MM C M) (j:RJ E ops Q rest' D L' C) (hT:iA E.P T:=by exact lz) (h:pr T E.n ops M k hs L rest=some (L0,rest',S):=by rfl) (hL:L0=L':=by (try dsimp only)<;>rfl) (hS:k4 S:=by repeat' first|exact True.intro |refine gK ?_ ?_ |exact rfl|omega|(dsimp only; omega)):RJ E ops Q rest D L C:=by
 subst hL
 exact z4 (J:=fun r L=>RJ E ops Q r D L C) hT hM (fun o rest L d v A B F G=>FK A B F G) k hs L rest h hS j
theorem dP (k:Nat) (hs:List Nat) (hM:MM C M) (j:DJ E ops D C F rest' L') (hT:iA E.P T:=by exact lz) (h:pr T E.n ops M k hs L rest=some (L0,rest',S):=by rfl) (hL:L0=L':=by (try dsimp only)<;>rfl) (hS:k4 S:=by repeat' first|exact True.intro |refine gK ?_ ?_ |exact rfl|omega|(dsimp only; omega)):DJ E ops D C F rest L:=by
 subst hL
 exact z4 (J:=fun r L=>DJ E ops D C F r L) hT hM (fun o rest L d v A B G H=>Fx A B G H) k hs L rest h hS j
end
section
variable {P:Program} {r:Option Nat} {n:Nat} {B:BS} {w0:World} {ops:Array Oper} {M:List (Nat×List Value)} {D:List Deferred} {L L':List (Nat×Value)} {C:List au} {Q:cq} {rest rest':List Oper} {S:List Prop} {F:List (Nat×Value)→Prop}
theorem dE (k:Nat) (hs:List Nat) (hM:MM C M) (h:pr TT n ops M k hs L rest=some (L',rest',S)) (j:RJ ⟨P,r,n,B,w0⟩ ops Q rest' D L' C) (hS:k4 S:=by repeat' first|exact True.intro |refine gK ?_ ?_ |exact rfl|omega|(dsimp only; omega)) (hT:iA P TT:=by exact lz):RJ ⟨P,r,n,B,w0⟩ ops Q rest D L C:=rP k hs hM j hT h rfl hS
theorem jA (k:Nat) (hs:List Nat) (hM:MM C M) (h:pr TT n ops M k hs L rest=some (L',rest',S)) (j:DJ ⟨P,r,n,B,w0⟩ ops D C F rest' L') (hS:k4 S:=by repeat' first|exact True.intro |refine gK ?_ ?_ |exact rfl|omega|(dsimp only; omega)) (hT:iA P TT:=by exact lz):DJ ⟨P,r,n,B,w0⟩ ops D C F rest L:=dP k hs hM j hT h rfl hS
theorem aU (k:Nat) (h:pr TT n ops [] k [] L rest=some (L',rest',S)) (j:RJ ⟨P,r,n,B,w0⟩ ops Q rest' D L' C) (hS:k4 S:=by repeat' first|exact True.intro |refine gK ?_ ?_ |exact rfl|omega|(dsimp only; omega)) (hT:iA P TT:=by exact lz):RJ ⟨P,r,n,B,w0⟩ ops Q rest D L C:=rP k [] mn j hT h rfl hS
theorem fQ (k:Nat) (h:pr TT n ops [] k [] L rest=some (L',rest',S)) (j:DJ ⟨P,r,n,B,w0⟩ ops D C F rest' L') (hS:k4 S:=by repeat' first|exact True.intro |refine gK ?_ ?_ |exact rfl|omega|(dsimp only; omega)) (hT:iA P TT:=by exact lz):DJ ⟨P,r,n,B,w0⟩ ops D C F rest L:=dP k [] mn j hT h rfl hS
end
end
section
open Go.RowKit
/-- parts of a context, reckoned to the end -/
def qW (C:List au):List Nat→Option (List au)
 |[]=>some []
 |i::is=>match C[i]? with
  |some A=>match qW C is with
   |some l=>some (A::l)
   |none=>none
  |none=>none
theorem se {C:List au}: ∀ {is:List Nat} {C':List au},qW C is=some C'→mM C is=C'
 |[],C',h=>by cases h; rfl
 |i::is,C',h=>by
  unfold qW at h
  split at h
  ·rename_i A hA
   split at h
   ·rename_i l hl
    cases h
    show List.filterMap (C[·]?) (i::is)=A::l
    rw [List.filterMap_cons_some hA]
    exact congrArg _ (se hl)
   ·cases h
  ·cases h
/-- a part of a context in place of the whole -/
theorem aN {S:BS} {w0:World} {C C':List au} (is:List Nat) (hn:decide is.Nodup=true:=by rfl) (hC:mM C is=C':=by rfl): ∀ w,St S w0 C w→St S w0 C' w:=fun w h=>St.mM is hn hC h
theorem B3 {S:BS} {w0:World} {C C':List au} (is:List Nat) (hC:qW C is=some C') (hn:decide is.Nodup=true:=by rfl): ∀ w,St S w0 C w→St S w0 C' w:=fun w h=>St.mM is hn (se hC) h
def CW (C:List au) (i:Nat) (B:au):Option (List au):=match i,C with
 |0,_::C=>some (B::C)
 |i+1,A::C=>match CW C i B with
  |some l=>some (A::l)
  |none=>none
 |_,[]=>none
theorem wH: ∀ {C:List au} {i:Nat} {B:au} {C':List au},CW C i B=some C'→C.set i B=C'
 |[],0,B,C',h=>by cases h
 |[],i+1,B,C',h=>by cases h
 |A::C,0,B,C',h=>by cases h; rfl
 |A::C,i+1,B,C',h=>by
  unfold CW at h
  split at h
  ·rename_i l hl
   cases h
   exact congrArg _ (wH hl)
  ·cases h
theorem qq {E:dW} {K:Act→World→Prop} {D:eU} {L:cG} {C C':List au} {A B:au} (i:Nat) (hC:C[i]? =some A) (hh:(∀ w,A.holds w→B.holds w)∧(∀ b,B.dG b→A.dG b)∧ ∀ b,B.wf b→A.wf b) (hC':CW C i B=some C') (h:KJ E K D L C'):KJ E K D L C:=Dg i hC hh (wH hC') h
/-- the operations of a region but these; marks of some places -/
def Fz (n:Nat) (T:List Nat):List Nat:=(List.range n).filter fun i=> !T.contains i
def Jj (k:Nat) (t:List Nat):List Bool:=(List.range k).map fun i=>t.contains i
theorem dK {E:dW} {id:Nat} {ops:Array Oper} {Q:cq} {D:eU} {L:cG} {C:List au} (hm:E.P.follows .mixedOrders=true) (T fe tb i1 i2:List Nat) {C' C1:List au} {free:List Nat} {feb tbb:List Bool}
 (h1:qW C i1=some C') (h2:qW C i2=some C1) (hf:free=Fz ops.size T) (hfe:feb=Jj free.length fe) (htb:tbb=Jj T.length tb)
 (h:lF E ops D C' C1 (fun L'=>TJ E ops D C' C1 (fun L C=>KJ E (Q .normal) D L C) tbb (dv ops T) L' C) feb (dv ops free) L)
 (hc:CG ops free T feb tbb=true:=by kernel_rfl) (n1:decide i1.Nodup=true:=by rfl) (n2:decide i2.Nodup=true:=by rfl):WJ E (.region id ops true) Q D L C:=
 Cq hm free T feb tbb C' C1 hc (B3 i1 h1 n1) (B3 i2 h2 n2) h
end
section
open Go.RowKit
def o_ (T:uG) (M:List (Nat×List Value)) (L:cG):List ResultVar→List Nat→Option (List Value×List Prop)
 |[],_=>some ([],[])
 | .tmp t::rs,hs=>match L.lookup t with
  |some v=>match o_ T M L rs hs with
   |some (vs,S)=>some (v::vs,S)
   |none=>none
  |none=>none
 | .cell a t::rs,hs=>match L.lookup a with
  |some (.pointer (some ⟨b,o,none⟩))=>match M[hs.headD 0]? with
   |some (b',cs)=>match T.AH t with
    |some (false,_)=>match cs[o]? with
     |some v=>match o_ T M L rs hs.tail with
      |some (vs,S)=>some (v::vs,(b'=b)::S)
      |none=>none
     |none=>none
    |some (true,n)=>match Nat.beq o 0 with
     |true=>match Nat.beq cs.length n with
      |true=>match o_ T M L rs hs.tail with
       |some (vs,S)=>some (.agg cs.toArray::vs,(b'=b)::S)
       |none=>none
      |false=>none
     |false=>match o_ T M L rs hs.tail with
      |some (vs,S)=>some (.agg ((cs.drop o).take n).toArray::vs,(b'=b)::(((cs.drop o).take n).length=n)::S)
      |none=>none
    |none=>none
   |none=>none
  |_=>none
theorem jR {P:Program} {T:uG} {M:List (Nat×List Value)} {L:cG} {C:List au} (hT:iA P T) (hM:MM C M): ∀ (rs:List ResultVar) (hs:List Nat) {vs:List Value} {S:List Prop},o_ T M L rs hs=some (vs,S)→k4 S→ya P L C rs vs
 |[],_,vs,S,h,hS=>by unfold o_ at h; cases h; exact trivial
 | .tmp t::rs,hs,vs,S,h,hS=>by
  unfold o_ at h
  split at h
  ·rename_i v hv
   split at h
   ·rename_i vs' S' hr
    cases h
    exact ⟨hv,jR hT hM rs hs hr hS⟩
   ·cases h
  ·cases h
 | .cell a t::rs,hs,vs,S,h,hS=>by
  unfold o_ at h
  split at h
  ·rename_i b o hl
   split at h
   ·rename_i b' cs hm
    have A:=aG hm
    split at h
    ·rename_i hk
     split at h
     ·rename_i v hv
      split at h
      ·rename_i vs' S' hr
       cases h
       obtain ⟨rfl,hS⟩:=hS
       exact ⟨⟨_,hl,.inr ⟨_,hT.AH hk,hM _ A _ _ (oV hv)⟩⟩,jR hT hM rs _ hr hS⟩
      ·cases h
     ·cases h
    ·rename_i n hk
     split at h
     ·rename_i ho
      split at h
      ·rename_i hn
       split at h
       ·rename_i vs' S' hr
        cases h
        obtain ⟨rfl,hS⟩:=hS
        have D:=Nat.eq_of_beq_eq_true ho
        subst D
        exact ⟨⟨_,hl,.inl ⟨_,cs,hT.AH hk,hM _ A 0 cs sm,Nat.eq_of_beq_eq_true hn,U⟩⟩,jR hT hM rs _ hr hS⟩
       ·cases h
      ·cases h
     ·split at h
      ·rename_i vs' S' hr
       cases h
       obtain ⟨rfl,B,hS⟩:=hS
       exact ⟨⟨_,hl,.inl ⟨_,_,hT.AH hk,hM _ A o _ (by rw [B]),B,U⟩⟩,jR hT hM rs _ hr hS⟩
      ·cases h
    ·cases h
   ·cases h
  ·cases h
section
variable {P:Program} {n:Nat} {fn:Func} {w0:World} {K:Act→World→Prop} {L:List (Nat×Value)} {C:List au} {M:List (Nat×List Value)} {vs:List Value} {S:List Prop} {u x v:Value}
theorem D7 (hQ: ∀ D L C,LJ ⟨P,none,n,nz,w0⟩ fn (uy w0 v) D L C→KJ ⟨P,none,n,nz,w0⟩ K D L C) (hs:List Nat) (hM:MM C M) (h:o_ TT M L fn.results.toList hs=some ([u],S)) (e:u=v) (hS:k4 S:=by repeat' first|exact True.intro |refine gK rfl ?_) (hT:iA P TT:=by exact lz):KJ ⟨P,none,n,nz,w0⟩ K [] L C:=
 hQ _ _ _ (fH (jR hT hM _ _ h hS) fun w hs=>xM e hs)
theorem l6 (hQ: ∀ D L C,LJ ⟨P,none,n,nz,w0⟩ fn (uy w0 v) D L C→KJ ⟨P,none,n,nz,w0⟩ K D L C) (hs:List Nat) (hM:MM C M) (h:o_ TT M L fn.results.toList hs=some (u::x::vs,S)) (e:Value.tuple (u::x::vs).toArray=v) (hS:k4 S:=by repeat' first|exact True.intro |refine gK rfl ?_) (hT:iA P TT:=by exact lz):KJ ⟨P,none,n,nz,w0⟩ K [] L C:=
 hQ _ _ _ (fH (jR hT hM _ _ h hS) fun w hs=>xM e hs)
theorem LX {α:Type} {V:α→Value} {p:α→Prop} {N:α→List au} (hQ: ∀ D L C,LJ ⟨P,none,n,nz,w0⟩ fn (Am w0 V p N) D L C→KJ ⟨P,none,n,nz,w0⟩ K D L C) (x:α) (is hs:List Nat) (hM:MM C M) (h:o_ TT M L fn.results.toList hs=some (vs,S)) (hw:(N x).all (·.wr)=true) (hN:mM C is=N x) (hV:Fm vs=V x) (hp:p x) (hn:decide is.Nodup=true:=by rfl) (hS:k4 S:=by repeat' first|exact True.intro |refine gK rfl ?_) (hT:iA P TT:=by exact lz):KJ ⟨P,none,n,nz,w0⟩ K [] L C:=
 hQ _ _ _ (fH (jR hT hM _ _ h hS) fun w hs=>BO x is hV hp hn hN hw hs)
theorem LM {A:au} {α:Type} {V:α→Value} {p:α→Prop} {A':α→au} (hQ: ∀ D L C,LJ ⟨P,none,n,⟨A.wf,fun _=>True⟩,w0⟩ fn (Cc w0 A V p A') D L C→KJ ⟨P,none,n,⟨A.wf,fun _=>True⟩,w0⟩ K D L C) (x:α) (i:Nat) (hs:List Nat) (hM:MM C M) (h:o_ TT M L fn.results.toList hs=some (vs,S)) (hw:(A' x).wr=true) (hC:C[i]? =some (A' x)) (hV:Fm vs=V x) (hp:p x) (hS:k4 S:=by repeat' exact True.intro) (hT:iA P TT:=by exact lz):KJ ⟨P,none,n,⟨A.wf,fun _=>True⟩,w0⟩ K [] L C:=
 hQ _ _ _ (fH (jR hT hM _ _ h hS) fun w hs=>Gr x i hV hp hC hw hs)
end
end
section
open Go.RowKit
def vK {α:Type _}:List α→List α→Option (List α)
 |[],m=>some m
 |a::l,m=>match vK l m with
  |some r=>some (a::r)
  |none=>none
theorem wT {α:Type _}: ∀ {l m r:List α},vK l m=some r→l++m=r
 |[],m,r,h=>by cases h; rfl
 |a::l,m,r,h=>by
  unfold vK at h
  split at h
  ·rename_i r' hr
   cases h
   exact congrArg (a:: ·) (wT hr)
  ·cases h
def HJ (L:cG):List Nat→Option (cG)
 |[]=>some []
 |t::ts=>match L.lookup t with
  |some v=>match HJ L ts with
   |some r=>some ((t,v)::r)
   |none=>none
  |none=>none
theorem wI {L M:cG} (k:cL L M): ∀ {ts:List Nat} {r:cG},HJ L ts=some r→cL L (r++M)
 |[],r,h=>by cases h; exact k
 |t::ts,r,h=>by
  unfold HJ at h
  split at h
  ·rename_i v hv
   split at h
   ·rename_i r' hr
    cases h
    exact cL.cons hv (wI k hr)
   ·cases h
  ·cases h
section
variable {E:dW} {Q:cq} {D:List Deferred} {L L0:List (Nat×Value)} {C C0:List au} {ι:Type} {Li:ι→List (Nat×Value)} {Ci:ι→List au}
theorem br {c:Code} (kL kC:List Nat) (hL:HJ L kL=some L0) (hC0:qW C kC=some C0) (S:ι→cG) (G:ι→List au) (hLi: ∀ x,vK L0 (S x)=some (Li x)) (hCi: ∀ x,vK C0 (G x)=some (Ci x)) (μ:ι→Nat) (x0:ι)
 (h0:cL L (S x0)) (hC: ∀ w,St E.S E.w0 C w→St E.S E.w0 (Ci x0) w)
 (round: ∀ x (J:Act→World→Prop),(∀ y D' L' C',D'=D→μ y<μ x→cL L' (Li y)→(∀ w,St E.S E.w0 C' w→St E.S E.w0 (Ci y) w)→KJ E J D' L' C')→WJ E c (Exit.then J Q) D (Li x) (Ci x)):WJ E (.loop c) Q D L C:=
 Eb Li Ci μ x0 (wT (hLi x0)▸wI h0 hL) hC round
theorem pt {x y:Code} (kL kC:List Nat) (hL:HJ L kL=some L0) (hC0:qW C kC=some C0) (S:ι→cG) (G:ι→List au) (hLi: ∀ x,vK L0 (S x)=some (Li x)) (hCi: ∀ x,vK C0 (G x)=some (Ci x))
 (hy: ∀ z,WJ E y Q D (Li z) (Ci z)) (h: ∀ K:Act→World→Prop,(∀ z,KJ E K D (Li z) (Ci z))→WJ E x (Exit.then K Q) D L C):WJ E (.seq x y) Q D L C:=Fl Li Ci hy h
end
end
section
/-- an entry of a square of 13 -/
def mt (M:List Int) (i k:Nat):Int:=(M[i*13+k]?).getD 0
section
variable {M M0:List Int} {n x i k a b:Nat} {v:Int}
theorem Gb (h:M.length=169) (hi:i<13) (hk:k<13):M[i*13+k]? =some (mt M i k):=by
 have:i*13+k<M.length:=by omega
 unfold mt; rw [eu this]; rfl
theorem lX (h:M.length=169) (hi:i<13) (hk:k<13) (ha:a<13) (hb:b<13):mt (M.set (i*13+k) v) a b=if a=i∧b=k then v else mt M a b:=by
 unfold mt
 by_cases q:a=i∧b=k
 ·obtain ⟨rfl,rfl⟩:=q
  rw [if_pos ⟨rfl,rfl⟩,List.getElem?_set_self om]; rfl
 ·rw [if_neg q,List.getElem?_set_ne om]
theorem vL:mt (List.replicate 169 0) i k=0:=by
 unfold mt; rw [List.getElem?_replicate]; split<;>rfl
/-- what is kept from one mark that was gone through to the next one -/
structure Cl (n x:Nat) (M:List Int):Prop where
 len:M.length=169
 dg: ∀ i,i<n→mt M i i=0
 cl: ∀ y,y<x→ ∀ i k,i<n→k<n→mt M i k≤mt M i y+mt M y k
 bd: ∀ i k,i<n→k<n→ -(1073741824*2^x)≤mt M i k∧mt M i k≤1073741824
def dZ (i k a b:Nat):Prop:=a<i∨(a=i∧b<k)
instance:Decidable (dZ i k a b):=by unfold dZ; infer_instance
/-- as far as one mark was gone through -/
structure Rd (n x:Nat) (M0 M:List Int) (i k:Nat):Prop where
 len:M.length=169
 at_: ∀ a b,a<n→b<n→mt M a b=if dZ i k a b then min (mt M0 a b) (mt M0 a x+mt M0 x b) else mt M0 a b
 dg: ∀ a,a<n→dZ i k a a→0≤mt M0 a x+mt M0 x a
theorem Rd.zero (h:M0.length=169):Rd n x M0 M0 0 0:=⟨h,fun a b _ _=>by rw [if_neg]; unfold dZ; omega,fun a _ q=>by unfold dZ at q; omega⟩
theorem Rd.row (h:Rd n x M0 M i n):Rd n x M0 M (i+1) 0:=⟨h.len,fun a b ha hb=>by
 rw [h.at_ a b ha hb]
 by_cases q:a<i+1
 ·rw [if_pos (show dZ i n a b by unfold dZ; omega),if_pos (show dZ (i+1) 0 a b by unfold dZ; omega)]
 ·rw [if_neg (show ¬ dZ i n a b by unfold dZ; omega),if_neg (show ¬ dZ (i+1) 0 a b by unfold dZ; omega)],fun a ha q=>h.dg a ha (by unfold dZ at q ⊢; omega)⟩
theorem Rd.left (hc:Cl n x M0) (hx:x<n) (h:Rd n x M0 M i k) (ha:a<n):mt M a x=mt M0 a x:=by
 rw [h.at_ a x ha hx,hc.dg x hx]; split<;>omega
theorem Rd.right (hc:Cl n x M0) (hx:x<n) (h:Rd n x M0 M i k) (hb:b<n):mt M x b=mt M0 x b:=by
 rw [h.at_ x b hx hb,hc.dg x hx]; split<;>omega
theorem Rd.here (h:Rd n x M0 M i k) (hi:i<n) (hk:k<n):mt M i k=mt M0 i k:=by
 rw [h.at_ i k hi hk,if_neg]; unfold dZ; omega
theorem Rd.bd (hc:Cl n x M0) (hx:x<n) (h:Rd n x M0 M i k) (ha:a<n) (hb:b<n): -(1073741824*2^(x+1))≤mt M a b∧mt M a b≤1073741824:=by
 rw [h.at_ a b ha hb,Int.pow_succ]
 have A:=hc.bd a b ha hb
 have B:=hc.bd a x ha hx
 have C:=hc.bd x b hx hb
 have D:(0:Int)<2^x:=Int.pow_pos dc
 generalize (2:Int)^x=p at *
 split<;>omega
theorem Rd.skip (hc:Cl n x M0) (hx:x<n) (h:Rd n x M0 M i k) (hi:i<n) (hk:k<n) (q: ¬ mt M i x+mt M x k<mt M i k):Rd n x M0 M i (k+1):=by
 rw [h.left hc hx hi,h.right hc hx hk,h.here hi hk] at q
 refine ⟨h.len,fun a b ha hb=>?_,fun a ha qd=>?_⟩
 ·rw [h.at_ a b ha hb]
  by_cases e:a=i∧b=k
  ·obtain ⟨rfl,rfl⟩:=e
   rw [if_neg (show ¬ dZ a b a b by unfold dZ; omega),if_pos (show dZ a (b+1) a b by unfold dZ; omega)]
   omega
  ·have:dZ i k a b↔dZ i (k+1) a b:=by unfold dZ; omega
   simp only [this]
 ·by_cases e:a=i∧a=k
  ·obtain ⟨rfl,rfl⟩:=e
   rw [hc.dg a ha] at q; omega
  ·exact h.dg a ha (by unfold dZ at qd ⊢; omega)
theorem Rd.put (hn:n≤13) (hc:Cl n x M0) (hx:x<n) (h:Rd n x M0 M i k) (hi:i<n) (hk:k<n) (q:mt M i x+mt M x k<mt M i k) (hik:i≠k) (hv:v=mt M i x+mt M x k):Rd n x M0 (M.set (i*13+k) v) i (k+1):=by
 subst hv
 have hl:=h.len
 rw [h.left hc hx hi,h.right hc hx hk,h.here hi hk] at q
 refine ⟨by rw [List.length_set]; exact hl,fun a b ha hb=>?_,fun a ha qd=>h.dg a ha (by unfold dZ at qd ⊢; omega)⟩
 rw [lX hl om om om om,h.left hc hx hi,h.right hc hx hk]
 by_cases e:a=i∧b=k
 ·obtain ⟨rfl,rfl⟩:=e
  rw [if_pos ⟨rfl,rfl⟩,if_pos (show dZ a (b+1) a b by unfold dZ; omega)]
  omega
 ·rw [if_neg e,h.at_ a b ha hb]
  have:dZ i k a b↔dZ i (k+1) a b:=by unfold dZ; omega
  simp only [this]
theorem Rd.done (hc:Cl n x M0) (hx:x<n) (h:Rd n x M0 M n 0):Cl n (x+1) M∧ ∀ a b,a<n→b<n→mt M a b≤mt M0 a b:=by
 have A: ∀ a b,a<n→b<n→mt M a b=min (mt M0 a b) (mt M0 a x+mt M0 x b):=fun a b ha hb=>by rw [h.at_ a b ha hb,if_pos]; unfold dZ; omega
 refine ⟨⟨h.len,fun i hi=>?_,fun y hy i k hi hk=>?_,fun i k hi hk=>h.bd hc hx hi hk⟩,fun a b ha hb=>by rw [A a b ha hb]; omega⟩
 ·have:=h.dg i hi (by unfold dZ; omega)
  rw [A i i hi hi,hc.dg i hi]; omega
 ·rcases Nat.lt_or_ge y x with c|c
  ·have B:y<n:=by omega
   rw [A i k hi hk,A i y hi B,A y k B hk]
   have C:=hc.cl y c i k hi hk
   have D:=hc.cl y c x k hx hk
   have F:=hc.cl y c i x hi hx
   have E:=hc.cl y c x x hx hx
   rw [hc.dg x hx] at E
   omega
  ·obtain rfl:y=x:=by omega
   have C:=h.left hc hx hi
   have D:=h.right hc hx hk
   rw [C,D,A i k hi hk]; omega
end
/-- two spans of a stretch -/
def mP (two:Bool) (x:ab):I:=bif two then x.dA else x.di
/-- no entry is too great, and those of stretches are known -/
structure Wd (n j:Nat) (two:Bool) (ts:List ab) (M:List Int):Prop where
 len:M.length=169
 dg: ∀ i,i<n→mt M i i=0
 bd: ∀ i k,i<n→k<n→ -1073741824≤mt M i k∧mt M i k≤1073741824
 st: ∀ t x,t<j→ts[t]? =some x→mt M t (t+1)≤(mP two x).Hi∧mt M (t+1) t≤ -(mP two x).Lo
section
variable {M:List Int} {n j i k:Nat} {two:Bool} {ts:List ab} {v:Int} {x:ab}
theorem Wd.zero:Wd n 0 two ts (List.replicate 169 0):=⟨List.length_replicate,fun i _=>vL,fun i k _ _=>by rw [vL]; omega,fun t x h=>absurd h (Nat.not_lt_zero _)⟩
/-- an entry for the first time -/
theorem Wd.fill (hn:n≤13) (h:Wd n 0 two ts M) (hi:i<n) (hk:k<n) (hik:i≠k) (hv: -1073741824≤v∧v≤1073741824):Wd n 0 two ts (M.set (i*13+k) v):=by
 have hl:=h.len
 refine ⟨by rw [List.length_set]; exact hl,fun a ha=>?_,fun a b ha hb=>?_,fun t x h=>absurd h (Nat.not_lt_zero _)⟩
 ·rw [lX hl om om om om,if_neg om]; exact h.dg a ha
 ·rw [lX hl om om om om]; split
  ·exact hv
  ·exact h.bd a b ha hb
/-- the span of a stretch -/
theorem Wd.wz (hn:n≤13) (h:Wd n j two ts M) (hj:j+1<n) (hx:ts[j]? =some x) {u v:Int} (hu:u=(mP two x).Hi) (hv:v= -(mP two x).Lo) (hb:(-1073741824≤u∧u≤1073741824)∧ -1073741824≤v∧v≤1073741824):
 Wd n (j+1) two ts ((M.set (j*13+(j+1)) u).set ((j+1)*13+j) v):=by
 have hl:=h.len
 have A:(M.set (j*13+(j+1)) u).length=169:=by rw [List.length_set]; exact hl
 have key: ∀ a b,a<n→b<n→mt ((M.set (j*13+(j+1)) u).set ((j+1)*13+j) v) a b=if a=j+1∧b=j then v else if a=j∧b=j+1 then u else mt M a b:=fun a b ha hb=>by
  rw [lX A om om om om,lX hl om om om om]
 refine ⟨by rw [List.length_set]; exact A,fun a ha=>?_,fun a b ha hb=>?_,fun t y ht hy=>?_⟩
 ·rw [key a a ha ha,if_neg om,if_neg om]; exact h.dg a ha
 ·rw [key a b ha hb]; split
  ·omega
  ·split
   ·omega
   ·exact h.bd a b ha hb
 ·rw [key _ _ om om,key _ _ om om]
  by_cases e:t=j
  ·subst e
   rw [hx] at hy; cases hy
   rw [if_neg om,if_pos ⟨rfl,rfl⟩,if_pos ⟨rfl,rfl⟩]; omega
  ·rw [if_neg om,if_neg om,if_neg om,if_neg om]
   exact h.st t y om hy
/-- an entry that gets less -/
theorem Wd.less (hn:n≤13) (h:Wd n j two ts M) (hi:i<n) (hk:k<n) (hj:j<n) (hik:i≠k) {w:Int} (hw: -1073741824≤w) (hv:v=min (mt M i k) w):Wd n j two ts (M.set (i*13+k) v):=by
 have hl:=h.len
 have key: ∀ a b,a<n→b<n→mt (M.set (i*13+k) v) a b≤mt M a b:=fun a b ha hb=>by
  rw [lX hl om om om om]; split
  ·rename_i q; obtain ⟨rfl,rfl⟩:=q; omega
  ·exact Int.le_refl _
 refine ⟨by rw [List.length_set]; exact hl,fun a ha=>?_,fun a b ha hb=>⟨?_,Int.le_trans (key a b ha hb) (h.bd a b ha hb).2⟩,fun t y ht hy=>?_⟩
 ·rw [lX hl om om om om,if_neg om]; exact h.dg a ha
 ·have:=h.bd i k hi hk
  rw [lX hl om om om om]; split
  ·omega
  ·exact (h.bd a b ha hb).1
 ·have A:=h.st t y ht hy
  exact ⟨Int.le_trans (key _ _ om om) A.1,Int.le_trans (key _ _ om om) A.2⟩
theorem Wd.cl (h:Wd n j two ts M):Cl n 0 M:=⟨h.len,h.dg,fun y hy=>absurd hy (Nat.not_lt_zero _),fun i k hi hk=>by have:=h.bd i k hi hk; simpa using this⟩
end
def rf (x y:I):Prop:=x.Lo≤y.Lo∧y.Lo≤y.Hi∧y.Hi≤x.Hi
/-- of the first stretches one span, or both, is narrower -/
structure eL (p q:Nat) (ts us:List ab):Prop where
 len:us.length=ts.length
 at_: ∀ (j:Nat) x y,ts[j]? =some x→us[j]? =some y→(y.Id=x.Id∧y.ct=x.ct∧y.cg=x.cg∧y.kF=x.kF)∧(if j<p then rf x.di y.di else y.di=x.di)∧(if j<q then rf x.dA y.dA else y.dA=x.dA)
/-- the square when all is said -/
structure rn (n:Nat) (two:Bool) (ts:List ab) (M:List Int):Prop where
 len:M.length=169
 at_: ∀ t x,ts[t]? =some x→t+1<n→mt M t (t+1)≤(mP two x).Hi∧mt M (t+1) t≤ -(mP two x).Lo∧0≤mt M t (t+1)+mt M (t+1) t
section
variable {M M0:List Int} {n j i k p q:Nat} {two:Bool} {ts us:List ab} {v:Int} {x y:ab}
theorem rn.of (h:Wd n ts.length two ts M0) (hc:Cl n n M) (hl: ∀ a b,a<n→b<n→mt M a b≤mt M0 a b):rn n two ts M:=⟨hc.len,fun t x hx ht=>by
 have B:=h.st t x (aV.1 hx).1 hx
 have C:=hl t (t+1) om ht
 have D:=hl (t+1) t ht om
 have A:=hc.cl (t+1) ht t t om om
 rw [hc.dg t om] at A
 omega⟩
theorem eL.zero:eL 0 0 ts ts:=⟨rfl,fun j x y hx hy=>by rw [hx] at hy; cases hy; exact ⟨⟨rfl,rfl,rfl,rfl⟩,by rw [if_neg om],by rw [if_neg om]⟩⟩
theorem eL.EI (h:eL p q ts us) (hx:ts[p]? =some x) (hy:us[p]? =some y) {s:I} (hs:rf x.di s):eL (p+1) q ts (us.set p {y with di:=s}):=by
 have hp:=(aV.1 hy).1
 refine ⟨by rw [List.length_set]; exact h.len,fun j a b ha hb=>?_⟩
 by_cases e:j=p
 ·subst e
  rw [List.getElem?_set_self hp] at hb; cases hb
  rw [hx] at ha; cases ha
  have A:=h.at_ j x y hx hy
  exact ⟨A.1,by rw [if_pos om]; exact hs,A.2.2⟩
 ·rw [List.getElem?_set_ne om] at hb
  have A:=h.at_ j a b ha hb
  refine ⟨A.1,?_,A.2.2⟩
  have B:=A.2.1
  by_cases c:j<p
  ·rw [if_pos om]; rw [if_pos c] at B; exact B
  ·rw [if_neg om]; rw [if_neg c] at B; exact B
theorem eL.E2 (h:eL p q ts us) (hx:ts[q]? =some x) (hy:us[q]? =some y) {s:I} (hs:rf x.dA s):eL p (q+1) ts (us.set q {y with dA:=s}):=by
 have hp:=(aV.1 hy).1
 refine ⟨by rw [List.length_set]; exact h.len,fun j a b ha hb=>?_⟩
 by_cases e:j=q
 ·subst e
  rw [List.getElem?_set_self hp] at hb; cases hb
  rw [hx] at ha; cases ha
  have A:=h.at_ j x y hx hy
  exact ⟨A.1,A.2.1,by rw [if_pos om]; exact hs⟩
 ·rw [List.getElem?_set_ne om] at hb
  have A:=h.at_ j a b ha hb
  refine ⟨A.1,A.2.1,?_⟩
  have B:=A.2.2
  by_cases c:j<q
  ·rw [if_pos om]; rw [if_pos c] at B; exact B
  ·rw [if_neg om]; rw [if_neg c] at B; exact B
/-- what is left is a track -/
theorem eL.ok (h:eL ts.length ts.length ts us) (hs: ∀ x∈ts,a_ x): ∀ y∈us,a_ y:=fun y hy=>by
 obtain ⟨j,hj⟩:=List.mem_iff_getElem?.1 hy
 have hl:=h.len
 have F:=(aV.1 hj).1
 have hx:ts[j]? =some (ts[j]'om):=eu om
 have G:=hs _ (aG hx)
 have A:=h.at_ j _ y hx hj
 rw [if_pos om,if_pos om] at A
 obtain ⟨⟨B,C,D,E⟩,a,b⟩:=A
 simp only [a_,aF,rf] at *
 rw [B,C,D,E]; omega
theorem mR: ∀ {ts us:List ab} {last:Int},us.length=ts.length→(∀ (j:Nat) x y,ts[j]? =some x→us[j]? =some y→y.Id=x.Id)→(∀ y∈us,a_ y)→cW last ts=true→cW last us=true
 |[],[],_,_,_,_,h=>h
 |[],y::us,_,hl,_,_,_=>by simp at hl
 |x::ts,[],_,hl,_,_,_=>by simp at hl
 |x::ts,y::us,last,hl,hid,hok,h=>by
  have e:=hid 0 x y rfl rfl
  simp only [cW,cZ,decide_eq_true_eq] at h ⊢
  refine ⟨⟨by rw [e]; exact h.1.1,hok y sm⟩,?_⟩
  rw [e]
  exact mR (by simpa using hl) (fun j a b ha hb=>hid (j+1) a b (by simpa using ha) (by simpa using hb)) (fun z hz=>hok z (by simp [hz])) h.2
theorem eL.tY (h:eL ts.length ts.length ts us) (hs: ∀ x∈ts,a_ x) (ht:a9 ts=true):a9 us=true:=by
 unfold a9 at ht ⊢
 rw [cZ] at ht ⊢
 exact ⟨by rw [h.len]; exact ht.1,mR h.len (fun j x y hx hy=>(h.at_ j x y hx hy).1.1) (h.ok hs) ht.2⟩
end
end
section
def fG (a b:I):I:=⟨a.Lo+b.Lo,a.Hi+b.Hi⟩
def gl:I:=⟨0,0⟩
def g7 (a:I) (l:List I):I:=l.foldl fG a
def iJ (z:I):Prop:=(-1000000000≤z.Lo∧z.Lo≤1000000000)∧ -1000000000≤z.Hi∧z.Hi≤1000000000
theorem rz {a:I} {l:List I} {i:Nat} {z:I} (h:l[i]? =some z):g7 a (l.take (i+1))=fG (g7 a (l.take i)) z:=by
 rw [List.take_add_one,h]; unfold g7; simp
theorem DY {a:I} {l:List I} (ha:iJ a) (hl: ∀ z∈l,iJ z): ∀ i:Nat,(-1000000000-1000000000*(i:Int)≤(g7 a (l.take i)).Lo∧(g7 a (l.take i)).Lo≤1000000000+1000000000*(i:Int))∧ -1000000000-1000000000*(i:Int)≤(g7 a (l.take i)).Hi∧(g7 a (l.take i)).Hi≤1000000000+1000000000*(i:Int):=by
 intro i
 induction i with
 |zero=>unfold iJ at ha; simp [g7]; omega
 |succ i ih=>
  cases h:l[i]? with
  |none=>rw [List.take_add_one,h]; simp only [Option.toList_none,List.append_nil]; omega
  |some z=>
   have hz:=hl z (aG h)
   unfold iJ at hz
   rw [rz h]
   simp only [fG]
   omega
theorem zS {a:I} {l:List I} {i:Nat} (h:l.length≤i):g7 a (l.take i)=g7 a l:=by rw [List.take_of_length_le h]
theorem jC {a z:I}:vA (I.cells (g7 a [z]))=vA (I.cells (fG a z)):=rfl
theorem t_ {a y z:I}:vA (I.cells (g7 a [y,z]))=vA (I.cells (fG (fG a y) z)):=rfl
/-- how long the run is from one mark, over so many stretches; by how much it falls -/
def bW (ts:List ab) (f:Nat):Nat→I
 |0=>gl
 |k+1=>match ts[f+k]? with
  |some x=>fG (bW ts f k) x.di
  |none=>bW ts f k
def ea (ts:List ab) (f:Nat):Nat→I
 |0=>gl
 |k+1=>match ts[f+k]? with
  |some x=>fG (ea ts f k) x.dA
  |none=>ea ts f k
theorem jK {ts:List ab} {f k:Nat} {x:ab} (h:ts[f+k]? =some x):bW ts f (k+1)=fG (bW ts f k) x.di:=by simp [bW,h]
theorem kY {ts:List ab} {f k:Nat} {x:ab} (h:ts[f+k]? =some x):ea ts f (k+1)=fG (ea ts f k) x.dA:=by simp [ea,h]
theorem fr {ts:List ab} (ht: ∀ x∈ts,a_ x) (f:Nat): ∀ k:Nat,(0≤(bW ts f k).Lo∧(bW ts f k).Lo≤(bW ts f k).Hi)∧(bW ts f k).Hi≤30000*(k:Int):=by
 intro k
 induction k with
 |zero=>simp [bW,gl]
 |succ k ih=>
  simp only [bW]
  cases h:ts[f+k]? with
  |none=>simp only; omega
  |some x=>
   have hx:=(ht x (aG h)).2.1
   simp only [aF] at hx
   simp only [fG]
   omega
theorem wx {ts:List ab} (ht: ∀ x∈ts,a_ x) (f:Nat): ∀ k:Nat,(0≤(ea ts f k).Lo∧(ea ts f k).Lo≤(ea ts f k).Hi)∧(ea ts f k).Hi≤5000*(k:Int):=by
 intro k
 induction k with
 |zero=>simp [ea,gl]
 |succ k ih=>
  simp only [ea]
  cases h:ts[f+k]? with
  |none=>simp only; omega
  |some x=>
   have hx:=(ht x (aG h)).2.2.1
   simp only [aF] at hx
   simp only [fG]
   omega
theorem lU {ts:List ab} (ht: ∀ x∈ts,a_ x) {f k:Nat} (hk:k≤13):iJ (bW ts f k):=by
 have:=fr ht f k; unfold iJ; omega
theorem pM {ts:List ab} (ht: ∀ x∈ts,a_ x) {f k:Nat} (hk:k≤13):iJ (ea ts f k):=by
 have:=wx ht f k; unfold iJ; omega
theorem oz {x:ab} (h:a_ x):iJ x.di:=by have:=h.2.1; simp only [aF] at this; unfold iJ; omega
theorem ot {x:ab} (h:a_ x):iJ x.dA:=by have:=h.2.2.1; simp only [aF] at this; unfold iJ; omega
theorem rI {ts:List ab} {f:Nat} {x:ab} (h:ts[f]? =some x):bW ts f 1=x.di:=by
 have:ts[f+0]? =some x:=by simpa using h
 rw [jK this]; simp [bW,fG,gl]
theorem er {ts:List ab} (h: ¬ (if a9 ts=true then (0:Int) else 10)=0):a9 ts=false∧(if a9 ts=true then (0:Int) else 10)=10:=by
 cases ht:a9 ts with
 |true=>rw [ht] at h; exact absurd rfl h
 |false=>exact ⟨rfl,rfl⟩
theorem qL {ts:List ab} (h:(if a9 ts=true then (0:Int) else 10)=0):a9 ts=true:=by
 cases ht:a9 ts with
 |true=>rfl
 |false=>rw [ht] at h; exact absurd h dc
/-- what the iterator of marks yields -/
def nS (ts:List ab) (f:Nat):List (List Value):=(List.range (ts.length-f+1)).map fun (k:Nat)=>[.agg (bW ts f k).cells.toArray,.agg (ea ts f k).cells.toArray]
theorem nQ {ts:List ab} {f:Nat}:(nS ts f).length=ts.length-f+1:=by simp [nS]
theorem rr {ts:List ab} {f k:Nat} (h:k≤ts.length-f):(nS ts f)[k]? =some [.agg (bW ts f k).cells.toArray,.agg (ea ts f k).cells.toArray]:=by
 simp [nS,List.getElem?_range (show k<ts.length-f+1 by omega)]
theorem x5 {ts:List ab} {f k:Nat} {x:List Value} (h:(nS ts f)[k]? =some x):k≤ts.length-f∧x=[.agg (bW ts f k).cells.toArray,.agg (ea ts f k).cells.toArray]:=by
 have hi:k<ts.length-f+1:=by
  have:=(aV.1 h).1
  simpa [nS] using this
 rw [rr om] at h
 exact ⟨om,(Option.some.inj h).symm⟩
theorem vd {ts:List ab} {f:Nat}: ∀ x∈nS ts f,x.length=2:=fun x hx=>by
 obtain ⟨k,_,rfl⟩:=cy.1 hx; rfl
def lB (ts:List ab) (f t:Int):Int:=if a9 ts=true then (if 0≤f∧f≤t∧t≤(ts.length:Int) then 0 else 2) else 10
def j2 (ts:List ab) (f t:Int):I:=if lB ts f t=0 then bW ts f.toNat (t-f).toNat else gl
def rj (ts:List ab) (f t:Int):I:=if lB ts f t=0 then ea ts f.toNat (t-f).toNat else gl
theorem mu {ts:List ab} {f t:Int} (h:a9 ts=false):lB ts f t=10∧j2 ts f t=gl∧rj ts f t=gl:=by
 have e:lB ts f t=10:=by unfold lB; rw [h]; rfl
 exact ⟨e,by unfold j2; rw [e]; rfl,by unfold rj; rw [e]; rfl⟩
theorem mB {ts:List ab} {f t:Int} (h:a9 ts=true) (h2: ¬ (0≤f∧f≤t∧t≤(ts.length:Int))):lB ts f t=2∧j2 ts f t=gl∧rj ts f t=gl:=by
 have e:lB ts f t=2:=by unfold lB; rw [if_pos h,if_neg h2]
 exact ⟨e,by unfold j2; rw [e]; rfl,by unfold rj; rw [e]; rfl⟩
theorem kE {ts:List ab} {f t:Int} (h:a9 ts=true) (h2:0≤f∧f≤t∧t≤(ts.length:Int)):lB ts f t=0∧j2 ts f t=bW ts f.toNat (t-f).toNat∧rj ts f t=ea ts f.toNat (t-f).toNat:=by
 have e:lB ts f t=0:=by unfold lB; rw [if_pos h,if_pos h2]
 exact ⟨e,if_pos e,if_pos e⟩
end
section
def cD (ts:List ab) (s:ae):Prop:=(0≤s.ax∧s.ax<(ts.length:Int))∧ ∃ x,ts[s.ax.toNat]? =some x∧aF s.hG 0 (x.di.Lo-1)
noncomputable instance (ts:List ab) (s:ae):Decidable (cD ts s):=Classical.propDecidable _
theorem tR {ts:List ab} {s:ae} {x:ab} (h:0≤s.ax∧s.ax<(ts.length:Int)) (hx:ts[s.ax.toNat]? =some x):cD ts s↔aF s.hG 0 (x.di.Lo-1):=
 ⟨fun A=>by obtain ⟨y,hy,B⟩:=A.2; rw [hx] at hy; cases hy; exact B,fun A=>⟨h,x,hx,A⟩⟩
theorem ti {ts:List ab} {s:ae} (h: ¬ (0≤s.ax∧s.ax<(ts.length:Int))): ¬ cD ts s:=fun A=>h A.1
theorem nb {ts:List ab} {s:ae} (ht: ∀ x∈ts,a_ x) (h:cD ts s):(0≤s.hG.Lo∧s.hG.Lo≤s.hG.Hi)∧s.hG.Hi≤30000:=by
 obtain ⟨x,hx,A⟩:=h.2
 have:=(ht x (aG hx)).2.1
 simp only [aF] at A this
 omega
theorem vu {ts:List ab} {a:ae}:vB (decide (∀ s∈[a],cD ts s))=vB (decide (cD ts a)):=congrArg _ (eH.2 sm)
theorem u3 {ts:List ab} {a b:ae}:vB (decide (∀ s∈[a,b],cD ts s))=vB (decide (cD ts a∧cD ts b)):=congrArg _ (eH.2 sm)
def ik (z:I):I:=⟨-z.Hi,-z.Lo⟩
def v7 (ts:List ab) (s:ae):I:=fG (bW ts 0 s.ax.toNat) s.hG
noncomputable def wB (ts:List ab) (s:ae):Int:=if a9 ts=true then (if cD ts s then 0 else 12) else 10
noncomputable def D0 (ts:List ab) (s:ae):I:=if wB ts s=0 then v7 ts s else gl
theorem AD {ts:List ab} {s:ae} (h:a9 ts=false):wB ts s=10∧D0 ts s=gl:=by
 have e:wB ts s=10:=by unfold wB; rw [h]; rfl
 exact ⟨e,by unfold D0; rw [e]; rfl⟩
theorem zl {ts:List ab} {s:ae} (h:a9 ts=true) (h2: ¬ cD ts s):wB ts s=12∧D0 ts s=gl:=by
 have e:wB ts s=12:=by unfold wB; rw [if_pos h,if_neg h2]
 exact ⟨e,by unfold D0; rw [e]; rfl⟩
theorem qn {ts:List ab} {s:ae} (h:a9 ts=true) (h2:cD ts s):wB ts s=0∧D0 ts s=v7 ts s:=by
 have e:wB ts s=0:=by unfold wB; rw [if_pos h,if_pos h2]
 exact ⟨e,if_pos e⟩
theorem sh {ts:List ab} {s:ae} (h:a9 ts=true):wB ts s=0↔cD ts s:=by
 unfold wB; rw [if_pos h]; split<;>simp [*]
def mL (ts:List ab) (a b:ae):I:=bW ts (min a.ax b.ax).toNat (max a.ax b.ax-min a.ax b.ax).toNat
def dQ (ts:List ab) (a b:ae):I:=fG (fG (if b.ax<a.ax then ik (mL ts a b) else mL ts a b) b.hG) (ik a.hG)
noncomputable def iQ (ts:List ab) (a b:ae):Int:=if a9 ts=true then (if cD ts a∧cD ts b then 0 else 12) else 10
noncomputable def eb (ts:List ab) (a b:ae):I:=if iQ ts a b=0 then dQ ts a b else gl
theorem oc {ts:List ab} {a b:ae} (h:a9 ts=false):iQ ts a b=10∧eb ts a b=gl:=by
 have e:iQ ts a b=10:=by unfold iQ; rw [h]; rfl
 exact ⟨e,by unfold eb; rw [e]; rfl⟩
theorem kJ {ts:List ab} {a b:ae} (h:a9 ts=true) (h2: ¬ (cD ts a∧cD ts b)):iQ ts a b=12∧eb ts a b=gl:=by
 have e:iQ ts a b=12:=by unfold iQ; rw [if_pos h,if_neg h2]
 exact ⟨e,by unfold eb; rw [e]; rfl⟩
theorem fR {ts:List ab} {a b:ae} (h:a9 ts=true) (h2:cD ts a∧cD ts b):iQ ts a b=0∧eb ts a b=dQ ts a b:=by
 have e:iQ ts a b=0:=by unfold iQ; rw [if_pos h,if_pos h2]
 exact ⟨e,if_pos e⟩
theorem sQ {z:I} (h:iJ z):iJ (ik z):=by unfold iJ ik at *; simp only; omega
theorem lS {ts:List ab} {s:ae} (ht: ∀ x∈ts,a_ x) (h:cD ts s):iJ s.hG:=by have:=nb ht h; unfold iJ; omega
theorem Ed {ts:List ab} {a b:ae} (ht: ∀ x∈ts,a_ x) (hl:ts.length≤12) (ha:cD ts a) (hb:cD ts b):(0≤(mL ts a b).Lo∧(mL ts a b).Lo≤(mL ts a b).Hi)∧(mL ts a b).Hi≤360000:=by
 have h:=fr ht (min a.ax b.ax).toNat (max a.ax b.ax-min a.ax b.ax).toNat
 have A:=ha.1
 have B:=hb.1
 unfold mL
 omega
theorem ku {ts:List ab} {a b:ae} (ht: ∀ x∈ts,a_ x) (hl:ts.length≤12) (ha:cD ts a) (hb:cD ts b):(-400000≤(dQ ts a b).Lo∧(dQ ts a b).Lo≤(dQ ts a b).Hi)∧(dQ ts a b).Hi≤400000:=by
 have h:=Ed ht hl ha hb
 have A:=nb ht ha
 have B:=nb ht hb
 unfold dQ fG ik
 split<;>simp only <;>omega
theorem Fv {ts:List ab} {s:ae} (ht: ∀ x∈ts,a_ x) (hl:ts.length≤12) (h:cD ts s):(0≤(v7 ts s).Lo∧(v7 ts s).Lo≤(v7 ts s).Hi)∧(v7 ts s).Hi≤400000:=by
 have A:=fr ht 0 s.ax.toNat
 have B:=nb ht h
 have C:=h.1
 unfold v7 fG
 simp only; omega
theorem xw {α:Type} {p:Nat→α→Bool} {l:List α}:((l.zipIdx.filter fun q=>p q.2 q.1).map fun q=>(q.2:Int))=[]↔ ∀ (i:Nat) x,l[i]? =some x→p i x=false:=by
 rw [List.map_eq_nil_iff,List.filter_eq_nil_iff]
 constructor
 ·intro h i x hx
  have:=h (x,i) (by rw [List.mem_zipIdx_iff_getElem?]; simpa using hx)
  simpa using this
 ·rintro h ⟨x,i⟩ hm
  rw [List.mem_zipIdx_iff_getElem?] at hm
  simpa using h i x (by simpa using hm)
/-- the places of a list at which something is so -/
def nm {α:Type} (p:Nat→α→Bool) (l:List α) (n:Nat):List Int:=(((l.take n).zipIdx.filter fun q=>p q.2 q.1).map fun q=>(q.2:Int))
theorem yU {α:Type} {p:Nat→α→Bool} {l:List α} {i:Nat} {x:α} (hx:l[i]? =some x) (h:p i x=true):nm p l (i+1)=nm p l i++[(i:Int)]:=by
 have hi:=(aV.1 hx).1
 unfold nm
 rw [List.take_add_one,hx,List.zipIdx_append,List.filter_append,List.map_append]
 simp [Nat.min_eq_left (Nat.le_of_lt hi),h]
theorem B_ {α:Type} {p:Nat→α→Bool} {l:List α} {i:Nat} {x:α} (hx:l[i]? =some x) (h:p i x=false):nm p l (i+1)=nm p l i:=by
 have hi:=(aV.1 hx).1
 unfold nm
 rw [List.take_add_one,hx,List.zipIdx_append,List.filter_append,List.map_append]
 simp [Nat.min_eq_left (Nat.le_of_lt hi),h]
theorem uw {α:Type} {p:Nat→α→Bool} {l:List α} {n:Nat}:(nm p l n).length≤n:=by
 unfold nm
 rw [List.length_map]
 refine Nat.le_trans (List.length_filter_le _ _) ?_
 rw [List.length_zipIdx,List.length_take]; omega
def Az {α:Type} (p:Nat→α→Bool) (l:List α):List Int:=nm p l l.length
theorem Ca {α:Type} {p:Nat→α→Bool} {l:List α} {n:Nat} (h:n=l.length):nm p l n=Az p l:=by rw [h]; rfl
theorem xp {α:Type} {p:Nat→α→Bool} {l:List α}:(Az p l).length=0↔ ∀ (i:Nat) x,l[i]? =some x→p i x=false:=by
 unfold Az nm
 rw [List.length_eq_zero_iff,List.take_length]
 exact xw
end
section
def kI (a b:I):Prop:=b.Lo≤a.Lo∧a.Hi≤b.Hi
section
variable {ts us:List ab} {f k i:Nat} {x:ab}
theorem eL.two (h:eL ts.length ts.length ts us) (hx:ts[i]? =some x): ∃ y,us[i]? =some y∧kI y.di x.di∧y.ct=x.ct:=by
 have hi:=(aV.1 hx).1
 have hl:=h.len
 have hy:us[i]? =some (us[i]'om):=eu om
 have A:=h.at_ i x _ hx hy
 rw [if_pos hi,if_pos hi] at A
 exact ⟨_,hy,⟨A.2.1.1,A.2.1.2.2⟩,A.1.2.1⟩
theorem eL.Ay (h:eL ts.length ts.length ts us) (hs: ∀ x∈ts,0≤x.ct∧x.ct≤255): ∀ y∈us,0≤y.ct∧y.ct≤255:=fun y hy=>by
 obtain ⟨j,hj⟩:=List.mem_iff_getElem?.1 hy
 have hl:=h.len
 have A:=(aV.1 hj).1
 have hx:ts[j]? =some (ts[j]'om):=eu om
 rw [(h.at_ j _ y hx hj).1.2.1]
 exact hs _ (aG hx)
theorem lL (h:eL ts.length ts.length ts us): ∀ k:Nat,kI (bW us f k) (bW ts f k)
 |0=>⟨Int.le_refl _,Int.le_refl _⟩
 |k+1=>by
  have ih:=lL h k
  simp only [bW]
  cases hx:ts[f+k]? with
  |none=>
   have hl:=h.len
   have:us[f+k]? =none:=List.getElem?_eq_none (by have:=List.getElem?_eq_none_iff.1 hx; omega)
   rw [this]; exact ih
  |some x=>
   obtain ⟨y,hy,hl,_⟩:=h.two hx
   rw [hy]
   simp only [kI,fG] at *
   omega
theorem qj (h:eL ts.length ts.length ts us) {s:ae} (hs:cD ts s):cD us s:=by
 obtain ⟨A,x,hx,B⟩:=hs
 obtain ⟨y,hy,hl,_⟩:=h.two hx
 refine ⟨by rw [h.len]; exact A,y,hy,?_⟩
 simp only [aF,kI] at *
 omega
theorem CA (h:eL ts.length ts.length ts us) {a b:ae}:kI (mL us a b) (mL ts a b):=by
 unfold mL
 exact lL h _
theorem rF (h:eL ts.length ts.length ts us) {a b:ae}:kI (dQ us a b) (dQ ts a b):=by
 have A:=CA h (a:=a) (b:=b)
 unfold dQ
 split
 ·simp only [kI,fG,ik] at *; omega
 ·simp only [kI,fG,ik] at *; omega
theorem EC (h:eL ts.length ts.length ts us) {s:ae}:kI (v7 us s) (v7 ts s):=by
 have A:=lL h (f:=0) s.ax.toNat
 unfold v7
 simp only [kI,fG] at *
 omega
end
end
section
theorem zY {a w w':Int} (ha:0≤a) (hw:0<w) (h:w≤w'):a/w'≤a/w:=by
 have hw':0<w':=by omega
 rw [Int.le_ediv_iff_mul_le hw]
 have A:0≤a/w':=Int.ediv_nonneg ha om
 exact Int.le_trans (Int.mul_le_mul_of_nonneg_left h A) (Int.ediv_mul_le a om)
end
section
def CE (n by_:Int):Int:=(n+by_-1)/by_
def gT (c:bK) (i:Nat):Int:=if i=0 then-1 else ((c.bO[i-1]?).map (·.At)).getD 0
def dR (c:bK) (i:Nat) (x:dN):Prop:=(gT c i<x.At∧x.At≤86400000)∧ -10000≤x.fX.Lo∧x.fX.Lo≤x.fX.Hi∧x.fX.Hi≤10000
def kl (c:bK) (x o:dN):Prop:=x.fX.Lo-o.fX.Hi≤CE (c.gp*(x.At-o.At)) 1000000∧o.fX.Lo-x.fX.Hi≤CE (c.gp*(x.At-o.At)) 1000000
structure fj (c:bK):Prop where
 zX:0≤c.gp∧c.gp≤1000
 len:1≤c.bO.length∧c.bO.length≤5
 sync: ∀ (i:Nat) x,c.bO[i]? =some x→dR c i x
 pair: ∀ (i k:Nat) x o,c.bO[i]? =some x→k<i→c.bO[k]? =some o→kl c x o
noncomputable instance (c:bK):Decidable (fj c):=Classical.propDecidable _
theorem ek {c:bK} {i:Nat} (h:i=0):gT c i= -1:=if_pos h
theorem pJ {c:bK} {i:Nat} {y:dN} (h:0<i) (hy:c.bO[i-1]? =some y):gT c i=y.At:=by unfold gT; rw [if_neg om,hy]; rfl
theorem me {c:bK} {i:Nat} {y:dN} (hy:c.bO[i]? =some y):gT c (i+1)=y.At:=by unfold gT; rw [if_neg om,Nat.add_sub_cancel,hy]; rfl
noncomputable def jx (l:dk) (i:Nat):Int:=match l.ck[i]? with
 |some b=>if i=0 then (v7 l.ak b.de).Lo else (match l.ck[i-1]? with
  |some a=>(dQ l.ak a.de b.de).Lo
  |none=>0)
 |none=>0
theorem oB {l:dk} {b:dU} (h:l.ck[0]? =some b):jx l 0=(v7 l.ak b.de).Lo:=by unfold jx; rw [h]; rfl
theorem ue {l:dk} {i:Nat} {a b:dU} (hi:0<i) (h:l.ck[i]? =some b) (ha:l.ck[i-1]? =some a):jx l i=(dQ l.ak a.de b.de).Lo:=by unfold jx; rw [h,ha]; simp only; rw [if_neg om]
def gG (l:dk) (b:dU):Prop:=cD l.ak b.de∧0≤b.pI∧b.pI<(l.dy.length:Int)
def ff (l:dk):Prop:=(1≤l.nx∧l.nx≤5000)∧(1≤(l.dy.length:Int)∧(l.dy.length:Int)≤4)∧(1≤(l.ck.length:Int)∧(l.ck.length:Int)≤6)∧(0≤l.kU∧l.kU≤(l.ck.length:Int)-1)∧(0≤l.nE∧l.nE≤3)∧0≤l.lj∧l.lj≤3
structure m_ (l:dk):Prop where
 head:ff l
 clock: ∀ c∈l.dy,fj c
 xy: ∀ b∈l.ck,gG l b
 HL: ∀ i,i<l.ck.length→1≤jx l i
noncomputable instance (l:dk):Decidable (m_ l):=Classical.propDecidable _
noncomputable def gP (l:dk):Int:=if a9 l.ak=true then (if m_ l then 0 else 50) else 10
theorem rD {l:dk} (h:a9 l.ak=false):gP l=10:=by unfold gP; rw [h]; rfl
theorem lV {l:dk} (h:a9 l.ak=true) (h2: ¬ m_ l):gP l=50:=by unfold gP; rw [if_pos h,if_neg h2]
theorem nR {l:dk} (h:a9 l.ak=true) (h2:m_ l):gP l=0:=by unfold gP; rw [if_pos h,if_pos h2]
theorem ni {l:dk} (h:gP l=0):a9 l.ak=true∧m_ l:=by
 unfold gP at h
 split at h
 ·split at h
  ·exact ⟨asm,asm⟩
  ·omega
 ·omega
theorem G5 {l:dk} (ht:a9 l.ak=true) (hb: ∀ b∈l.ck,gG l b) (i:Nat): -400000≤jx l i∧jx l i≤400000:=by
 have A:=bT ht
 have hl:=cw ht
 unfold jx
 cases h:l.ck[i]? with
 |none=>simp
 |some b=>
  have B:=(hb b (aG h)).1
  simp only
  split
  ·have:=Fv A hl B; omega
  ·cases h2:l.ck[i-1]? with
   |none=>simp
   |some a=>
    have C:=(hb a (aG h2)).1
    have:=ku A hl C B
    simp only; omega
noncomputable def qs (l:dk) (i:Nat):Int:=CE (1000*jx l i) l.nx
end
section
open Go.RowKit
def sS (n:Int):Int:=IntKind.i64.wrap n
theorem sr {n:Int} (h:lQ n):sS n=n:=gM h
theorem FB (n:Int): -9223372036854775808≤sS n∧sS n≤9223372036854775807:=by
 unfold sS
 rw [IntKind.wrap_i64]
 omega
section
variable {P:Program} {t:TypeId} {x y:Operand} {a b:Int}
theorem DW:ew P .add t x y (.int .i64 a) (.int .i64 b) (.int .i64 (sS (a+b))):=fun w=>by simp [eqGuard_add,binOp_add,Op.intArith,sS]
theorem Aa:ew P .sub t x y (.int .i64 a) (.int .i64 b) (.int .i64 (sS (a-b))):=fun w=>by simp [eqGuard_sub,binOp_sub,Op.intArith,sS]
theorem EP:ew P .mul t x y (.int .i64 a) (.int .i64 b) (.int .i64 (sS (a*b))):=fun w=>by simp [eqGuard_mul,binOp_mul,Op.intArith,sS]
end
/-- divided, and rounded up, as it comes out -/
def Gi (n by_:Int):Int:=(sS (sS (n+by_)-1)).tdiv by_
theorem Ey {a b:Int} (ha: -9223372036854775808≤a∧a≤9223372036854775807) (hb:2≤b):lQ (a.tdiv b):=by
 have A:a.tdiv b=a/b+if a % b≠0∧a<0 then 1 else 0:=by
  rcases Int.lt_or_le a 0 with h|h
  ·rw [Int.tdiv_eq_ediv]
   have:b.sign=1:=Int.sign_eq_one_of_pos om
   rw [this]
   by_cases hd:b∣a
   ·have:a % b=0:=Int.emod_eq_zero_of_dvd hd
    simp [hd,this]
   ·have:a % b≠0:=fun e=>hd (Int.dvd_of_emod_eq_zero e)
    have hn: ¬ 0≤a:=by omega
    simp [hd,this,h,hn]
  ·rw [Int.tdiv_eq_ediv_of_nonneg h]
   have: ¬ a<0:=by omega
   simp [this]
 have B:a/b*b+a % b=a:=by rw [Int.mul_comm]; exact Int.mul_ediv_add_emod a b
 have C:0≤a % b:=Int.emod_nonneg _ om
 have D:a % b<b:=Int.emod_lt_of_pos _ om
 have E: -9223372036854775808≤a/b∧a/b≤4611686018427387904:=by
  constructor
  ·refine Int.le_ediv_of_mul_le om ?_
   have:(-9223372036854775808:Int)*b≤ -9223372036854775808*1:=Int.mul_le_mul_of_nonpos_left om om
   omega
  ·refine Int.ediv_le_of_le_mul om ?_
   have:(4611686018427387904:Int)*2≤4611686018427387904*b:=Int.mul_le_mul_of_nonneg_left hb om
   omega
 rw [A]
 unfold lQ
 split<;>omega
theorem Fj {n by_:Int} (h0:0≤n) (h1:n≤1000000000000000000) (hb:1≤by_∧by_≤1000000000000):Gi n by_=(n+by_-1)/by_:=by
 unfold Gi
 rw [sr (show lQ (n+by_) from ⟨om,om⟩),sr (show lQ (n+by_-1) from ⟨om,om⟩),Int.tdiv_eq_ediv_of_nonneg om]
end
section
open Go.RowKit
/-- where a row lies, and its capacity -/
abbrev RA:=OA×Nat
/-- what is asked of memory by all elements -/
def ei {M A:Type} (f:M→A→List au):List M→List A→List au
 |m::ms,a::asl=>f m a++ei f ms asl
 |_,_=>[]
theorem cR {M A:Type} {f:M→A→List au}: ∀ {ms:List M} {asl:List A} {k:Nat} {m:M} {a:A} {X:au},ms[k]? =some m→asl[k]? =some a→X∈f m a→X∈ei f ms asl
 |[],_,k,m,a,X,h,_,_=>by simp at h
 |_::_,[],k,m,a,X,_,h,_=>by simp at h
 |x::ms,y::asl,0,m,a,X,h,h2,hX=>by
  simp at h h2; subst h h2
  exact List.mem_append_left _ hX
 |x::ms,y::asl,k+1,m,a,X,h,h2,hX=>List.mem_append_right _ (cR (ms:=ms) (asl:=asl) (k:=k) (by simpa using h) (by simpa using h2) hX)
theorem nM {M A:Type} {f:M→A→List au}: ∀ {ms:List M} {asl:List A} {X:au},X∈ei f ms asl→ ∃ (k:Nat) (m:M) (a:A),ms[k]? =some m∧asl[k]? =some a∧X∈f m a
 |[],_,X,h=>by cases h
 |_::_,[],X,h=>by cases h
 |x::ms,y::asl,X,h=>by
  rcases e9.1 h with h|h
  ·exact ⟨0,x,y,U,U,h⟩
  ·obtain ⟨k,m,a,B,C,D⟩:=nM h
   exact ⟨k+1,m,a,by simpa using B,by simpa using C,D⟩
theorem oO {M A:Type} {f:M→A→List au}: ∀ {ms:List M} {asl:List A} {ns:List M} {bs:List A},ms.length=asl.length→ei f (ms++ns) (asl++bs)=ei f ms asl++ei f ns bs
 |[],[],ns,bs,_=>rfl
 |[],_::_,ns,bs,h=>by simp at h
 |_::_,[],ns,bs,h=>by simp at h
 |x::ms,y::asl,ns,bs,h=>by
  simp only [List.cons_append,ei,List.append_assoc]
  rw [oO (by simpa using h)]
theorem jv {M A β:Type} {f:M→A→β} {ms:List M} {asl:List A} {k:Nat} {m:M} {a:A} (h:ms[k]? =some m) (h2:asl[k]? =some a):(List.zipWith f ms asl)[k]? =some (f m a):=by
 rw [List.getElem?_zipWith,h,h2]
theorem dD {C L:List au} {A:au} (i:Nat) (hC:C[i]? =some (ky L).ro) (hm:A∈L):iK C A.holds:=fun w hw=>hw _ (aG hC) A hm
theorem jf {M A:Type} {f g:M→A→List au} {ms:List M} {asl:List A} {C:List au} (i:Nat) (hC:C[i]? =some (eB (ei g ms asl))) (h: ∀ m a w,(∀ X∈g m a,X.holds w)→ ∀ X∈f m a,X.holds w):iK C (ky (ei f ms asl)).holds:=fun w hw X hX=>by
 have hb:=hw _ (aG hC)
 obtain ⟨k,m,a,B,D,E⟩:=nM hX
 exact h m a w (fun Y hY=>hb.1 Y (cR B D hY)) X E
/-- a row that is part of another one -/
theorem Bu {C:List au} {A:OA} {n k sz:Nat} {es:List (List Value)} (hR:iK C (rd A n sz es).holds) (hk:k≤n):iK C (rd A k sz (es.take k)).holds:=fun w hw=>by
 obtain ⟨D,E,F⟩:=hR w hw
 refine ⟨by rw [List.length_take,D]; omega,fun x hx=>E x (List.mem_of_mem_take hx),fun hp=>?_⟩
 have G:0<k:=Nat.pos_of_mul_pos_right hp
 have hs:0<sz:=Nat.pos_of_mul_pos_left hp
 obtain ⟨ad,hA,B⟩:=F (Nat.mul_pos om hs)
 refine ⟨ad,hA,fun i e j v he hv=>B i e j v ?_ hv⟩
 rw [List.getElem?_take] at he
 split at he
 ·exact he
 ·cases he
section
variable {E:dW} {ops:Array Oper} {Q:cq} {rest:List Oper} {D:List Deferred} {L:List (Nat×Value)} {C:List au}
variable {d:Nat} {ty:TypeId} {ps:String} {af:Array Edge} {g:Option (Nat×Bool)}
/-- an element of a slice that is the head of a row -/
theorem JN (k:Nat) {x ix:Operand} {A:OA} {n n' c sz e t:Nat} {es:List (List Value)} {j:Int} (h:bF E.n ops L d g x ix=some (.slice A n' c,.int .i64 j)) (hR:iK C (rd A n sz es).holds)
 (ht:tE E.P t=some (e,sz)) (hz:0<sz) (hj:j=(k:Int)) (hk:k<n') (hn:n'≤n):SE E ops ⟨some d,.indexAddr t x ix,ty,ps,af,g⟩ D L C (.pointer (gN A (k*sz))) d:=IA k h (Bu hR hn) ht hz hj hk
end
theorem St.tie {S:BS} {w0 w:World} {C:List au} {A:au} {L L':List au} (h:St S w0 (A::eB L::C) w) (e:L++[A]=L'):St S w0 (eB L'::C) w:=by
 subst e
 have B:St S w0 (eB L::A::C) w:=h.perm (List.Perm.swap _ _ _)
 have D:St S w0 (L++(A::C)) w:=B.qo
 have E:St S w0 ((L++[A])++C) w:=by simpa using D
 exact E.xc
theorem St.GD {S:BS} {w0 w:World} {C:List au} (h:St S w0 C w):St S w0 (eB []::C) w:=St.xc (C1:=[]) h
section
variable {E:dW} {Q:cq} {D:List Deferred} {L:List (Nat×Value)} {C:List au}
theorem yR {c:Code} (h:WJ E c Q D L (eB []::C)):WJ E c Q D L C:=fun a w hf hs=>h a w hf hs.GD
theorem uU {ops:Array Oper} {rest:List Oper} (h:RJ E ops Q rest D L (eB []::C)):RJ E ops Q rest D L C:=fun a w hf hs=>h a w hf hs.GD
theorem FY {K:Act→World→Prop} {C1:List au} {A:au} {X X':List au} (i j:Nat) (hn:decide (j::i::(List.range C.length).filter fun k=>k != i&&k != j).Nodup=true) (hC:mM C (j::i::(List.range C.length).filter fun k=>k != i&&k != j)=A::eB X::C1) (e:X++[A]=X')
 (h:KJ E K D L (eB X'::C1)):KJ E K D L C:=fun a w hf hs=>h a w hf ((St.mM _ hn hC hs).tie e)
theorem yO {ops:Array Oper} {rest:List Oper} {C1:List au} {A:au} {X X':List au} (i j:Nat) (hn:decide (j::i::(List.range C.length).filter fun k=>k != i&&k != j).Nodup=true) (hC:mM C (j::i::(List.range C.length).filter fun k=>k != i&&k != j)=A::eB X::C1) (e:X++[A]=X')
 (h:RJ E ops Q rest D L (eB X'::C1)):RJ E ops Q rest D L C:=fun a w hf hs=>h a w hf ((St.mM _ hn hC hs).tie e)
end
abbrev zO (l:dk) (kA:Option Addr) (az:List RA) (cA bA:Option Addr):List au:=[(rd kA l.ak.length 9 (l.ak.map ab.cells)),(rd cA l.dy.length 2 (List.zipWith bK.cells l.dy az)),(ky (ei bK.Bf l.dy az)),(rd bA l.ck.length 4 (l.ck.map dU.cells))]
end
section
def iS (c:bK) (i:Nat) (x:dN) (k:Nat):Prop:=dR c i x∧ ∀ (j:Nat) o,j<k→c.bO[j]? =some o→kl c x o
def mX (c:bK) (n:Nat):Prop:= ∀ (i:Nat) x,i<n→c.bO[i]? =some x→iS c i x i
noncomputable instance (c:bK) (i:Nat) (x:dN) (k:Nat):Decidable (iS c i x k):=Classical.propDecidable _
instance (c:bK) (i:Nat) (x:dN):Decidable (dR c i x):=by unfold dR; infer_instance
theorem vH {c:bK} {i:Nat} {x:dN}:iS c i x 0↔dR c i x:=⟨fun h=>h.1,fun h=>⟨h,fun j o hj=>by omega⟩⟩
theorem mV {c:bK} {i k:Nat} {x o:dN} (h:c.bO[k]? =some o):iS c i x (k+1)↔iS c i x k∧kl c x o:=by
 constructor
 ·intro hr
  exact ⟨⟨hr.1,fun j o' hj ho=>hr.2 j o' om ho⟩,hr.2 k o om h⟩
 ·rintro ⟨hr,hp⟩
  refine ⟨hr.1,fun j o' hj ho=>?_⟩
  by_cases e:j=k
  ·subst e; rw [h] at ho; cases ho; exact hp
  ·exact hr.2 j o' om ho
theorem x3 {c:bK}:mX c 0:=fun i x hi=>by omega
theorem xK {c:bK} {i:Nat} {x:dN} (h:mX c i) (hx:c.bO[i]? =some x) (hr:iS c i x i):mX c (i+1):=fun j y hj hy=>by
 by_cases e:j=i
 ·subst e; rw [hx] at hy; cases hy; exact hr
 ·exact h j y om hy
theorem As {c:bK} {i:Nat} {x:dN} (hx:c.bO[i]? =some x) (h: ¬ iS c i x i): ¬ fj c:=fun hc=>h ⟨hc.sync i x hx,fun j o hj ho=>hc.pair i j x o hx hj ho⟩
theorem xo {c:bK} (h1:0≤c.gp∧c.gp≤1000) (h2:1≤c.bO.length∧c.bO.length≤5) (h:mX c c.bO.length):fj c:=
 ⟨h1,h2,fun i x hx=>(h i x (aV.1 hx).1 hx).1,fun i k x o hx hk ho=>(h i x (aV.1 hx).1 hx).2 k o hk ho⟩
/-- syncs so far -/
theorem oI {c:bK} {n:Nat} (h: ∀ (i:Nat) x,i<n→c.bO[i]? =some x→dR c i x): ∀ (i:Nat) x,i<n→c.bO[i]? =some x→0≤x.At∧ ∀ (k:Nat) o,k<i→c.bO[k]? =some o→o.At<x.At:=by
 intro i
 induction i with
 |zero=>
  intro x hn hx
  have:=(h 0 x hn hx).1.1
  rw [ek rfl] at this
  exact ⟨om,fun k o hk=>by omega⟩
 |succ i ih=>
  intro x hn hx
  have hi:=(aV.1 hx).1
  have hy:c.bO[i]? =some (c.bO[i]'om):=eu om
  have B:=ih _ om hy
  have A:=(h (i+1) x hn hx).1.1
  rw [me hy] at A
  refine ⟨om,fun k o hk ho=>?_⟩
  by_cases e:k=i
  ·subst e; rw [hy] at ho; cases ho; exact A
  ·have:=B.2 k o om ho; omega
theorem AZ {c:bK} {i:Nat} (hi:i≤c.bO.length) (h: ∀ (j:Nat) y,j<i→c.bO[j]? =some y→dR c j y): -1≤gT c i∧gT c i≤86400000:=by
 cases i with
 |zero=>rw [ek rfl]; omega
 |succ i=>
  have hy:c.bO[i]? =some (c.bO[i]'om):=eu om
  have A:=(oI (n:=i+1) h i _ om hy).1
  have B:=(h i _ om hy).1.2
  rw [me hy]; omega
theorem Eh {c:bK} {i:Nat} (hi:i≤c.bO.length) (h:mX c i): -1≤gT c i∧gT c i≤86400000:=AZ hi fun j y hj hy=>(h j y hj hy).1
theorem oG {c:bK} {i k:Nat} {x o:dN} (hs: ∀ (j:Nat) y,j<i→c.bO[j]? =some y→dR c j y) (hx:c.bO[i]? =some x) (hok:dR c i x) (hk:k<i) (ho:c.bO[k]? =some o):
 (0≤o.At∧o.At<x.At∧x.At≤86400000)∧(-10000≤x.fX.Lo∧x.fX.Lo≤x.fX.Hi∧x.fX.Hi≤10000)∧ -10000≤o.fX.Lo∧o.fX.Lo≤o.fX.Hi∧o.fX.Hi≤10000:=by
 have h: ∀ (j:Nat) y,j<i+1→c.bO[j]? =some y→dR c j y:=fun j y hj hy=>by
  by_cases e:j=i
  ·subst e; rw [hx] at hy; cases hy; exact hok
  ·exact hs j y om hy
 have A:=(oI h i x om hx).2 k o hk ho
 have B:=(oI h k o om ho).1
 exact ⟨⟨B,A,hok.1.2⟩,hok.2,(h k o om ho).2⟩
theorem B8 {d a b:Int} (hd:0≤d∧d≤1000) (h:0≤b∧b<a∧a≤86400000):Gi (sS (d*sS (a-b))) 1000000=CE (d*(a-b)) 1000000:=by
 have C:0≤d*(a-b)∧d*(a-b)≤90000000000:=by
  have:=jQ (a:=d) (b:=a-b) (A:=1000) (B:=90000000) hd.1 hd.2 om om
  omega
 rw [sr (show lQ (a-b) from ⟨om,om⟩),sr (show lQ (d*(a-b)) from ⟨om,om⟩),Fj C.1 om om]
 rfl
/-- what is asked of a line, however wrong it is -/
structure gi (l:dk) (asl:List RA):Prop where
 jP:l.ak.length≤1000000
 side: ∀ x∈l.ak,0≤x.ct∧x.ct≤255
 yz:l.dy.length≤1000000
 yC:asl.length=l.dy.length
 yB:l.ck.length≤1000000
 H8: ∀ (k:Nat) m (a:RA),l.dy[k]? =some m→asl[k]? =some a→m.bO.length≤a.2∧m.bO.length≤1000000
noncomputable instance (l:dk):Decidable (ff l):=by unfold ff; infer_instance
noncomputable instance (l:dk) (b:dU):Decidable (gG l b):=Classical.propDecidable _
theorem q8 {l:dk} (h:ff l) (h2: ∀ c∈l.dy,fj c) (h3: ∀ b∈l.ck,gG l b) (h4: ∀ i,i<l.ck.length→1≤jx l i):m_ l:=⟨h,h2,h3,h4⟩
theorem vz {l:dk}:((!(l.dy.any fun m=> !decide (fj m)))=true)↔ ∀ c∈l.dy,fj c:=by simp
theorem yh {l:dk}:((!(l.ck.any fun b=> !decide (gG l b)))=true)↔ ∀ b∈l.ck,gG l b:=by simp
noncomputable def hP (l:dk) (i:Int):Int:=if gP l=0 then (if 0≤i∧i≤(l.ck.length:Int)-1 then 0 else 2) else gP l
noncomputable def jn (l:dk) (i:Int):Int:=if hP l i=0 then qs l i.toNat else 0
theorem oK {l:dk} {i:Int} (h: ¬ gP l=0):hP l i=gP l∧jn l i=0:=by
 have e:hP l i=gP l:=if_neg h
 exact ⟨e,by unfold jn; rw [e,if_neg h]⟩
theorem ov {l:dk} {i:Int} (h:gP l=0) (h2: ¬ (0≤i∧i≤(l.ck.length:Int)-1)):hP l i=2∧jn l i=0:=by
 have e:hP l i=2:=by unfold hP; rw [if_pos h,if_neg h2]
 exact ⟨e,by unfold jn; rw [e]; rfl⟩
theorem ko {l:dk} {i:Int} (h:gP l=0) (h2:0≤i∧i≤(l.ck.length:Int)-1):hP l i=0∧jn l i=qs l i.toNat:=by
 have e:hP l i=0:=by unfold hP; rw [if_pos h,if_pos h2]
 exact ⟨e,by unfold jn; rw [if_pos e]⟩
end
section
def uQ (l:dk) (us:List ab):dk:=⟨us,l.nx,l.dy,l.ck,l.kU,l.nE,l.lj⟩
section
variable {l:dk} {us:List ab} {i:Nat}
theorem uD (h:eL l.ak.length l.ak.length l.ak us):jx l i≤jx (uQ l us) i:=by
 unfold jx
 show _≤(match l.ck[i]? with
  |some b=>if i=0 then (v7 us b.de).Lo else (match l.ck[i-1]? with
   |some a=>(dQ us a.de b.de).Lo
   |none=>0)
  |none=>0)
 cases l.ck[i]? with
 |none=>exact Int.le_refl _
 |some b=>
  simp only
  split
  ·exact (EC h).1
  ·cases l.ck[i-1]? with
   |none=>exact Int.le_refl _
   |some a=>exact (rF h).1
theorem xG (h:eL l.ak.length l.ak.length l.ak us) (hl:gP l=0):gP (uQ l us)=0:=by
 obtain ⟨B,A⟩:=ni hl
 refine nR (h.tY (bT B) B) ⟨A.head,A.clock,fun b hb=>?_,fun j hj=>?_⟩
 ·have C:=A.xy b hb
  exact ⟨qj h C.1,C.2⟩
 ·have C:=A.HL j hj
  have D:=uD h (i:=j)
  omega
theorem CS {az:List RA} (h:eL l.ak.length l.ak.length l.ak us) (hl:gi l az):gi (uQ l us) az:=⟨by have:=h.len; have:=hl.jP; show us.length≤_; omega,h.Ay hl.side,hl.yz,hl.yC,hl.yB,hl.H8⟩
theorem uO (h:eL l.ak.length l.ak.length l.ak us) (hl:gP l=0) {k:Int} (hk:0≤k∧k≤(l.ck.length:Int)-1):(hP l k=0∧hP (uQ l us) k=0)∧jn l k≤jn (uQ l us) k:=by
 have B:=ko hl hk
 have C:=ko (l:=uQ l us) (xG h hl) hk
 refine ⟨⟨B.1,C.1⟩,?_⟩
 rw [B.2,C.2]
 have D:=uD h (i:=k.toNat)
 have A:=(ni hl).2.head
 unfold ff at A
 unfold qs CE
 exact Int.ediv_le_ediv (show 0<l.nx by omega) (show 1000*jx l k.toNat+l.nx-1≤1000*jx (uQ l us) k.toNat+l.nx-1 by omega)
end
end
section
/-- the head at the next mark -/
def pX (h lo fa ru dr we:Int):Int:=max 0 (max 0 (h-h*dr*lo/(100*we))+fa-ru*lo/100)
def cV (s:bL):Prop:=(1≤s.Class∧s.Class≤3)∧aF s.Start 0 200000∧aF s.sU 0 100∧aF s.lG 0 1000∧aF s.Weight 50000 800000∧aF s.ly (-500) 500
instance (s:bL):Decidable (cV s):=by unfold cV; infer_instance
theorem jT {a b:Int} (h0:0≤a) (h:a≤b):10*a*a≤10*b*b:=by
 have A:=Int.mul_le_mul (show 10*a≤10*b by omega) h h0 om
 exact A
def oH (h r:Int):Prop:=0≤r∧10*r*r≤1962*h∧1962*h<10*(r+1)*(r+1)
theorem qR {h r s:Int} (hr:oH h r) (hs:oH h s):r=s:=by
 obtain ⟨C,D,E⟩:=hr
 obtain ⟨F,G,H⟩:=hs
 rcases Int.lt_trichotomy r s with B|A|B
 ·have:=jT (a:=r+1) (b:=s) om om; omega
 ·exact A
 ·have:=jT (a:=s+1) (b:=r) om om; omega
theorem re {h:Int} (hh:0≤h): ∃ r,oH h r:=by
 obtain ⟨m,rfl⟩:=Int.eq_ofNat_of_zero_le hh
 have key: ∀ k:Nat,(∃ r,oH (m:Int) r)∨10*(k:Int)*k≤1962*(m:Int):=by
  intro k
  induction k with
  |zero=>right; simp; omega
  |succ k ih=>
   rcases ih with A|A
   ·exact .inl A
   ·by_cases B:10*((k+1:Nat):Int)*((k+1:Nat):Int)≤1962*(m:Int)
    ·exact .inr B
    ·left; refine ⟨k,om,A,?_⟩
     have e:((k+1:Nat):Int)=(k:Int)+1:=by omega
     rw [e] at B; omega
 rcases key (1962*m+1) with A|A
 ·exact A
 ·exfalso
  have e:(((1962*m+1:Nat):Int))=1962*(m:Int)+1:=by omega
  rw [e] at A
  have B:10*(1962*(m:Int)+1)*1≤10*(1962*(m:Int)+1)*(1962*(m:Int)+1):=Int.mul_le_mul (Int.le_refl _) om om om
  omega
noncomputable def fY (h:Int):Int:=if hh:0≤h then Classical.choose (re hh) else 0
theorem kp {h:Int} (hh:0≤h):oH h (fY h):=by
 unfold fY; rw [dif_pos hh]; exact Classical.choose_spec (re hh)
theorem zw {h r:Int} (hh:0≤h) (hr:oH h r):fY h=r:=qR (kp hh) hr
theorem pO {h:Int} (hh:0≤h) (h4:h≤400000):0≤fY h∧fY h≤9000:=by
 obtain ⟨B,D,_⟩:=kp hh
 refine ⟨B,?_⟩
 rcases Int.lt_or_le 9000 (fY h) with C|A
 ·have:=jT (a:=9000) (b:=fY h) om om; omega
 ·exact A
noncomputable def jW (h:Int):Int:=if 10*fY h*fY h<1962*h then fY h+1 else fY h
theorem Ch {h x:Int} (hh:0≤h) (h0:0≤x) (hx:x<fY h+1):decide (1962*h<10*x*x)=false:=by
 obtain ⟨A,B,C⟩:=kp hh
 have:=jT (a:=x) (b:=fY h) h0 om
 exact aD om
theorem zU {h x:Int} (hh:0≤h) (hx:fY h+1≤x):decide (1962*h<10*x*x)=true:=by
 obtain ⟨A,B,C⟩:=kp hh
 have:=jT (a:=fY h+1) (b:=x) om hx
 exact bY om
theorem tc {h:Int} (hh:0≤h) (h4:h≤400000):0≤jW h∧jW h≤9001:=by
 have:=pO hh h4
 unfold jW; split<;>omega
theorem CP {h x:Int} (hh:0≤h) (h0:0≤x) (hx:x<jW h):decide (1962*h≤10*x*x)=false:=by
 obtain ⟨A,B,C⟩:=kp hh
 unfold jW at hx
 refine aD ?_
 split at hx
 ·have:=jT (a:=x) (b:=fY h) h0 om; omega
 ·have D:=Int.mul_lt_mul' (show 10*x≤10*fY h by omega) hx h0 om; omega
theorem yK {h x:Int} (hh:0≤h) (hx:jW h≤x):decide (1962*h≤10*x*x)=true:=by
 obtain ⟨A,B,C⟩:=kp hh
 unfold jW at hx
 refine bY ?_
 split at hx
 ·have:=jT (a:=fY h+1) (b:=x) om hx; omega
 ·have:=jT (a:=fY h) (b:=x) A hx; omega
def eO (best f:Bool) (s:I):Int:=if best=f then s.Hi else s.Lo
def rN (best:Bool) (s:bL) (x:ab) (h:Int):Int:=pX h (eO best false x.di) (eO best true x.dA) (eO best false s.sU) (eO best false s.lG) (eO best true s.Weight)
def cf (best:Bool) (s:bL) (ts:List ab):Nat→Int
 |0=>eO best true s.Start
 |i+1=>match ts[i]? with
  |some x=>rN best s x (cf best s ts i)
  |none=>cf best s ts i
def fB (best:Bool) (s:bL) (ts:List ab):List Int:=(List.range (ts.length+1)).map (cf best s ts)
theorem eA {best f:Bool} {s:I} {lo hi:Int} (h:aF s lo hi):lo≤eO best f s∧eO best f s≤hi:=by
 obtain ⟨A,B,C⟩:=h
 unfold eO; split<;>omega
theorem ug {best:Bool} {s:bL} {ts:List ab} {i:Nat} {x:ab} (hx:ts[i]? =some x):cf best s ts (i+1)=rN best s x (cf best s ts i):=by simp [cf,hx]
theorem jh {best:Bool} {s:bL} {ts:List ab} (hs:cV s) (ht: ∀ x∈ts,a_ x): ∀ i:Nat,0≤cf best s ts i∧cf best s ts i≤200000+5000*(i:Int):=by
 intro i
 induction i with
 |zero=>have:=eA (best:=best) (f:=true) hs.2.1; simp only [cf]; omega
 |succ i ih=>
  simp only [cf]
  split
  ·rename_i x hx
   have hm:=ht x (aG hx)
   have C:=eA (best:=best) (f:=true) hm.2.2.1
   have D:=eA (best:=best) (f:=false) hm.2.1
   have A:=eA (best:=best) (f:=false) hs.2.2.1
   have B:=eA (best:=best) (f:=false) hs.2.2.2.1
   have E:=eA (best:=best) (f:=true) hs.2.2.2.2.1
   have hq:0≤cf best s ts i*eO best false s.lG*eO best false x.di/(100*eO best true s.Weight):=
    Int.ediv_nonneg (Int.mul_nonneg (Int.mul_nonneg ih.1 B.1) om) om
   have hr:0≤eO best false s.sU*eO best false x.di/100:=Int.ediv_nonneg (Int.mul_nonneg A.1 om) om
   unfold rN pX
   omega
  ·omega
/-- what the iterator of heads yields -/
def jU (best:Bool) (s:bL) (ts:List ab):List (List Value):=(List.range (ts.length+1)).map fun (i:Nat)=>[.int .i64 (i:Int),.int .i64 (cf best s ts i)]
theorem k5 {best:Bool} {s:bL} {ts:List ab}:(jU best s ts).length=ts.length+1:=by simp [jU]
theorem oh {best:Bool} {s:bL} {ts:List ab} {i:Nat} (h:i≤ts.length):(jU best s ts)[i]? =some [.int .i64 (i:Int),.int .i64 (cf best s ts i)]:=by
 simp [jU,List.getElem?_range (show i<ts.length+1 by omega)]
theorem rC {best:Bool} {s:bL} {ts:List ab} {i:Nat} {x:List Value} (h:(jU best s ts)[i]? =some x):i≤ts.length∧x=[.int .i64 (i:Int),.int .i64 (cf best s ts i)]:=by
 have hi:i<ts.length+1:=by
  have:=(aV.1 h).1
  simpa [jU] using this
 rw [oh om] at h
 exact ⟨om,(Option.some.inj h).symm⟩
theorem iT {best:Bool} {s:bL} {ts:List ab}:(fB best s ts).length=ts.length+1:=by simp [fB]
theorem ql {best:Bool} {s:bL} {ts:List ab} {i:Nat} (h:i≤ts.length):(fB best s ts)[i]? =some (cf best s ts i):=by
 simp [fB,List.getElem?_range (show i<ts.length+1 by omega)]
theorem tg {best:Bool} {s:bL} {ts:List ab} {i:Nat} (h:i≤ts.length):(fB best s ts).take (i+1)=(fB best s ts).take i++[cf best s ts i]:=by
 rw [List.take_add_one,ql h]; rfl
theorem xE {best:Bool} {s:bL} {ts:List ab} {i:Nat} (h:i≤ts.length) (h':ts.length≤i):(jU best s ts)[i]? =some [.int .i64 (ts.length:Int),.int .i64 (cf best s ts i)]:=by
 have e:i=ts.length:=by omega
 rw [oh h,e]
theorem qD {best:Bool} {s:bL} {ts:List ab}:(fB best s ts).take (jU best s ts).length=fB best s ts:=by
 rw [List.take_of_length_le]; rw [k5,iT]; exact Nat.le_refl _
theorem qe {best:Bool} {s:bL} {ts:List ab}: ∀ x∈jU best s ts,x.length=2:=by
 intro x hx
 simp only [jU,cy] at hx
 obtain ⟨i,_,rfl⟩:=hx; rfl
def kZ (s:bL) (ts:List ab) (i:Nat):I:=⟨cf false s ts i,cf true s ts i⟩
def dn (s:bL) (ts:List ab):List I:=(List.range (ts.length+1)).map (kZ s ts)
theorem fZ {s:bL} {ts:List ab}:(dn s ts).length=ts.length+1:=by simp [dn]
theorem k6 {s:bL} {ts:List ab} {i:Nat} (h:i≤ts.length):(dn s ts)[i]? =some (kZ s ts i):=by
 simp [dn,List.getElem?_range (show i<ts.length+1 by omega)]
theorem um {s:bL} {ts:List ab} {i:Nat} (h:i≤ts.length):(dn s ts).take (i+1)=(dn s ts).take i++[kZ s ts i]:=by
 rw [List.take_add_one,k6 h]; rfl
theorem pY {s:bL} {ts:List ab}:(dn s ts).take (jU false s ts).length=dn s ts:=by
 rw [List.take_of_length_le]; rw [k5,fZ]; exact Nat.le_refl _
def e8 (s:bL) (ts:List ab):Int:=if a9 ts=true then (if cV s then 0 else 30) else 10
theorem qY {s:bL} {ts:List ab} (h:a9 ts=false):e8 s ts=10:=by unfold e8; rw [h]; rfl
theorem uJ {s:bL} {ts:List ab} (h:a9 ts=true) (hs: ¬ cV s):e8 s ts=30:=by unfold e8; rw [if_pos h,if_neg hs]
theorem jL {s:bL} {ts:List ab} (h:a9 ts=true) (hs:cV s):e8 s ts=0:=by unfold e8; rw [if_pos h,if_pos hs]
theorem qf {s:bL} {ts:List ab} (h:e8 s ts=0):a9 ts=true∧cV s:=by
 unfold e8 at h
 split at h
 ·split at h
  ·exact ⟨asm,asm⟩
  ·omega
 ·omega
def kP (s:bL) (ts:List ab):List I:=if e8 s ts=0 then dn s ts else []
theorem kO {s:bL} {ts:List ab} (h:a9 ts=true) (hs:cV s):kP s ts=dn s ts:=by unfold kP; rw [if_pos (jL h hs)]
theorem wY {s:bL} {ts:List ab} (h: ¬ e8 s ts=0):kP s ts=[]:=by unfold kP; rw [if_neg h]
def mS (s:bL) (ts:List ab) (gV:Int):Int:=if e8 s ts=0 then (if 0≤gV∧gV≤ts.length then 0 else 2) else e8 s ts
noncomputable def oy (s:bL) (ts:List ab) (gV:Int):I:=if e8 s ts=0∧0≤gV∧gV≤ts.length then ⟨fY (cf false s ts gV.toNat),jW (cf true s ts gV.toNat)⟩ else ⟨0,0⟩
theorem je {s:bL} {ts:List ab} {i:Int} (h: ¬ e8 s ts=0):oy s ts i=⟨0,0⟩∧mS s ts i=e8 s ts:=⟨if_neg (fun q=>h q.1),if_neg h⟩
theorem ib {s:bL} {ts:List ab} {i:Int} (h:e8 s ts=0) (hi: ¬ (0≤i∧i≤ts.length)):oy s ts i=⟨0,0⟩∧mS s ts i=2:=⟨if_neg (fun q=>hi q.2),by unfold mS; rw [if_pos h,if_neg hi]⟩
theorem iv {s:bL} {ts:List ab} {i:Int} (h:e8 s ts=0) (hi:0≤i∧i≤ts.length):oy s ts i=⟨fY (cf false s ts i.toNat),jW (cf true s ts i.toNat)⟩∧mS s ts i=0:=⟨if_pos ⟨h,hi⟩,by unfold mS; rw [if_pos h,if_pos hi]⟩
/-- the greatest head within a stretch -/
def HW (best:Bool) (s:bL) (ts:List ab) (i:Nat):Int:=max (cf best s ts i) (cf best s ts (i+1))
def F7 (best:Bool) (s:bL) (x:ab) (h:Int):Int:=if 10*eO best false x.cg=0 then 0 else 1200*h/(10*eO best false x.cg)+eO best true s.ly
def JW (best:Bool) (s:bL) (ts:List ab) (i:Nat):Int:=match ts[i]? with
 |some x=>F7 best s x (HW best s ts i)
 |none=>0
def Cz (ts:List ab) (j:Nat):Bool:=match ts[j]? with
 |some x=> !decide (x.ct=0)
 |none=>false
end
section
set_option maxRecDepth 20000
def zz:List ab:=[⟨1,⟨1000,1000⟩,⟨100,100⟩,⟨0,0⟩,0,0⟩]
def Es:bL:=⟨3,⟨50,50⟩,⟨0,0⟩,⟨0,0⟩,⟨60000,60000⟩,⟨0,0⟩⟩
def mY:List ab:=[⟨1,⟨1000,1000⟩,⟨0,0⟩,⟨0,0⟩,0,0⟩,⟨2,⟨1000,1000⟩,⟨0,0⟩,⟨0,0⟩,0,0⟩]
def zN:bL:=⟨1,⟨200,200⟩,⟨0,0⟩,⟨0,0⟩,⟨60000,60000⟩,⟨0,0⟩⟩
def w7:List ab:=[⟨1,⟨1000,1000⟩,⟨0,0⟩,⟨0,0⟩,0,0⟩]
theorem zE:a9 zz=true:=by decide
theorem Aw:a9 mY=true:=by decide
theorem yV:a9 w7=true:=by decide
theorem Da:cV Es:=by decide
theorem Gj:cV zN:=by decide
theorem Ag: ∀ x∈zz,0≤x.ct∧x.ct≤255:=by intro x hx; simp only [zz,bZ,List.not_mem_nil,or_false] at hx; subst hx; simp
theorem s9: ∀ x∈mY,0≤x.ct∧x.ct≤255:=by intro x hx; simp only [mY,bZ,List.not_mem_nil,or_false] at hx; rcases hx with rfl|rfl<;>simp
theorem uB: ∀ x∈w7,0≤x.ct∧x.ct≤255:=by intro x hx; simp only [w7,bZ,List.not_mem_nil,or_false] at hx; subst hx; simp
theorem qC:e8 Es zz=0∧kP Es zz=[(I.mk 50 50),(I.mk 150 150)]:=⟨jL zE Da,by rw [kO zE Da]; decide⟩
theorem tG:oy zN mY 1=(I.mk 198 199)∧mS zN mY 1=0:=by
 have h:=iv (i:=1) (jL Aw Gj) dc
 have B:cf false zN mY (1:Int).toNat=200:=by decide
 have C:cf true zN mY (1:Int).toNat=200:=by decide
 have A:fY 200=198:=zw dc ⟨dc,dc,dc⟩
 have D:jW 200=199:=by unfold jW; rw [A]; decide
 rw [B,C,A,D] at h
 exact h
def cJ (n:Nat):List dU:=(List.range n).map fun (k:Nat)=>⟨⟨(k:Int)+1,⟨0,0⟩⟩,0⟩
def cU:bK:=⟨0,[⟨0,⟨0,0⟩⟩]⟩
def j_ (ts:List ab) (f:Int):dk:=⟨ts,f,[cU],cJ (min (ts.length-1) 6),0,0,0⟩
section
variable {ts us:List ab} {n k:Nat} {f:Int}
theorem gA:(cJ n).length=n:=by simp [cJ]
theorem rX:cJ (n+1)=cJ n++[⟨⟨(n:Int)+1,⟨0,0⟩⟩,0⟩]:=by simp [cJ,List.range_succ]
theorem ye {a:RA} (h1:ts.length≤1000000) (h2: ∀ x∈ts,0≤x.ct∧x.ct≤255) (ha:1≤a.2):gi (j_ ts f) [a]:=⟨h1,h2,by show (1:Nat)≤1000000; decide,rfl,by show (cJ _).length≤_; rw [gA]; omega,fun k m b hm hb=>by
 have hk:k=0:=by
  have:=(aV.1 hb).1
  simp only [List.length_singleton] at this
  omega
 subst hk
 have A:cU=m:=Option.some.inj (show some cU=some m from hm)
 have B:a=b:=Option.some.inj (show some a=some b from hb)
 subst A B
 exact ⟨ha,dc⟩⟩
end
theorem z0:fj cU:=⟨dc,dc,fun i x hx=>by
 have hi:=(aV.1 hx).1
 have A:i=0:=by
  have:cU.bO.length=1:=rfl
  omega
 subst A
 have e:(⟨0,⟨0,0⟩⟩:dN)=x:=Option.some.inj (show some _=some x from hx)
 subst e
 exact ⟨⟨by rw [ek rfl]; decide,dc⟩,dc,dc,dc⟩,fun i k x o hx hk ho=>by
 have hi:=(aV.1 hx).1
 have:cU.bO.length=1:=rfl
 omega⟩
theorem CD:(j_ mY 199).ck[0]? =some ⟨⟨1,⟨0,0⟩⟩,0⟩:=by decide
theorem Ap:jx (j_ mY 199) 0=1000:=by rw [oB CD]; decide
theorem wa:gP (j_ mY 199)=0:=nR Aw ⟨by show ff _; unfold ff; decide,fun c hc=>by rw [cN.1 (show c∈[cU] from hc)]; exact z0,fun b hb=>by
 have A:b∈([⟨⟨1,⟨0,0⟩⟩,0⟩]:List dU):=hb
 rw [cN.1 A]
 exact ⟨⟨⟨dc,dc⟩,_,U,dc⟩,dc,dc⟩,fun i hi=>by
 have B:i=0:=by
  have:(j_ mY 199).ck.length=1:=rfl
  omega
 subst B
 rw [Ap]; decide⟩
theorem tp:jn (j_ mY 199) 0=5026∧hP (j_ mY 199) 0=0:=by
 have e:=ko (l:=j_ mY 199) wa (i:=0) dc
 refine ⟨?_,e.1⟩
 rw [e.2]
 show qs (j_ mY 199) 0=5026
 unfold qs
 rw [Ap]; decide
end
section
structure dx where
 ak:List ab
 cr:List bG
 bu:List aZ
 dC:I
 cS:I
 eZ:Int
 ep:Int
 gb:Int
def eF (b:bG):Prop:=aF b.lH 0 2000∧0≤b.v_∧b.v_≤9
def dH (h:aZ):Prop:=aF h.kx 0 50∧(0≤h.o7∧h.o7≤60)∧0≤h.o2∧h.o2≤12
structure nP (c:dx):Prop where
 ki:c.cr.length=c.ak.length
 gQ:1≤c.bu.length∧c.bu.length≤8
 jE:aF c.dC 0 20
 gS:aF c.cS 1 100
 kj:0≤c.eZ∧c.eZ≤100
 g8:0≤c.ep∧c.ep≤2000
 base:0≤c.gb∧c.gb≤c.ep
 sV: ∀ b∈c.cr,eF b
 hour: ∀ h∈c.bu,dH h
noncomputable instance (c:dx):Decidable (nP c):=Classical.propDecidable _
noncomputable def fE (c:dx):Int:=if a9 c.ak=true then (if nP c then 0 else 20) else 10
theorem gC {c:dx} (h:fE c=0):a9 c.ak=true∧nP c:=by
 unfold fE at h
 split at h
 ·split at h
  ·exact ⟨asm,asm⟩
  ·omega
 ·omega
theorem m6 {c:dx} (h:a9 c.ak=false):fE c=10:=by unfold fE; rw [h]; rfl
theorem oj {c:dx} (h:a9 c.ak=true) (h2: ¬ nP c):fE c=20:=by unfold fE; rw [if_pos h,if_neg h2]
theorem km {c:dx} (h:a9 c.ak=true) (h2:nP c):fE c=0:=by unfold fE; rw [if_pos h,if_pos h2]
/-- what is asked of a cover -/
structure gn (c:dx):Prop where
 jP:c.ak.length≤1000000
 side: ∀ x∈c.ak,0≤x.ct∧x.ct≤255
 yD:c.cr.length≤1000000
 yA:c.bu.length≤1000000
def qm (n:Nat) (h:aZ) (l:List Int):Prop:=(l.length:Int)≤h.o2∧(l.length=0∨h.l7=true)∧ ∀ (k:Nat) x,l[k]? =some x→(0≤x∧x≤(n:Int)-1)∧ ∀ y,0<k→l[k-1]? =some y→y<x
structure ia (c:dx) (pl:List (List Int)):Prop where
 len:pl.length=c.bu.length
 row: ∀ (h:Nat) l hr,pl[h]? =some l→c.bu[h]? =some hr→qm c.cr.length hr l
noncomputable instance (c:dx) (pl:List (List Int)):Decidable (ia c pl):=Classical.propDecidable _
def zm (c:dx) (pl:List (List Int)):Prop:=(20<(c.ak.length:Int)∨20<(c.cr.length:Int)∨12<(c.bu.length:Int)∨12<(pl.length:Int))∨ ∃ l∈pl,20<(l.length:Int)
noncomputable instance (c:dx) (pl:List (List Int)):Decidable (zm c pl):=Classical.propDecidable _
section
variable {c:dx} {pl:List (List Int)} {h k n:Nat} {l:List Int} {x y:Int} {hr:aZ}
theorem ia.get (hp:ia c pl) (hl:pl[h]? =some l): ∃ hr,c.bu[h]? =some hr∧qm c.cr.length hr l:=by
 have hi:=(aV.1 hl).1
 have A:=hp.len
 have hh:c.bu[h]? =some (c.bu[h]'om):=eu om
 exact ⟨_,hh,hp.row h l _ hl hh⟩
theorem ia.flat (hp:ia c pl): ∀ x∈pl.flatten,0≤x∧x≤(c.cr.length:Int)-1:=fun x hx=>by
 obtain ⟨l,hl,B⟩:=List.mem_flatten.1 hx
 obtain ⟨h,hh⟩:=List.mem_iff_getElem?.1 hl
 obtain ⟨hr,_,A⟩:=hp.get hh
 obtain ⟨k,hk⟩:=List.mem_iff_getElem?.1 B
 exact (A.2.2 k x hk).1
/-- as far as the rows were gone through -/
def oE (c:dx) (pl:List (List Int)) (m:Nat):Prop:= ∀ (h:Nat) l hr,h<m→pl[h]? =some l→c.bu[h]? =some hr→qm c.cr.length hr l
theorem x2:oE c pl 0:=fun h l hr hh=>absurd hh (Nat.not_lt_zero _)
theorem ry (hm:oE c pl h) (hl:pl[h]? =some l) (hh:c.bu[h]? =some hr) (ho:qm c.cr.length hr l):oE c pl (h+1):=fun j a b hj ha hb=>by
 rcases Nat.lt_or_ge j h with q|q
 ·exact hm j a b q ha hb
 ·obtain rfl:j=h:=by omega
  rw [hl] at ha; rw [hh] at hb; cases ha; cases hb; exact ho
theorem jg (hlen:pl.length=c.bu.length) (h0:pl.length≤h) (hm:oE c pl h):ia c pl:=⟨hlen,fun j l hr hl hh=>hm j l hr (Nat.lt_of_lt_of_le (aV.1 hl).1 h0) hl hh⟩
def j6 (n:Nat) (l:List Int) (m:Nat):Prop:= ∀ (k:Nat) x,k<m→l[k]? =some x→(0≤x∧x≤(n:Int)-1)∧ ∀ y,0<k→l[k-1]? =some y→y<x
theorem qt:j6 n l 0:=fun k x hk=>absurd hk (Nat.not_lt_zero _)
theorem kR (hm:j6 n l k) (hx:l[k]? =some x) (h1:0≤x∧x≤(n:Int)-1) (h2: ∀ y,0<k→l[k-1]? =some y→y<x):j6 n l (k+1):=fun j z hj hz=>by
 rcases Nat.lt_or_ge j k with q|q
 ·exact hm j z q hz
 ·obtain rfl:j=k:=by omega
  rw [hx] at hz; cases hz; exact ⟨h1,h2⟩
theorem vY (h0:l.length≤k) (h1:(l.length:Int)≤hr.o2) (h2:l.length=0∨hr.l7=true) (hm:j6 n l k):qm n hr l:=⟨h1,h2,fun j x hx=>hm j x (Nat.lt_of_lt_of_le (aV.1 hx).1 h0) hx⟩
end
def jr (b:bG) (h:aZ) (w:I):I:=⟨b.v_*h.kx.Lo+h.o7*w.Lo,b.v_*h.kx.Hi+h.o7*w.Hi⟩
def wF (t l:I):I:=⟨max 0 (t.Lo-l.Hi),max 0 (t.Hi-l.Lo)⟩
def qg (b:bG) (h:aZ) (w y t:I) (l:List Int) (i:Int):I:=if i∈l then fG (wF t (jr b h w)) y else wF t (jr b h w)
def gv (b:bG) (hs:List aZ) (w y:I) (pl:List (List Int)) (i:Int):Nat→I
 |0=>b.lH
 |n+1=>match hs[n]?,pl[n]? with
  |some h,some l=>qg b h w y (gv b hs w y pl i n) l i
  |_,_=>gv b hs w y pl i n
def qT (b:bG) (hs:List aZ) (w y:I) (pl:List (List Int)) (i:Int):List (List Value):=(List.range (hs.length+1)).map fun (n:Nat)=>[.int .i64 (n:Int),.agg (I.cells (gv b hs w y pl i n)).toArray]
section
variable {b:bG} {hs:List aZ} {w y t:I} {pl:List (List Int)} {i:Int} {n:Nat} {h:aZ} {l:List Int}
theorem lK (hh:hs[n]? =some h) (hl:pl[n]? =some l):gv b hs w y pl i (n+1)=qg b h w y (gv b hs w y pl i n) l i:=by
 simp only [gv,hh,hl]
theorem yZ (hb:eF b) (hh:dH h) (hw:aF w 0 20):(0≤(jr b h w).Lo∧(jr b h w).Lo≤1650)∧0≤(jr b h w).Hi∧(jr b h w).Hi≤1650:=by
 obtain ⟨_,B,C⟩:=hb
 obtain ⟨D,A,_⟩:=hh
 simp only [aF] at D hw
 have E:=jQ B C (show 0≤h.kx.Lo by omega) (show h.kx.Lo≤50 by omega)
 have F:=jQ B C (show 0≤h.kx.Hi by omega) (show h.kx.Hi≤50 by omega)
 have G:=jQ A.1 A.2 (show 0≤w.Lo by omega) (show w.Lo≤20 by omega)
 have H:=jQ A.1 A.2 (show 0≤w.Hi by omega) (show w.Hi≤20 by omega)
 simp only [jr]
 omega
theorem C5 (hb:eF b) (hh: ∀ h∈hs,dH h) (hw:aF w 0 20) (hy:aF y 1 100): ∀ n:Nat,(0≤(gv b hs w y pl i n).Lo∧(gv b hs w y pl i n).Lo≤2000+100*(n:Int))∧0≤(gv b hs w y pl i n).Hi∧(gv b hs w y pl i n).Hi≤2000+100*(n:Int)
 |0=>by
  have A:=hb.1
  simp only [aF] at A
  simp only [gv]; omega
 |n+1=>by
  have ih:=C5 hb hh hw hy n
  simp only [aF] at hy
  cases e1:hs[n]? with
  |none=>simp only [gv,e1]; omega
  |some h=>
   cases e2:pl[n]? with
   |none=>simp only [gv,e1,e2]; omega
   |some l=>
    rw [lK e1 e2]
    have hl:=yZ hb (hh h (aG e1)) hw
    unfold qg
    split
    ·simp only [fG,wF]; omega
    ·simp only [wF]; omega
theorem lM:(qT b hs w y pl i).length=hs.length+1:=by simp [qT]
theorem qF (h:n≤hs.length):(qT b hs w y pl i)[n]? =some [.int .i64 (n:Int),.agg (I.cells (gv b hs w y pl i n)).toArray]:=by
 simp [qT,List.getElem?_range (show n<hs.length+1 by omega)]
theorem zD (h:n≤hs.length) (h':hs.length≤n):(qT b hs w y pl i)[n]? =some [.int .i64 (hs.length:Int),.agg (I.cells (gv b hs w y pl i n)).toArray]:=by
 have e:n=hs.length:=by omega
 rw [qF h,e]
theorem Ai {x:List Value} (h:(qT b hs w y pl i)[n]? =some x):n≤hs.length∧x=[.int .i64 (n:Int),.agg (I.cells (gv b hs w y pl i n)).toArray]:=by
 have hn:=(aV.1 h).1
 rw [lM] at hn
 rw [qF om] at h
 exact ⟨om,(Option.some.inj h).symm⟩
theorem xl: ∀ x∈qT b hs w y pl i,x.length=2:=fun x hx=>by
 simp only [qT,cy] at hx
 obtain ⟨n,_,rfl⟩:=hx; rfl
end
theorem Cm {l:List Int} {n:Int}:(l.any fun x=>decide (n=x))=decide (n∈l):=by
 rw [Bool.eq_iff_iff]
 simp [List.any_eq_true]
theorem xd {lo hi:Int} {l:List Int} (h: ∀ x∈l,lo≤x∧x≤hi):jZ lo hi l=true:=by
 unfold jZ
 rw [Bool.not_eq_true',List.any_eq_false]
 intro x hx
 have:=h x hx
 simp only [decide_eq_true_eq]
 omega
theorem qm.all {n:Nat} {h:aZ} {l:List Int} (hr:qm n h l):jZ 0 ((n:Int)-1) l=true:=xd fun x hx=>by
 obtain ⟨k,hk⟩:=List.mem_iff_getElem?.1 hx
 exact (hr.2.2 k x hk).1
theorem kM {pl:List (List Int)} {h:Nat} {l:List Int} (hl:pl[h]? =some l):(pl.take (h+1)).flatten=(pl.take h).flatten++l:=by
 rw [List.take_add_one,hl]; simp
theorem sM {pl:List (List Int)} {h:Nat}:(pl.take h).flatten.length≤pl.flatten.length:=by
 have e:=congrArg List.length (congrArg List.flatten (List.take_append_drop h pl))
 rw [List.flatten_append,List.length_append] at e
 omega
theorem x9 (pl:List (List Int)) (n:Nat):(∀ l∈pl,l.length≤n)→pl.flatten.length≤n*pl.length:=by
 induction pl with
 |nil=>simp
 |cons x xs ih=>
  intro h
  have A:=h x sm
  have B:=ih fun l hl=>h l (by simp [hl])
  rw [List.flatten_cons,List.length_append,List.length_cons,Nat.mul_succ]
  omega
theorem x4 {c:dx} {pl:List (List Int)} (hp:ia c pl) (hi:nP c):pl.flatten.length≤100∧ ∀ l∈pl,l.length≤1000:=by
 have A: ∀ l∈pl,l.length≤12:=fun l hl=>by
  obtain ⟨h,hh⟩:=List.mem_iff_getElem?.1 hl
  obtain ⟨hr,B,C⟩:=hp.get hh
  have D:=(hi.hour hr (aG B)).2.2
  have E:=C.1
  omega
 have B:=x9 pl 12 A
 have C:=hp.len
 have D:=hi.gQ
 exact ⟨om,fun l hl=>by have:=A l hl; omega⟩
def dj (ts:List ab) (r:Int) (l:List Int):Nat→I
 |0=>gl
 |n+1=>match l[n]? with
  |some i=>⟨(dj ts r l n).Lo+r*(bW ts i.toNat 1).Lo,(dj ts r l n).Hi+r*(bW ts i.toNat 1).Hi⟩
  |none=>dj ts r l n
section
variable {ts us:List ab} {r:Int} {l:List Int} {n:Nat} {i:Int}
theorem k3 (h:l[n]? =some i):dj ts r l (n+1)=⟨(dj ts r l n).Lo+r*(bW ts i.toNat 1).Lo,(dj ts r l n).Hi+r*(bW ts i.toNat 1).Hi⟩:=by
 simp only [dj,h]
theorem vU (ht: ∀ x∈ts,a_ x) (hr:0≤r∧r≤100): ∀ n:Nat,(0≤(dj ts r l n).Lo∧(dj ts r l n).Lo≤3000000*(n:Int))∧0≤(dj ts r l n).Hi∧(dj ts r l n).Hi≤3000000*(n:Int)
 |0=>by simp [dj,gl]
 |n+1=>by
  have ih:=vU ht hr n
  cases e:l[n]? with
  |none=>simp only [dj,e]; omega
  |some i=>
   rw [k3 e]
   have hl:=fr ht i.toNat 1
   have A:=jQ hr.1 hr.2 (show 0≤(bW ts i.toNat 1).Lo by omega) (show (bW ts i.toNat 1).Lo≤30000 by omega)
   have B:=jQ hr.1 hr.2 (show 0≤(bW ts i.toNat 1).Hi by omega) (show (bW ts i.toNat 1).Hi≤30000 by omega)
   simp only
   omega
theorem q9 (h:eL ts.length ts.length ts us) (hr:0≤r): ∀ n:Nat,(dj ts r l n).Lo≤(dj us r l n).Lo∧(dj us r l n).Hi≤(dj ts r l n).Hi
 |0=>by simp [dj]
 |n+1=>by
  have ih:=q9 h hr n
  cases e:l[n]? with
  |none=>simp only [dj,e]; exact ih
  |some i=>
   rw [k3 e,k3 e]
   have A:(bW ts i.toNat 1).Lo≤(bW us i.toNat 1).Lo∧(bW us i.toNat 1).Hi≤(bW ts i.toNat 1).Hi:=by
    simp only [bW,Nat.add_zero]
    cases hx:ts[i.toNat]? with
    |none=>
     have hl:=h.len
     have:us[i.toNat]? =none:=List.getElem?_eq_none (by have:=List.getElem?_eq_none_iff.1 hx; omega)
     rw [this]; simp
    |some x=>
     have hi:=(aV.1 hx).1
     have hl:=h.len
     have hy:us[i.toNat]? =some (us[i.toNat]'om):=eu om
     have A:=h.at_ _ x _ hx hy
     rw [if_pos hi,if_pos hi] at A
     have D:=A.2.1
     rw [hy]
     simp only [fG,gl,rf] at *
     omega
   have B:=Int.mul_le_mul_of_nonneg_left A.1 hr
   have C:=Int.mul_le_mul_of_nonneg_left A.2 hr
   simp only
   omega
end
end
section
def kf (l:List Int):Int:=l.foldl (fun n x=>max (max n x) (-x)) 0
theorem vJ {l:List Int} {i:Nat} {x:Int} (h:l[i]? =some x):kf (l.take (i+1))=max (max (kf (l.take i)) x) (-x):=by
 unfold kf; rw [List.take_add_one,h,List.foldl_append]; rfl
def jX (ts:List ab) (s:ae) (m:Int):Int:=if m≤s.ax then (bW ts m.toNat (s.ax-m).toNat).Hi+s.hG.Hi else (bW ts s.ax.toNat (m-s.ax).toNat).Hi-s.hG.Lo
def ng (ts:List ab) (s:ae) (k:Int):Int:=max (jX ts s k) (jX ts s (k+1))
theorem sc {ts:List ab} {s:ae} (ht:a9 ts=true) (hs:cD ts s) {m:Int} (hm:0≤m∧m≤ts.length):0≤jX ts s m∧jX ts s m≤400000:=by
 have A:=bT ht
 have hl:=cw ht
 have D:=nb A hs
 have E:=hs.1
 unfold jX
 split
 ·have:=fr A m.toNat (s.ax-m).toNat
  omega
 ·have C:=fr A s.ax.toNat (m-s.ax).toNat
  obtain ⟨x,hx,ho⟩:=hs.2
  have hp:(bW ts s.ax.toNat 1).Hi≤(bW ts s.ax.toNat (m-s.ax).toNat).Hi:=by
   obtain ⟨k,hk⟩: ∃ k,(m-s.ax).toNat=1+k:=⟨(m-s.ax).toNat-1,om⟩
   rw [hk]
   clear hk C
   induction k with
   |zero=>exact Int.le_refl _
   |succ k ih=>
    refine Int.le_trans ih ?_
    rw [← Nat.add_assoc]
    simp only [bW]
    cases e:ts[s.ax.toNat+(1+k)]? with
    |none=>exact Int.le_refl _
    |some y=>
     have:=(A y (aG e)).2.1
     simp only [aF] at this
     simp only [fG]; omega
  rw [rI hx] at hp
  have B:=(A x (aG hx)).2.1
  simp only [aF] at B ho
  omega
theorem G6 {ts:List ab} {s:ae} (ht:a9 ts=true) (hs:cD ts s) {k:Int} (hk:0≤k∧k<ts.length):0≤ng ts s k∧ng ts s k≤400000:=by
 have A:=sc ht hs (m:=k) om
 have B:=sc ht hs (m:=k+1) om
 unfold ng; omega
/-- the place at which a stretch begins -/
theorem s8 {ts:List ab} (ht:a9 ts=true) {k:Int} (hk:0≤k∧k<ts.length):cD ts ⟨k,⟨0,0⟩⟩:=by
 have hx:ts[k.toNat]? =some (ts[k.toNat]'om):=eu om
 have:=(bT ht _ (aG hx)).2.1
 simp only [aF] at this
 exact ⟨hk,_,hx,by simp only [aF]; omega⟩
theorem wZ {ts:List ab} (hst: ∀ x∈ts,a_ x) (f:Nat): ∀ k j:Nat,(bW ts f k).Lo≤(bW ts f (k+j)).Lo∧(bW ts f k).Hi≤(bW ts f (k+j)).Hi:=by
 intro k j
 induction j with
 |zero=>exact ⟨Int.le_refl _,Int.le_refl _⟩
 |succ j ih=>
  rw [← Nat.add_assoc]
  simp only [bW]
  cases e:ts[f+(k+j)]? with
  |none=>exact ih
  |some y=>
   have:=(hst y (aG e)).2.1
   simp only [aF] at this
   simp only [fG]; omega
theorem vm {ts:List ab} {s:ae} (ht:a9 ts=true) (hs:cD ts s) {k:Int} (hk:0≤k∧k<ts.length):kf [(dQ ts s ⟨k,⟨0,0⟩⟩).Lo,(dQ ts s ⟨k,⟨0,0⟩⟩).Hi]=jX ts s k:=by
 have A:=bT ht
 have C:=nb A hs
 have D:=hs.1
 show max (max (max (max 0 _) (-_)) _) (-_)=_
 unfold jX dQ mL
 by_cases q:k<s.ax
 ·rw [if_pos (show k≤s.ax by omega)]
  simp only
  rw [if_pos q,show min s.ax k=k by omega,show max s.ax k=s.ax by omega]
  have:=fr A k.toNat (s.ax-k).toNat
  simp only [fG,ik]; omega
 ·simp only
  rw [if_neg q,show min s.ax k=s.ax by omega,show max s.ax k=k by omega]
  by_cases e:k=s.ax
  ·subst e
   rw [if_pos (Int.le_refl _),Int.sub_self]
   simp only [Int.toNat_zero,bW,fG,ik,gl]; omega
  ·rw [if_neg om]
   obtain ⟨x,hx,ho⟩:=hs.2
   have B:=(A x (aG hx)).2.1
   simp only [aF] at B ho
   have hp:=wZ A s.ax.toNat 1 ((k-s.ax).toNat-1)
   rw [show 1+((k-s.ax).toNat-1)=(k-s.ax).toNat by omega,rI hx] at hp
   have:=fr A s.ax.toNat (k-s.ax).toNat
   simp only [fG,ik]; omega
structure ah where
 ak:List ab
 aA:List aj
 bk:List cH
 bM:ae
 bP:Int
 deriving DecidableEq
def jl (ps:List aj) (i:Nat):Int:=if i=0 then-1 else ((ps[i-1]?).map (·.Id)).getD 0
theorem jd {ps:List aj} {i:Nat} (h:i=0):jl ps i= -1:=if_pos h
theorem da {ps:List aj} {i:Nat} {y:aj} (h:0<i) (hy:ps[i-1]? =some y):jl ps i=y.Id:=by unfold jl; rw [if_neg om,hy]; rfl
theorem uA {ps:List aj} {i:Nat} {y:aj} (hy:ps[i]? =some y):jl ps (i+1)=y.Id:=by unfold jl; rw [if_neg om,Nat.add_sub_cancel,hy]; rfl
def db (ts:List ab) (ps:List aj) (i:Nat) (p:aj):Prop:=(jl ps i<p.Id∧0≤p.Id∧p.Id≤9999)∧(1≤p.Kind∧p.Kind≤3)∧cD ts p.de∧(0≤p.j7∧p.j7≤36000)∧1≤p.nd∧p.nd≤1000
def cb (ts:List ab) (n:cH):Prop:=(0≤n.ax∧n.ax≤(ts.length:Int)-1)∧(1≤n.Kind∧n.Kind≤3)∧0≤n.g_∧n.g_≤36000
structure gL (d:ah):Prop where
 len:d.aA.length≤8∧d.bk.length≤10
 dm:cD d.ak d.bM
 eT:0≤d.bP∧d.bP≤400000
 post: ∀ (i:Nat) p,d.aA[i]? =some p→db d.ak d.aA i p
 g0: ∀ n∈d.bk,cb d.ak n
noncomputable instance (d:ah):Decidable (gL d):=Classical.propDecidable _
noncomputable instance (ts:List ab) (n:cH):Decidable (cb ts n):=by unfold cb; infer_instance
noncomputable instance (ts:List ab) (ps:List aj) (i:Nat) (p:aj):Decidable (db ts ps i p):=by unfold db; infer_instance
noncomputable def du (d:ah):Int:=if a9 d.ak=true then (if gL d then 0 else 90) else 10
theorem ec {d:ah} (h:a9 d.ak=false):du d=10:=by unfold du; rw [h]; rfl
theorem a6 {d:ah} (h:a9 d.ak=true) (h2: ¬ gL d):du d=90:=by unfold du; rw [if_pos h,if_neg h2]
theorem ef {d:ah} (h:a9 d.ak=true) (h2:gL d):du d=0:=by unfold du; rw [if_pos h,if_pos h2]
theorem gI {d:ah} (h:du d=0):a9 d.ak=true∧gL d:=by
 unfold du at h
 split at h
 ·split at h
  ·exact ⟨asm,asm⟩
  ·omega
 ·omega
def j1 (ts:List ab) (p:aj) (k:Int):Int:=p.j7+(p.nd*ng ts p.de k+999)/1000
theorem EF {a f:Int} (ha:1≤a∧a≤1000) (hf:0≤f∧f≤400000):0≤a*f∧a*f≤400000000:=by
 have A:0≤a*f:=Int.mul_nonneg om hf.1
 have B:a*f≤1000*f:=Int.mul_le_mul_of_nonneg_right ha.2 hf.1
 omega
def hO (d:ah) (a b:ae):Prop:= -d.bP≤(dQ d.ak a b).Lo∧(dQ d.ak a b).Hi≤d.bP
instance (d:ah) (a b:ae):Decidable (hO d a b):=by unfold hO; infer_instance
inductive gf (d:ah) (S:Nat→Prop):Nat→Prop
 |dm {i:Nat} {p:aj}:S i→d.aA[i]? =some p→hO d d.bM p.de→gf d S i
 |post {k i:Nat} {q p:aj}:gf d S k→d.aA[k]? =some q→S i→d.aA[i]? =some p→hO d q.de p.de→gf d S i
noncomputable instance (d:ah) (S:Nat→Prop) (i:Nat):Decidable (gf d S i):=Classical.propDecidable _
theorem gf.lt {d:ah} {S:Nat→Prop} {i:Nat} (h:gf d S i):i<d.aA.length:=by
 cases h with
 |dm _ hp _=>exact (aV.1 hp).1
 |post _ _ _ hp _=>exact (aV.1 hp).1
theorem gf.mono {d:ah} {S T:Nat→Prop} (hst: ∀ i,i<d.aA.length→S i→T i) {i:Nat} (h:gf d S i):gf d T i:=by
 induction h with
 |dm hs hp hh=>exact .dm (hst _ (aV.1 hp).1 hs) hp hh
 |post _ hq hs hp hh ih=>exact .post ih hq (hst _ (aV.1 hp).1 hs) hp hh
theorem tF {d:ah} {S T:Nat→Prop} (h: ∀ i,i<d.aA.length→(S i↔T i)) (i:Nat):gf d S i↔gf d T i:=⟨fun c=>c.mono fun i hi=>(h i hi).1,fun c=>c.mono fun i hi=>(h i hi).2⟩
noncomputable def fz (n:Nat) (p:Nat→Prop):List Int:=((List.range n).filter fun i=> @decide (p i) (Classical.propDecidable _)).map fun (i:Nat)=>(i:Int)
theorem iG {n:Nat} {p:Nat→Prop} {x:Int}:x∈fz n p↔ ∃ i:Nat,x=(i:Int)∧i<n∧p i:=by
 unfold fz
 rw [cy]
 constructor
 ·rintro ⟨i,hi,rfl⟩
  have:=List.mem_filter.1 hi
  exact ⟨i,U,List.mem_range.1 this.1,by simpa using this.2⟩
 ·rintro ⟨i,rfl,A,B⟩
  exact ⟨i,List.mem_filter.2 ⟨List.mem_range.2 A,by simpa using B⟩,U⟩
theorem r_ {n:Nat} {p:Nat→Prop} {i:Nat}:(i:Int)∈fz n p↔i<n∧p i:=by
 rw [iG]
 exact ⟨fun ⟨k,e,h⟩=>(show k=i by omega)▸h,fun h=>⟨i,rfl,h⟩⟩
theorem kv {n:Nat} {p:Nat→Prop} (h:p n):fz (n+1) p=fz n p++[(n:Int)]:=by
 unfold fz; rw [List.range_succ,List.filter_append,List.map_append]; simp [h]
theorem mo {n:Nat} {p:Nat→Prop} (h: ¬ p n):fz (n+1) p=fz n p:=by
 unfold fz; rw [List.range_succ,List.filter_append,List.map_append]; simp [h]
theorem jF {n:Nat} {p:Nat→Prop}:(fz n p).length≤n:=by
 unfold fz; rw [List.length_map]
 exact Nat.le_trans (List.length_filter_le _ _) sm
theorem qi {n:Nat} {p q:Nat→Prop} (h: ∀ i,i<n→(p i↔q i)):fz n p=fz n q:=by
 induction n with
 |zero=>rfl
 |succ n ih=>
  have ih:=ih fun i hi=>h i om
  by_cases e:p n
  ·rw [kv e,kv ((h n om).1 e),ih]
  ·rw [mo e,mo (fun q=>e ((h n om).2 q)),ih]
theorem j4 {n:Nat} {p:Nat→Prop}:(fz n p).Pairwise (· < ·):=by
 unfold fz
 rw [List.pairwise_map]
 exact List.Pairwise.imp (fun h=>by omega) (List.Pairwise.filter _ List.pairwise_lt_range)
theorem Ar {n:Nat} {p:Nat→Prop}:fz n p=[]↔ ∀ i,i<n→ ¬ p i:=by
 constructor
 ·intro h i hi hp
  have:(i:Int)∈fz n p:=r_.2 ⟨hi,hp⟩
  rw [h] at this; cases this
 ·intro h
  rw [List.eq_nil_iff_forall_not_mem]
  intro x hx
  obtain ⟨i,_,A,B⟩:=iG.1 hx
  exact h i A B
/-- a sorted list is known by what is in it -/
theorem p_ {l:List Int} {n:Nat} {p:Nat→Prop} (hs:l.Pairwise (· < ·)) (h: ∀ x,x∈l↔ ∃ i:Nat,x=(i:Int)∧i<n∧p i):l=fz n p:=by
 have key: ∀ {a b:List Int},a.Pairwise (· < ·)→b.Pairwise (· < ·)→(∀ x,x∈a↔x∈b)→a=b:=by
  intro a
  induction a with
  |nil=>intro b _ _ h; symm; rw [List.eq_nil_iff_forall_not_mem]; intro x hx; exact absurd ((h x).2 hx) sm
  |cons x a ih=>
   intro b ha hb h
   cases b with
   |nil=>exact absurd ((h x).1 sm) sm
   |cons y b=>
    obtain ⟨A,D⟩:=List.pairwise_cons.1 ha
    obtain ⟨B,E⟩:=List.pairwise_cons.1 hb
    have e:x=y:=by
     rcases bZ.1 ((h x).1 sm) with e|e
     ·exact e
     ·rcases bZ.1 ((h y).2 sm) with C|C
      ·exact C.symm
      ·have:=B x e; have:=A y C; omega
    subst e
    congr 1
    refine ih D E fun z=>⟨fun hz=>?_,fun hz=>?_⟩
    ·rcases bZ.1 ((h z).1 (fA _ hz)) with e|e
     ·subst e; have:=A z hz; omega
     ·exact e
    ·rcases bZ.1 ((h z).2 (fA _ hz)) with e|e
     ·subst e; have:=B z hz; omega
     ·exact e
 exact key hs j4 fun x=>by rw [h,iG]
noncomputable def iB (d:ah) (S:Nat→Prop):List Int:=fz d.aA.length (gf d S)
def uk (d:ah) (n:cH) (i:Nat):Prop:= ∃ p,d.aA[i]? =some p∧p.Kind=n.Kind∧j1 d.ak p n.ax≤n.g_
noncomputable def p6 (d:ah) (n:cH) (S:Nat→Prop):List Int:=fz d.aA.length fun i=>gf d S i∧uk d n i
def jN (d:ah) (S:Nat→Prop) (j:Nat):Prop:= ∃ n,d.bk[j]? =some n∧p6 d n S=[]
noncomputable def kg (d:ah) (S:Nat→Prop):List Int:=fz d.bk.length (jN d S)
theorem uh {d:ah} {n:cH} {S T:Nat→Prop} (h: ∀ i,i<d.aA.length→(S i↔T i)):p6 d n S=p6 d n T:=qi fun i _=>by rw [tF h i]
theorem oT {d:ah} {S T:Nat→Prop} (h: ∀ i,i<d.aA.length→(S i↔T i)):kg d S=kg d T:=qi fun i _=>by unfold jN; simp only [uh h]
noncomputable def Fe (d:ah) (a k:Int):Int:=if du d=0 then (if (0≤a∧a≤(d.aA.length:Int)-1)∧0≤k∧k≤(d.ak.length:Int)-1 then 0 else 2) else du d
noncomputable def bB (d:ah) (a k:Int):Int:=Fe d a k
noncomputable def bE (d:ah) (a k:Int):Int:=if bB d a k=0 then (match d.aA[a.toNat]? with |some p=>ng d.ak p.de k|none=>0) else 0
noncomputable def o0 (d:ah) (a k:Int):Int:=if bB d a k=0 then (match d.aA[a.toNat]? with |some p=>j1 d.ak p k|none=>0) else 0
theorem pB {d:ah} {a k:Int} (h: ¬ du d=0):bB d a k=du d∧bE d a k=0∧o0 d a k=0:=by
 have e:bB d a k=du d:=if_neg h
 exact ⟨e,by unfold bE; rw [if_neg (by rw [e]; exact h)],by unfold o0; rw [if_neg (by rw [e]; exact h)]⟩
theorem pE {d:ah} {a k:Int} (h:du d=0) (h2: ¬ ((0≤a∧a≤(d.aA.length:Int)-1)∧0≤k∧k≤(d.ak.length:Int)-1)):bB d a k=2∧bE d a k=0∧o0 d a k=0:=by
 have e:bB d a k=2:=by unfold bB Fe; rw [if_pos h,if_neg h2]
 exact ⟨e,by unfold bE; rw [if_neg (by rw [e]; omega)],by unfold o0; rw [if_neg (by rw [e]; omega)]⟩
theorem nu {d:ah} {a k:Int} {p:aj} (h:du d=0) (h2:(0≤a∧a≤(d.aA.length:Int)-1)∧0≤k∧k≤(d.ak.length:Int)-1) (hp:d.aA[a.toNat]? =some p):bB d a k=0∧bE d a k=ng d.ak p.de k∧o0 d a k=j1 d.ak p k:=by
 have e:bB d a k=0:=by unfold bB Fe; rw [if_pos h,if_pos h2]
 exact ⟨e,by unfold bE; rw [if_pos e,hp],by unfold o0; rw [if_pos e,hp]⟩
def lE (l:List Int) (i:Nat):Int:=if i=0 then-1 else (l[i-1]?).getD 0
theorem qB {l:List Int}:lE l 0= -1:=rfl
theorem uV {l:List Int} {i:Nat} {x:Int} (h:l[i]? =some x):lE l (i+1)=x:=by unfold lE; rw [if_neg om,Nat.add_sub_cancel,h]; rfl
theorem w9 {l:List Int} {i:Nat} {x:Int} (hi:0<i) (h:l[i-1]? =some x):lE l i=x:=by unfold lE; rw [if_neg om,h]; rfl
def jV (n:Nat) (l:List Int) (i:Nat) (x:Int):Prop:=lE l i<x∧0≤x∧x≤(n:Int)-1
def k8 (n:Nat) (l:List Int) (i:Nat):Prop:= ∀ (j:Nat) x,j<i→l[j]? =some x→jV n l j x
def j0 (n:Nat) (l:List Int):Prop:= ∀ (j:Nat) x,l[j]? =some x→jV n l j x
noncomputable instance (n:Nat) (l:List Int):Decidable (j0 n l):=Classical.propDecidable _
theorem vc {n:Nat} {l:List Int}:k8 n l 0:=fun j x hj=>absurd hj (Nat.not_lt_zero _)
theorem vf {n:Nat} {l:List Int} {i:Nat} {x:Int} (h:k8 n l i) (hx:l[i]? =some x) (ho:jV n l i x):k8 n l (i+1):=fun j y hj hy=>by
 rcases Nat.lt_or_ge j i with q|q
 ·exact h j y q hy
 ·obtain rfl:j=i:=by omega
  rw [hx] at hy; cases hy; exact ho
theorem rE {n:Nat} {l:List Int} {i:Nat} (h:k8 n l i) (hi:l.length≤i):j0 n l:=fun j x hx=>h j x (by have:=(aV.1 hx).1; omega) hx
theorem B0 {n:Nat} {l:List Int} {i:Nat} (hi:i≤l.length) (h:k8 n l i): -1≤lE l i∧lE l i≤(n:Int):=by
 rcases Nat.eq_zero_or_pos i with e|e
 ·subst e; rw [qB]; omega
 ·have hy:l[i-1]? =some (l[i-1]'om):=eu _
  have:=h (i-1) _ om hy
  unfold jV at this
  rw [w9 e hy]; omega
theorem rR {n:Nat} {l:List Int} (h:j0 n l): ∀ x∈l,0≤x∧x<(n:Int):=fun x hx=>by
 obtain ⟨j,hj⟩:=List.getElem?_of_mem hx
 have:=h j x hj
 unfold jV at this; omega
noncomputable def eR (d:ah) (l:List Int):Int:=if du d=0 then (if j0 d.aA.length l then 0 else 2) else du d
theorem qE {d:ah} {l:List Int} (h: ¬ du d=0):eR d l=du d:=if_neg h
theorem pP {d:ah} {l:List Int} (h:du d=0) (h2: ¬ j0 d.aA.length l):eR d l=2:=by unfold eR; rw [if_pos h,if_neg h2]
theorem rO {d:ah} {l:List Int} (h:du d=0) (h2:j0 d.aA.length l):eR d l=0:=by unfold eR; rw [if_pos h,if_pos h2]
theorem uo {d:ah} {l:List Int} (h:eR d l=0):du d=0∧j0 d.aA.length l:=by
 unfold eR at h
 split at h
 ·split at h
  ·exact ⟨asm,asm⟩
  ·omega
 ·rename_i q; exact absurd h q
def tL (l:List Int):Nat→Prop:=fun i=>(i:Int) ∉ l
end
section
open Go.RowKit
set_option linter.unusedSectionVars false
/-- what is asked of keys -/
structure ui (P:Program) (kt:Nat) {K:Type} (kV:K→Value):Prop where
 check: ∀ (e:Bool) (x:K) (w:World),(Instr.checkKey e 10000 kt (kV x)).run P w= .ok () w
 find: ∀ (x:K) (w:World) (es:List MapEntry),(∀ e∈es,∃ k,e.key=kV k)→
  ((Instr.findKey kt (kV x) es).run P w= .ok none w∧ ∀ e∈es,e.key≠kV x)∨ ∃ j e,(Instr.findKey kt (kV x) es).run P w= .ok (some (j,e.val)) w∧es[j]? =some e∧e.key=kV x
 bits: ∀ x,Instr.sameBits 10000 (kV x) (kV x)=true
 inj: ∀ x y,kV x=kV y→x=y
section
variable {K:Type} [DecidableEq K] {kV:K→Value}
def g9 {β:Type} (l:List (K×β)) (x:K) (y:β):List (K×β):=if (l.lookup x).isSome then l.map (fun p=>if p.1=x then (x,y) else p) else l++[(x,y)]
def eV {β:Type} (l:List (K×β)) (x:K):List (K×β):=l.filter fun p=> !decide (p.1=x)
def dM {β γ:Type} (f:β→γ) (l:List (K×β)):List (K×γ):=l.map fun p=>(p.1,f p.2)
theorem k7 {β γ:Type} (f:β→γ) (x:K): ∀ l:List (K×β),(dM f l).lookup x=(l.lookup x).map f
 |[]=>rfl
 |p::l=>by
  obtain ⟨k,v⟩:=p
  have ih:=k7 f x l
  by_cases h:x=k
  ·subst h; simp [dM,List.lookup]
  ·have:(x==k)=false:=by simpa using h
   simp only [dM,List.map_cons,List.lookup,this] at ih ⊢
   exact ih
theorem nh {β γ:Type} (f:β→γ) (l:List (K×β)) (x:K) (y:β):dM f (g9 l x y)=g9 (dM f l) x (f y):=by
 unfold g9
 rw [k7,Option.isSome_map]
 split
 ·simp only [dM,List.map_map]
  refine List.map_congr_left fun p _=>?_
  simp only [Function.comp]
  split<;>rfl
 ·simp [dM]
theorem qb {β γ:Type} (f:β→γ) (l:List (K×β)) (x:K):dM f (eV l x)=eV (dM f l) x:=by
 unfold eV dM
 rw [List.filter_map]
 rfl
theorem iq {β:Type} {x:K}: ∀ {l:List (K×β)},l.lookup x=none↔ ∀ p∈l,p.1≠x
 |[]=>by simp
 |p::l=>by
  obtain ⟨k,v⟩:=p
  by_cases h:x=k
  ·subst h; simp [List.lookup]
  ·have hb:(x==k)=false:=by simpa using h
   simp only [List.lookup,hb,bZ,forall_eq_or_imp]
   rw [iq (l:=l)]
   exact ⟨fun q=>⟨fun e=>h e.symm,q⟩,fun q=>q.2⟩
theorem j8 {β:Type} {x:K} {y:β}: ∀ {l:List (K×β)},(l.map (·.1)).Nodup→((x,y)∈l↔l.lookup x=some y)
 |[],_=>by simp
 |p::l,hn=>by
  obtain ⟨k,v⟩:=p
  simp only [List.map_cons,List.nodup_cons] at hn
  by_cases h:x=k
  ·subst h
   simp only [List.lookup,beq_self_eq_true,bZ,Prod.mk.injEq,true_and,Option.some.injEq]
   constructor
   ·rintro (e|e)
    ·exact e.symm
    ·exact absurd (cy.2 ⟨_,e,U⟩) hn.1
   ·intro e; exact .inl e.symm
  ·have hb:(x==k)=false:=by simpa using h
   simp only [List.lookup,hb,bZ,Prod.mk.injEq,h,false_and,false_or]
   exact j8 hn.2
structure fO (kV:K→Value) (es:Array MapEntry) (c:Nat) (m:List (K×Value)):Prop where
 list:es.toList.map (fun (e:MapEntry)=>(e.key,e.val))=m.map (fun p=>(kV p.1,p.2))
 keys:(m.map (·.1)).Nodup
 Fs: ∀ e∈es.toList,e.born<c
 born:(es.toList.map (·.born)).Nodup
def nt (kV:K→Value) (b:Nat) (m:List (K×Value)):au where
 dG k:=k=b
 wf k:=k=b
 holds w:= ∃ es c,w.heap[b]? =some (.map es c)∧fO kV es c m
 wr:=true
 iL _ h:=h
 whole _ _ h:=h
 lt w h k hk:=by obtain ⟨es,c,he,_⟩:=h; exact hk▸ee he
 kQ w w' hk h:=by obtain ⟨es,c,he,hm⟩:=h; exact ⟨es,c,(hk b rfl).trans he,hm⟩
theorem fO.nil:fO kV #[] 0 []:=⟨rfl,List.nodup_nil,sm,List.nodup_nil⟩
theorem fO.size {es:Array MapEntry} {c:Nat} {m:List (K×Value)} (h:fO kV es c m):es.size=m.length:=by
 have:=congrArg List.length h.list
 simpa using this
theorem u1 {P:Program} {kt:Nat} (hk:ui P kt kV) (x:K): ∀ (es:List MapEntry) (m:List (K×Value)),es.map (fun (e:MapEntry)=>(e.key,e.val))=m.map (fun p=>(kV p.1,p.2))→
 ((∀ e∈es,e.key≠kV x)→m.lookup x=none)∧ ∀ (j:Nat) (e:MapEntry),es[j]? =some e→e.key=kV x→m[j]? =some (x,e.val):=by
 intro es m h
 refine ⟨fun hn=>iq.2 fun p hp e=>?_,fun j e he hx=>?_⟩
 ·have:(kV p.1,p.2)∈es.map (fun (e:MapEntry)=>(e.key,e.val)):=by rw [h]; exact cy.2 ⟨p,hp,rfl⟩
  obtain ⟨z,hz,B⟩:=cy.1 this
  simp only [Prod.mk.injEq] at B
  exact hn z hz (by rw [B.1,e])
 ·have A:(es.map (fun (e:MapEntry)=>(e.key,e.val)))[j]? =some (e.key,e.val):=by rw [gD,he]; rfl
  rw [h,gD] at A
  cases hm:m[j]? with
  |none=>simp [hm] at A
  |some p=>
   simp only [hm,Option.map_some,Option.some.injEq,Prod.mk.injEq] at A
   have:=hk.inj _ _ (A.1.trans hx)
   obtain ⟨k,v⟩:=p
   simp only at this A
   rw [this,A.2]
theorem ou {P:Program} {w:World} {kt:Nat} {x:K} {es:Array MapEntry} {c:Nat} {m:List (K×Value)} (hk:ui P kt kV) (h:fO kV es c m):
 ((Instr.findKey kt (kV x) es.toList).run P w= .ok none w∧m.lookup x=none)∨
 ∃ j v,(Instr.findKey kt (kV x) es.toList).run P w= .ok (some (j,v)) w∧m[j]? =some (x,v)∧m.lookup x=some v:=by
 obtain ⟨D,E⟩:=u1 hk x es.toList m h.list
 rcases hk.find x w es.toList (fun e he=>by
  have:(e.key,e.val)∈m.map (fun p=>(kV p.1,p.2)):=by rw [← h.list]; exact cy.2 ⟨e,he,rfl⟩
  obtain ⟨p,_,hp⟩:=cy.1 this
  simp only [Prod.mk.injEq] at hp
  exact ⟨p.1,hp.1.symm⟩) with ⟨A,B⟩|⟨j,e,A,B,C⟩
 ·exact .inl ⟨A,D B⟩
 ·have:=E j e B C
  exact .inr ⟨j,e.val,A,this,(j8 h.keys).1 (aG this)⟩
theorem iR {P:Program} {w:World} {kt:Nat} {x:K} (hk:ui P kt kV) (e:Bool):(Instr.checkKey e 10000 kt (kV x)).run P w= .ok () w:=hk.check e x w
section
variable {E:dW} {ops:Array Oper} {Q:cq} {rest:List Oper} {D:List Deferred} {L:List (Nat×Value)} {C:List au}
variable {dst:Option Tmp} {d:Nat} {ty:TypeId} {ps:String} {af:Array Edge} {g:Option (Nat×Bool)}
theorem nG {t:TypeId} (hg:gW ops L g=true) (hd:Nat.blt d E.n=true) (k: ∀ b,RJ E ops Q rest D ((d,.map (some b))::L) (nt kV b []::C)):RJ E ops Q (⟨some d,.makeMap t none,ty,ps,af,g⟩::rest) D L C:=by
 intro a w B hs
 have hd':d<E.n:=by rw [← Nat.blt_eq]; exact hd
 unfold nv
 rw [if_pos (dw B hg)]
 refine fp (v:= .map (some w.heap.size)) (w':=w.alloc (.map #[] 0)) sm ?_ ?_
 ·simp [execOp,Instr.makeMap,newObj,Sem.run]
 ·refine k _ _ _ (B.put hd' _) (hs.grow (cQ.alloc no w _) (N:=[nt kV w.heap.size []]) ⟨fun A hA=>?_,fun A hA b hb=>?_,List.pairwise_singleton _ _⟩)
  ·simp at hA; subst hA; exact ⟨#[],0,heap_alloc_new w _,fO.nil⟩
  ·simp at hA; subst hA; exact Nat.le_of_eq (Eq.symm hb)
theorem fO.push {es:Array MapEntry} {c:Nat} {m:List (K×Value)} (h:fO kV es c m) {x:K} (hx:m.lookup x=none) (v:Value):fO kV (es.push {key:=kV x,val:=v,born:=c}) (c+1) (m++[(x,v)]):=by
 refine ⟨by simp [h.list],?_,?_,?_⟩
 ·rw [List.map_append,List.nodup_append]
  refine ⟨h.keys,sm,fun a ha b hb=>?_⟩
  simp at hb; subst hb
  obtain ⟨p,hp,rfl⟩:=cy.1 ha
  exact iq.1 hx p hp
 ·intro e he
  simp only [Array.toList_push,e9,cN] at he
  rcases he with he|rfl
  ·exact Nat.lt_succ_of_lt (h.Fs e he)
  ·exact Nat.lt_succ_self _
 ·simp only [Array.toList_push,List.map_append,List.map_cons,List.map_nil]
  rw [List.nodup_append]
  refine ⟨h.born,sm,fun a ha b hb=>?_⟩
  simp at hb; subst hb
  obtain ⟨p,hp,rfl⟩:=cy.1 ha
  exact Nat.ne_of_lt (h.Fs p hp)
theorem BC {m:List (K×Value)} {j:Nat} {x:K} {v0 v:Value} (hn:(m.map (·.1)).Nodup) (hj:m[j]? =some (x,v0)):m.map (fun p=>if p.1=x then (x,v) else p)=m.set j (x,v):=by
 refine List.ext_getElem? fun i=>?_
 rw [gD,List.getElem?_set]
 by_cases e:j=i
 ·subst e
  have hl:=(aV.1 hj).1
  rw [hj]; simp [hl]
 ·rw [if_neg e]
  cases hi:m[i]? with
  |none=>rfl
  |some p=>
   simp only [Option.map_some]
   rw [if_neg]
   intro hp
   have B:(m.map (·.1))[i]? =some x:=by rw [gD,hi]; simp [hp]
   have C:(m.map (·.1))[j]? =some x:=by rw [gD,hj]; rfl
   have A:=(aV.1 B).1
   exact e (((List.getElem?_inj A hn).1 (B.trans C.symm)).symm)
theorem fO.set {es:Array MapEntry} {c:Nat} {m:List (K×Value)} (h:fO kV es c m) {x:K} {j:Nat} {v0:Value} (hj:m[j]? =some (x,v0)) (hx:m.lookup x=some v0) (v:Value):
 fO kV (es.modify j fun e=>{e with key:=kV x,val:=v}) c (g9 m x v):=by
 have C:g9 m x v=m.set j (x,v):=by unfold g9; rw [hx]; simpa using BC h.keys hj
 have hl:=(aV.1 hj).1
 have E:=h.size
 have A:j<es.size:=by omega
 have B:(es.modify j fun e=>{e with key:=kV x,val:=v}).toList=es.toList.set j {(es[j]) with key:=kV x,val:=v}:=by
  refine List.ext_getElem? fun i=>?_
  rw [Array.getElem?_toList,Array.getElem?_modify,List.getElem?_set]
  by_cases e:j=i
  ·subst e; simp [A]
  ·simp [e]
 have D:(es.toList.set j {(es[j]) with key:=kV x,val:=v}).map (·.born)=es.toList.map (·.born):=by
  rw [List.map_set]
  refine List.ext_getElem? fun i=>?_
  rw [List.getElem?_set]
  by_cases e:j=i
  ·subst e; simp [A]
  ·rw [if_neg e]
 refine ⟨?_,?_,?_,?_⟩
 ·rw [B,C,List.map_set,List.map_set,h.list]
 ·rw [C,List.map_set]
  have:(m.map (·.1)).set j x=m.map (·.1):=by
   refine List.ext_getElem? fun i=>?_
   rw [List.getElem?_set]
   by_cases e:j=i
   ·subst e; simp [hl]; simpa using (congrArg Prod.fst ((aV.1 hj).2)).symm
   ·rw [if_neg e]
  simp only [this]
  exact h.keys
 ·intro e he
  rw [B] at he
  have hb:e.born∈(es.toList.set j {(es[j]) with key:=kV x,val:=v}).map (·.born):=cy.2 ⟨e,he,rfl⟩
  rw [D] at hb
  obtain ⟨e',he',hq⟩:=cy.1 hb
  rw [← hq]; exact h.Fs e' he'
 ·rw [B,D]; exact h.born
/-- m[x] = y -/
theorem oJ {t kt et:TypeId} {xm xk xv:Operand} {b:Nat} {x:K} {v:Value} {m m':List (K×Value)} {C':List au} (i:Nat) (hg:gW ops L g=true) (hm:ev L xm=some (.map (some b))) (hk:ev L xk=some (kV x)) (hv:ev L xv=some v)
 (ht:E.P.underlying t=some (.map kt et)) (hkt:ui E.P kt kV) (hC:C[i]? =some (nt kV b m)) (hm':g9 m x v=m') (hC':C.set i (nt kV b m')=C') (k:RJ E ops Q rest D L C'):
 RJ E ops Q (⟨none,.mapUpdate t xm xk xv,ty,ps,af,g⟩::rest) D L C:=by
 subst hm' hC'
 intro a w A hs
 unfold nv
 rw [if_pos (dw A hg)]
 obtain ⟨es,c,he,hi⟩:=hs.holds _ (aG hC)
 have B:(getObj b).run E.P w= .ok (.map es c) w:=MapKept.run_getObj_map he
 rcases ou (P:=E.P) (w:=w) (x:=x) hkt hi with ⟨AA,F⟩|⟨j,N,AA,F,J⟩
 ·refine pH (w':={w with heap:=w.heap.setIfInBounds b (.map (es.push {key:=kV x,val:=v,born:=c}) (c+1))}) sm ?_ ?_
  ·simp [execOp,A.ev hm,A.ev hk,A.ev hv,Instr.mapUpdate,run_underlying ht,B,iR hkt,AA,MapKept.run_setObj_map _ he]
  ·refine k _ _ ⟨A.defers,A.size,A.at_⟩ (hs.vb (b:=b) i hC U U (mq _) (fun _ h=>h) ⟨_,_,ob he,?_⟩)
   have:g9 m x v=m++[(x,v)]:=by unfold g9; rw [F]; rfl
   rw [this]; exact hi.push F v
 ·have M:=hi.size
  have G:j<es.size:=by have:=(aV.1 F).1; omega
  have H:(es[j]).key=kV x:=by
   have:=congrArg (fun l=>l[j]?) hi.list
   simp [G,F] at this
   exact this.1
  refine pH (w':={w with heap:=w.heap.setIfInBounds b (.map (es.modify j fun e=>{e with key:=kV x,val:=v}) c)}) sm ?_ ?_
  ·simp [execOp,A.ev hm,A.ev hk,A.ev hv,Instr.mapUpdate,run_underlying ht,B,iR hkt,AA,MapKept.run_setObj_map _ he,Instr.keyThatStays,G,H,hkt.bits x]
  ·exact k _ _ ⟨A.defers,A.size,A.at_⟩ (hs.vb (b:=b) i hC U U (mq _) (fun _ h=>h) ⟨_,_,ob he,hi.set F J v⟩)
theorem fO.del {es:Array MapEntry} {c:Nat} {m:List (K×Value)} (h:fO kV es c m) {x:K} {j:Nat} {v0:Value} (hj:m[j]? =some (x,v0)):fO kV (es.eraseIdxIfInBounds j) c (eV m x):=by
 have hl:=(aV.1 hj).1
 have D:=h.size
 have A:j<es.size:=by omega
 have B:(es.eraseIdxIfInBounds j).toList=es.toList.eraseIdx j:=by simp [Array.eraseIdxIfInBounds,A]
 have E:eV m x=m.eraseIdx j:=by
  have hn:=h.keys
  clear h D A B
  induction m generalizing j with
  |nil=>simp at hj
  |cons p m ih=>
   obtain ⟨k,v⟩:=p
   simp only [List.map_cons,List.nodup_cons] at hn
   cases j with
   |zero=>
    simp at hj
    obtain ⟨rfl,rfl⟩:=hj
    simp only [eV,List.eraseIdx_zero,List.tail_cons]
    rw [List.filter_cons_of_neg sm]
    refine List.filter_eq_self.2 fun p hp=>?_
    have:p.1≠k:=fun e=>hn.1 (cy.2 ⟨p,hp,e⟩)
    simpa using this
   |succ j=>
    simp only [List.getElem?_cons_succ] at hj
    have C:k≠x:=fun e=>hn.1 (cy.2 ⟨_,aG hj,e.symm⟩)
    simp only [eV,List.eraseIdx_cons_succ] at ih ⊢
    rw [List.filter_cons_of_pos (by simpa using C),ih hj (by simpa using (aV.1 hj).1) hn.2]
 have sub:(es.eraseIdxIfInBounds j).toList.Sublist es.toList:=by rw [B]; exact List.eraseIdx_sublist _ _
 refine ⟨?_,?_,fun e he=>h.Fs e (sub.subset he),h.born.sublist (sub.map _)⟩
 ·rw [B,E,ChangeMaps.map_eraseIdx,ChangeMaps.map_eraseIdx,h.list]
 ·rw [E]; exact h.keys.sublist ((List.eraseIdx_sublist _ _).map _)
theorem vo {m:List (K×Value)} {x:K} (h:m.lookup x=none):eV m x=m:=List.filter_eq_self.2 fun p hp=>by simpa using iq.1 h p hp
/-- m[x] -/
theorem xN {t kt et:TypeId} {xm xk:Operand} {b:Nat} {x:K} {z:Value} {m:List (K×Value)} (hg:gW ops L g=true) (hm:ev L xm=some (.map (some b))) (hk:ev L xk=some (kV x))
 (ht:E.P.underlying t=some (.map kt et)) (hkt:ui E.P kt kV) (hz:tV E.P et=some z) (hC:iK C (nt kV b m).holds):
 SD E ops ⟨dst,.lookup t xm xk false,ty,ps,af,g⟩ D L C ((m.lookup x).getD z):=
 dh hg sm fun a w A hs=>by
  obtain ⟨es,c,he,hi⟩:=hs.has hC
  have B:(getObj b).run E.P w= .ok (.map es c) w:=MapKept.run_getObj_map he
  rcases ou (P:=E.P) (w:=w) (x:=x) hkt hi with ⟨F,G⟩|⟨j,AA,F,G,H⟩
  ·simp [execOp,Instr.lookup,A.ev hm,A.ev hk,run_underlying ht,B,iR hkt,F,G,Fi hz]
  ·simp [execOp,Instr.lookup,A.ev hm,A.ev hk,run_underlying ht,B,iR hkt,F,H]
theorem tv {β:Type} {t kt et:TypeId} {xm xk:Operand} {b:Nat} {x:K} {f:β→Value} {z:β} {l:List (K×β)} (hg:gW ops L g=true) (hm:ev L xm=some (.map (some b))) (hk:ev L xk=some (kV x))
 (ht:E.P.underlying t=some (.map kt et)) (hkt:ui E.P kt kV) (hz:tV E.P et=some (f z)) (hC:iK C (nt kV b (dM f l)).holds):
 SD E ops ⟨dst,.lookup t xm xk false,ty,ps,af,g⟩ D L C (f ((l.lookup x).getD z)):=by
 have:=xN (dst:=dst) (ty:=ty) (ps:=ps) (af:=af) (D:=D) hg hm hk ht hkt hz hC
 rw [k7] at this
 have A:((l.lookup x).map f).getD (f z)=f ((l.lookup x).getD z):=by cases l.lookup x<;>rfl
 rw [A] at this
 exact this
end
theorem ks {β:Type} {x:K} {y:β} {l:List (K×β)} (h:(x,y)∈l):(eV l x).length<l.length:=by
 unfold eV
 exact List.length_filter_lt_length_iff_exists.2 ⟨_,h,sm⟩
theorem zK {es:Array MapEntry} {c:Nat} {m:List (K×Value)} (hinj: ∀ x y,kV x=kV y→x=y) (hi:fO kV es c m) {x y:MapEntry} (hx:x∈es.toList) (hy:y∈es.toList) (e:x.key=y.key):x=y:=by
 have hk:(es.toList.map (·.key))=(m.map (·.1)).map kV:=by
  have:=congrArg (List.map Prod.fst) hi.list
  simpa [Function.comp_def] using this
 have h:(es.toList.map (·.key)).Nodup:=by
  rw [hk,List.nodup_iff_pairwise_ne,List.pairwise_map]
  exact hi.keys.imp (fun B he=>B (hinj _ _ he))
 obtain ⟨i,A⟩:=List.getElem?_of_mem hx
 obtain ⟨j,hj⟩:=List.getElem?_of_mem hy
 have C:(es.toList.map (·.key))[i]? =some x.key:=by rw [gD,A]; rfl
 have D:(es.toList.map (·.key))[j]? =some x.key:=by rw [gD,hj,e]; rfl
 have E:=(List.getElem?_inj (aV.1 C).1 h).1 (C.trans D.symm)
 subst E
 exact Option.some.inj (A.symm.trans hj)
section
variable {E:dW} {ops:Array Oper} {Q:cq} {rest:List Oper} {D:List Deferred} {L:List (Nat×Value)} {C:List au}
variable {dst:Option Tmp} {d:Nat} {ty:TypeId} {ps:String} {af:Array Edge} {g:Option (Nat×Bool)}
theorem uH {es:Array MapEntry} {c:Nat} {m left:List (K×Value)} {seen:Array Nat} (hinj: ∀ x y,kV x=kV y→x=y) (hi:fO kV es c m) (h:(leftOf es seen).toList.map (fun (e:MapEntry)=>(e.key,e.val))=left.map (fun p=>(kV p.1,p.2))):(left.map (·.1)).Nodup:=by
 have B:((leftOf es seen).toList.map (·.key)).Sublist (es.toList.map (·.key)):=by
  unfold leftOf; rw [Array.toList_filter]; exact List.filter_sublist.map _
 have D:(es.toList.map (·.key))=(m.map (·.1)).map kV:=by
  have:=congrArg (List.map Prod.fst) hi.list
  simpa [Function.comp_def] using this
 have E:((leftOf es seen).toList.map (·.key))=(left.map (·.1)).map kV:=by
  have:=congrArg (List.map Prod.fst) h
  simpa [Function.comp_def] using this
 rw [D,E] at B
 have F:((m.map (·.1)).map kV).Nodup:=by
  rw [List.nodup_iff_pairwise_ne,List.pairwise_map]
  exact hi.keys.imp (fun A he=>A (hinj _ _ he))
 have C:=F.sublist B
 rw [List.nodup_iff_pairwise_ne,List.pairwise_map] at C
 rw [List.nodup_iff_pairwise_ne]
 exact C.imp (fun A he=>A (by rw [he]))
end
end
end
section
abbrev BM:=List (Int×Bool)
def fV (m:BM) (P:Nat→Prop):Prop:=(m.map (·.1)).Nodup∧ ∀ x b,(x,b)∈m↔b=true∧ ∃ i:Nat,x=(i:Int)∧P i
theorem BQ:fV [] (fun _=>False):=⟨sm,fun x b=>by simp⟩
theorem nJ {m:BM} {P R:Nat→Prop} (h:fV m P) (he: ∀ i,P i↔R i):fV m R:=⟨h.1,fun x b=>by rw [h.2]; simp only [he]⟩
theorem wm {m:BM} {P:Nat→Prop} (h:fV m P) {i:Nat}:((i:Int),true)∈m↔P i:=by
 rw [h.2]
 constructor
 ·rintro ⟨_,k,e,hk⟩; obtain rfl:i=k:=by omega
  exact hk
 ·exact fun hp=>⟨U,i,U,hp⟩
theorem iw {m:BM} {P:Nat→Prop} (h:fV m P) {i:Nat}:(List.lookup (i:Int) m).getD false=true↔P i:=by
 rw [← wm h]
 constructor
 ·intro hl
  cases e:List.lookup (i:Int) m with
  |none=>rw [e] at hl; cases hl
  |some b=>
   rw [e,Option.getD_some] at hl; subst hl
   exact (j8 h.1).2 e
 ·intro hm; rw [(j8 h.1).1 hm]; rfl
theorem Cd {m:BM} {P:Nat→Prop} (h:fV m P) {i:Nat} (hn: ¬ P i):fV (g9 m (i:Int) true) (fun k=>P k∨k=i):=by
 have e:g9 m (i:Int) true=m++[((i:Int),true)]:=by
  have:m.lookup (i:Int)=none:=iq.2 fun p hp q=>by
   obtain ⟨x,b⟩:=p
   obtain ⟨_,k,e,hk⟩:=(h.2 x b).1 hp
   simp only at q
   obtain rfl:i=k:=by omega
   exact hn hk
  unfold g9; rw [this]; rfl
 rw [e]
 refine ⟨?_,fun x b=>?_⟩
 ·rw [List.map_append,List.nodup_append]
  refine ⟨h.1,sm,fun a ha c hc=>?_⟩
  simp only [List.map_cons,List.map_nil,cN] at hc
  obtain ⟨⟨y,b⟩,hy,rfl⟩:=cy.1 ha
  obtain ⟨_,k,e,hk⟩:=(h.2 y b).1 hy
  subst hc
  intro q
  simp only at q
  obtain rfl:i=k:=by omega
  exact hn hk
 ·rw [e9,h.2,cN,Prod.mk.injEq]
  constructor
  ·rintro (⟨rfl,k,rfl,hk⟩|⟨rfl,rfl⟩)
   ·exact ⟨U,k,U,.inl hk⟩
   ·exact ⟨U,i,U,.inr U⟩
  ·rintro ⟨rfl,k,rfl,hk|rfl⟩
   ·exact .inl ⟨U,k,U,hk⟩
   ·exact .inr ⟨U,U⟩
theorem Cv {m:BM} {P:Nat→Prop} (h:fV m P) {i:Nat}:fV (eV m (i:Int)) (fun k=>P k∧k≠i):=by
 have e:(eV m (i:Int)).map (·.1)=(m.map (·.1)).filter fun k=> !decide (k=(i:Int)):=by
  unfold eV; rw [List.filter_map]; rfl
 refine ⟨by rw [e]; exact h.1.filter _,fun x b=>?_⟩
 unfold eV
 rw [List.mem_filter,h.2]
 simp only [Bool.not_eq_true',decide_eq_false_iff_not]
 constructor
 ·rintro ⟨⟨rfl,k,rfl,hk⟩,A⟩; exact ⟨rfl,k,rfl,hk,fun q=>A (by rw [q])⟩
 ·rintro ⟨rfl,k,rfl,hk,A⟩; exact ⟨⟨rfl,k,rfl,hk⟩,fun q=>A om⟩
theorem Cf {m:BM} {P:Nat→Prop} (h:fV m P) {n:Nat} (hn: ∀ i,P i→i<n):m.length≤n:=by
 have A: ∀ x∈m.map (·.1),x∈(List.range n).map fun (i:Nat)=>(i:Int):=fun x hx=>by
  obtain ⟨⟨y,b⟩,hy,rfl⟩:=cy.1 hx
  obtain ⟨_,i,e,hi⟩:=(h.2 y b).1 hy
  exact cy.2 ⟨i,List.mem_range.2 (hn i hi),e.symm⟩
 have:=List.Nodup.length_le_of_subset h.1 A
 simpa using this
theorem vk {m:BM} {P:Nat→Prop} (h:fV m P) {i:Nat} (hi:P i):(eV m (i:Int)).length+1=m.length:=by
 have hm:=(wm h).2 hi
 have hn:=h.1
 clear h
 unfold eV
 induction m with
 |nil=>cases hm
 |cons p m ih=>
  obtain ⟨x,b⟩:=p
  rw [List.map_cons,List.nodup_cons] at hn
  by_cases e:x=(i:Int)
  ·subst e
   have:m.filter (fun p=> !decide (p.1=(i:Int)))=m:=by
    rw [List.filter_eq_self]
    intro q hq
    simp only [Bool.not_eq_true',decide_eq_false_iff_not]
    exact fun e=>hn.1 (cy.2 ⟨q,hq,e⟩)
   simp [this]
  ·rcases bZ.1 hm with q|q
   ·simp only [Prod.mk.injEq] at q; exact absurd q.1.symm e
   ·have:=ih q hn.2
    simp only [List.filter_cons,e,decide_false,Bool.not_false,if_true,List.length_cons]
    omega
def gF (d:ah) (P:Nat→Prop) (s:ae) (i:Nat):Prop:=P i∧ ∃ p,d.aA[i]? =some p∧hO d s p.de
noncomputable def l_ (d:ah) (P:Nat→Prop) (s:ae):List Int:=fz d.aA.length (gF d P s)
def gd (d:ah) (x:Int):ae:=((d.aA[x.toNat]?).map (·.de)).getD d.bM
theorem qZ {d:ah} {i:Nat} {p:aj} (h:d.aA[i]? =some p):gd d (i:Int)=p.de:=by unfold gd; rw [Int.toNat_natCast,h]; rfl
structure o1 (d:ah) (S L:Nat→Prop) (todo:List ae) (l:List Int):Prop where
 left: ∀ i:Nat,L i↔(S i∧i<d.aA.length)∧(i:Int) ∉ l
 calls: ∀ x∈l,∃ i:Nat,x=(i:Int)∧gf d S i
 nodup:l.Nodup
 src: ∀ s∈todo,s=d.bM∨ ∃ (i:Nat) (p:aj),gf d S i∧d.aA[i]? =some p∧p.de=s
 dm:d.bM∈todo∨ ∀ (i:Nat) (p:aj),L i→d.aA[i]? =some p→ ¬ hO d d.bM p.de
 DA: ∀ (k:Nat) (q:aj),(k:Int)∈l→d.aA[k]? =some q→q.de∈todo∨ ∀ (i:Nat) (p:aj),L i→d.aA[i]? =some p→ ¬ hO d q.de p.de
theorem vn {d:ah} {S L:Nat→Prop} (h: ∀ i,L i↔S i∧i<d.aA.length):o1 d S L [d.bM] []:=
 ⟨fun i=>by rw [h]; simp,fun x hx=>by simp at hx,sm,fun s hs=> .inl (by simpa using hs),.inl sm,fun k q hk=>by simp at hk⟩
theorem xf {d:ah} {S L L':Nat→Prop} {s:ae} {rest:List ae} {l:List Int} (h:o1 d S L (s::rest) l) (hl: ∀ i:Nat,L' i↔L i∧(i:Int) ∉ l_ d L s):o1 d S L' (rest++(l_ d L s).map (gd d)) (l++l_ d L s):=by
 have B: ∀ x∈l_ d L s,∃ i:Nat,x=(i:Int)∧gf d S i:=by
  intro x hx
  obtain ⟨i,rfl,D,hL,p,hp,hh⟩:=iG.1 hx
  refine ⟨i,U,?_⟩
  have hS:=((h.left i).1 hL).1.1
  rcases h.src s sm with e|⟨k,q,hk,hq,e⟩
  ·subst e; exact .dm hS hp hh
  ·subst e; exact .post hk hq hS hp hh
 have C: ∀ (k:Nat) (q:aj),(k:Int)∈l_ d L s→d.aA[k]? =some q→q.de∈(l_ d L s).map (gd d):=fun k q hk hq=>cy.2 ⟨(k:Int),hk,qZ hq⟩
 have A: ∀ (i:Nat) (p:aj),L' i→d.aA[i]? =some p→ ¬ hO d s p.de:=fun i p hi hp hh=>by
  obtain ⟨D,E⟩:=(hl i).1 hi
  exact E (r_.2 ⟨(aV.1 hp).1,D,p,hp,hh⟩)
 refine ⟨fun i=>?_,fun x hx=>?_,?_,fun z hz=>?_,?_,fun k q hk hq=>?_⟩
 ·rw [hl,h.left,e9]
  constructor
  ·rintro ⟨⟨D,E⟩,F⟩; exact ⟨D,fun q=>q.elim E F⟩
  ·rintro ⟨D,E⟩; exact ⟨⟨D,fun q=>E (.inl q)⟩,fun q=>E (.inr q)⟩
 ·rcases e9.1 hx with hx|hx
  ·exact h.calls x hx
  ·exact B x hx
 ·rw [List.nodup_append]
  refine ⟨h.nodup,j4.imp (fun h=>by omega),fun a ha b hb e=>?_⟩
  subst e
  obtain ⟨i,rfl,_,hL,_⟩:=iG.1 hb
  exact ((h.left i).1 hL).2 ha
 ·rcases e9.1 hz with hz|hz
  ·exact h.src z (fA _ hz)
  ·obtain ⟨x,hx,rfl⟩:=cy.1 hz
   obtain ⟨i,rfl,hc⟩:=B x hx
   have hp:d.aA[i]? =some (d.aA[i]'hc.lt):=eu _
   exact .inr ⟨i,_,hc,hp,(qZ hp).symm⟩
 ·rcases h.dm with q|q
  ·rcases bZ.1 q with e|q
   ·right; rw [e]; exact A
   ·exact .inl (List.mem_append_left _ q)
  ·exact .inr fun i p hi=>q i p ((hl i).1 hi).1
 ·rcases e9.1 hk with hk|hk
  ·rcases h.DA k q hk hq with e|e
   ·rcases bZ.1 e with e|e
    ·right; rw [e]; exact A
    ·exact .inl (List.mem_append_left _ e)
   ·exact .inr fun i p hi=>e i p ((hl i).1 hi).1
  ·exact .inl (List.mem_append_right _ (C k q hk hq))
theorem xe {d:ah} {S L:Nat→Prop} {l s:List Int} (h:o1 d S L [] l) (hp:s.Perm l) (hs:s.Pairwise (· ≤ ·)):s=iB d S:=by
 refine p_ ?_ fun x=>?_
 ·have hn:s.Nodup:=hp.nodup_iff.2 h.nodup
  exact (hs.and hn).imp fun h=>by have:=h.1; have:=h.2; omega
 ·rw [hp.mem_iff]
  constructor
  ·intro hx
   obtain ⟨i,rfl,hc⟩:=h.calls x hx
   exact ⟨i,U,hc.lt,hc⟩
  ·rintro ⟨i,rfl,hi,hc⟩
   clear hi
   induction hc with
   | @dm i p hS hp hh=>
    rcases Classical.em ((i:Int)∈l) with q|q
    ·exact q
    ·rcases h.dm with e|e
     ·cases e
     ·exact absurd hh (e i p ((h.left i).2 ⟨⟨hS,(aV.1 hp).1⟩,q⟩) hp)
   | @post k i q p hk hq hS hp hh ih=>
    rcases Classical.em ((i:Int)∈l) with e|e
    ·exact e
    ·rcases h.DA k q ih hq with u|u
     ·cases u
     ·exact absurd hh (u i p ((h.left i).2 ⟨⟨hS,(aV.1 hp).1⟩,e⟩) hp)
theorem tI {d:ah} {S L:Nat→Prop} {todo:List ae} {l:List Int} (h:o1 d S L todo l):l.length≤d.aA.length:=by
 have A: ∀ x∈l,x∈(List.range d.aA.length).map fun (i:Nat)=>(i:Int):=fun x hx=>by
  obtain ⟨i,rfl,hc⟩:=h.calls x hx
  exact cy.2 ⟨i,List.mem_range.2 hc.lt,U⟩
 have:=(List.nodup_iff_count.1 h.nodup)
 have hl:=List.Nodup.length_le_of_subset h.nodup A
 simpa using hl
theorem sY {m:BM} {S:Nat→Prop} {i:Nat} (h:fV m (fun k=>S k∧k<i)) (hb:S i):fV (g9 m (i:Int) true) (fun k=>S k∧k<i+1):=
 nJ (Cd h (fun q=>by omega)) fun k=>by
  constructor
  ·rintro (⟨a,b⟩|rfl)
   ·exact ⟨a,om⟩
   ·exact ⟨hb,om⟩
  ·rintro ⟨a,b⟩
   by_cases e:k=i
   ·exact .inr e
   ·exact .inl ⟨a,om⟩
theorem wN {m:BM} {S:Nat→Prop} {i:Nat} (h:fV m (fun k=>S k∧k<i)) (hb: ¬ S i):fV m (fun k=>S k∧k<i+1):=
 nJ h fun k=>by
  constructor
  ·rintro ⟨a,b⟩; exact ⟨a,om⟩
  ·rintro ⟨a,b⟩
   by_cases e:k=i
   ·subst e; exact absurd a hb
   ·exact ⟨a,om⟩
theorem AV {k:List Int} {j:Nat} {x y:Int} (hx:k[j]? =some x):y∈k.take (j+1)↔y∈k.take j∨y=x:=by
 rw [List.take_add_one,hx,e9]
 simp
theorem AK {m:BM} {L:Nat→Prop} {k:List Int} {j:Nat} {x:Int} {i:Nat} (h:fV m (fun q=>L q∧(q:Int) ∉ k.take j)) (hx:k[j]? =some x) (hi:x=(i:Int)):fV (eV m x) (fun q=>L q∧(q:Int) ∉ k.take (j+1)):=by
 subst hi
 refine nJ (Cv h) fun q=>?_
 rw [AV hx]
 constructor
 ·rintro ⟨⟨a,b⟩,c⟩; exact ⟨a,fun e=>e.elim b (fun e=>c om)⟩
 ·rintro ⟨a,b⟩; exact ⟨⟨a,fun e=>b (.inl e)⟩,fun e=>b (.inr (by rw [e]))⟩
theorem vG {k:List Int} {j:Nat} {x:Int} (hn:k.Nodup) (hx:k[j]? =some x):x ∉ k.take j:=by
 intro h
 obtain ⟨q,hq⟩:=List.getElem?_of_mem h
 have E:=aV.1 hq
 obtain ⟨C,F⟩:=E
 rw [List.length_take] at C
 rw [List.getElem?_take,if_pos om] at hq
 obtain ⟨A,B⟩:=aV.1 hx
 obtain ⟨G,D⟩:=aV.1 hq
 have:=(d_.1 hn) q j om A om
 exact this (D.trans B.symm)
theorem th {m:BM} {L:Nat→Prop} {k:List Int} {j:Nat} {x:Int} {i:Nat} (h:fV m (fun q=>L q∧(q:Int) ∉ k.take j)) (hn:k.Nodup) (hx:k[j]? =some x) (hi:x=(i:Int)) (hL:L i):(eV m x).length+1=m.length:=by
 subst hi
 exact vk h ⟨hL,vG hn hx⟩
theorem vq {d:ah} {L:Nat→Prop} {s:ae}:(l_ d L s).Nodup:=j4.imp fun h=>by omega
theorem z5 {d:ah} {x:Int} {p:aj} (h:d.aA[x.toNat]? =some p):gd d x=p.de:=by unfold gd; rw [h]; rfl
theorem qO {d:ah} {k:List Int} {j:Nat} {x:Int} {p:aj} (hx:k[j]? =some x) (hp:d.aA[x.toNat]? =some p):(k.take (j+1)).map (gd d)=(k.take j).map (gd d)++[p.de]:=by
 rw [List.take_add_one,hx,List.map_append]
 simp [z5 hp]
theorem oN {d:ah} {a b:ae} (h1:(dQ d.ak a b).Lo≤(dQ d.ak a b).Hi) (h2:0≤d.bP):kf [(dQ d.ak a b).Lo,(dQ d.ak a b).Hi]≤d.bP↔hO d a b:=by
 unfold hO
 show max (max (max (max 0 _) (-_)) _) (-_)≤_↔_
 omega
theorem iN {d:ah} {a b:ae} (e:b=a) (h:a.hG.Lo=a.hG.Hi) (h2:0≤d.bP):hO d a b:=by
 subst e
 unfold hO dQ mL
 rw [if_neg om,show max b.ax b.ax-min b.ax b.ax=0 by omega]
 simp only [Int.toNat_zero,bW,gl,fG,ik]
 omega
theorem zM {d:ah} (hok:gL d) {S L:Nat→Prop} {td:List ae} {l:List Int} (h:o1 d S L td l) {s:ae} (hs:s∈td):cD d.ak s:=by
 rcases h.src s hs with e|⟨i,p,_,hp,e⟩
 ·subst e; exact hok.dm
 ·subst e; exact (hok.post i p hp).2.2.1
end
section
open Go.RowKit
/-- a slice of one's own whose first elements have been passed -/
def oq (a:OA) (c:Nat) (e sz:Nat) (es:List (List Value)):au where
 dG b:= ∃ ad,a=some ad∧b=ad.block
 wf b:= ∃ ad,a=some ad∧b=ad.block
 holds w:= ∃ (a0:OA) (c0:Nat) (pre:List (List Value)),(own a0 c0 e sz (pre++es)).holds w∧c+pre.length=c0∧(0<c→a=a0.map (·.add (pre.length*sz)))∧a.map (·.block)=a0.map (·.block)
 wr:=true
 iL _ h:=h
 whole _ _ h:=h
 lt w h b hb:=by
  obtain ⟨ad,rfl,rfl⟩:=hb
  obtain ⟨a0,c0,pre,h1,_,_,h2⟩:=h
  cases a0 with
  |none=>simp at h2
  |some ad0=>
   simp only [Option.map_some,Option.some.injEq] at h2
   rw [h2]; exact (own (some ad0) c0 e sz (pre++es)).lt w h1 _ ⟨_,rfl,rfl⟩
 kQ w w' hk h:=by
  obtain ⟨a0,c0,pre,h1,h2,h3,h4⟩:=h
  refine ⟨a0,c0,pre,(own a0 c0 e sz (pre++es)).kQ w w' (fun b hb=>?_) h1,h2,h3,h4⟩
  obtain ⟨ad0,rfl,rfl⟩:=hb
  cases a with
  |none=>simp at h4
  |some ad=>
   simp only [Option.map_some,Option.some.injEq] at h4
   exact hk _ ⟨ad,rfl,h4.symm⟩
theorem Ad {w:World} {a:OA} {c e sz:Nat} {es:List (List Value)} (h:(own a c e sz es).holds w):(oq a c e sz es).holds w:=
 ⟨a,c,[],h,rfl,fun _=>by cases a<;>simp [Addr.add],rfl⟩
theorem uM {w:World} {a:OA} {c e sz:Nat} {es:List (List Value)} (h:(oq a c e sz es).holds w):es.length≤c:=by
 obtain ⟨B,C,pre,A,D,_,_⟩:=h
 have:=vZ A
 rw [List.length_append] at this; omega
theorem De {w:World} {a:OA} {c e sz:Nat} {es:List (List Value)} (h:(oq a c e sz es).holds w):(rd a es.length sz es).holds w:=by
 have C:=uM h
 obtain ⟨G,H,pre,D,AA,E,_⟩:=h
 obtain ⟨F,A,B⟩:=sJ D
 refine ⟨U,fun x hx=>A x (List.mem_append_right _ hx),fun hp=>?_⟩
 have hs:0<sz:=Nat.pos_of_mul_pos_left hp
 have hn:0<es.length:=Nat.pos_of_mul_pos_right hp
 obtain ⟨ad,hA,hc⟩:=B (Nat.mul_pos (by rw [List.length_append]; omega) hs)
 refine ⟨ad.add (pre.length*sz),by rw [E om,hA]; rfl,fun i x j v hx hv=>?_⟩
 have:=hc (pre.length+i) x j v (by rw [List.getElem?_append_right om,Nat.add_sub_cancel_left]; exact hx) hv
 rw [lv,show pre.length*sz+(i*sz+j)=(pre.length+i)*sz+j by rw [Nat.add_mul,Nat.add_assoc]]
 exact this
theorem tn {C:List au} {a:OA} {c e sz n:Nat} {es:List (List Value)} (i:Nat) (hC:C[i]? =some (oq a c e sz es)) (hn:es.length=n):iK C (rd a n sz es).holds:=fun w hw=>by subst hn; exact De (hw _ (aG hC))
/-- the first one is passed -/
theorem BR {w:World} {a:OA} {c e sz:Nat} {x:List Value} {es:List (List Value)} (h:(oq a c e sz (x::es)).holds w):(oq (mJ a c 1 sz) (c-1) e sz es).holds w:=by
 have A:=uM h
 obtain ⟨C,D,pre,E,G,F,B⟩:=h
 simp only [List.length_cons] at A
 refine ⟨C,D,pre++[x],by rw [List.append_assoc]; exact E,by rw [List.length_append]; simp; omega,fun hc=>?_,?_⟩
 ·unfold mJ
  rw [if_neg om,F om,Option.map_map,List.length_append]
  congr 1
  funext ad
  simp [Function.comp,lv,Nat.add_mul]
 ·unfold mJ
  split
  ·exact B
  ·rw [← B,Option.map_map]
   cases a<;>simp [Function.comp,Addr.add]
   split<;>rfl
theorem GX {a:OA} {c e sz:Nat} {es:List (List Value)}:(∀ w,(own a c e sz es).holds w→(oq a c e sz es).holds w)∧(∀ b,(oq a c e sz es).dG b→(own a c e sz es).dG b)∧ ∀ b,(oq a c e sz es).wf b→(own a c e sz es).wf b:=
 ⟨fun w h=>Ad h,fun b h=>h,fun b h=>h⟩
theorem B7 {a:OA} {c e sz:Nat} {x:List Value} {es:List (List Value)}:(∀ w,(oq a c e sz (x::es)).holds w→(oq (mJ a c 1 sz) (c-1) e sz es).holds w)∧(∀ b,(oq (mJ a c 1 sz) (c-1) e sz es).dG b→(oq a c e sz (x::es)).dG b)∧ ∀ b,(oq (mJ a c 1 sz) (c-1) e sz es).wf b→(oq a c e sz (x::es)).wf b:=by
 have key: ∀ b,(∃ ad,mJ a c 1 sz=some ad∧b=ad.block)→ ∃ ad,a=some ad∧b=ad.block:=by
  rintro b ⟨ad,h,rfl⟩
  unfold mJ at h
  split at h
  ·exact ⟨ad,h,U⟩
  ·cases a with
   |none=>cases h
   |some a1=>
    simp only [Option.map_some,Option.some.injEq] at h
    refine ⟨a1,U,?_⟩
    rw [← h]; unfold Addr.add; split<;>rfl
 exact ⟨fun w h=>BR h,key,key⟩
theorem GJ {E:dW} {code:Code} {Q:cq} {D:eU} {L:cG} {C C':List au} {A B:au} (i:Nat) (hC:C[i]? =some A) (hh:(∀ w,A.holds w→B.holds w)∧(∀ b,B.dG b→A.dG b)∧ ∀ b,B.wf b→A.wf b) (hC':C.set i B=C') (h:WJ E code Q D L C'):WJ E code Q D L C:=fun a w hf hs=>
 h a w hf (hC'▸hs.imp i hC hh.1 hh.2.1 hh.2.2)
section
variable {P:Program}
/-- append in place, behind an element that is not the first of the block -/
theorem pN (w:World) (t ty e:TypeId) (i:TypeInfo) (ht:P.underlying t=some (.slice e)) (hi:P.info? e=some i) (g o sLen sCap:Nat) (cur:Array Value) (hg:w.heap[g]? =some (.cells cur e (0,0)))
 (a:Addr) (m c:Nat) (news:List Value) (hl:news.length=m*i.size) (hnews: ∀ j u,news[j]? =some u→w.cell? (a.add j)=some u) (h1: ∀ u∈news,u.oneCell'=true) (hroom:sLen+m≤sCap) (hfit:o+sLen*i.size+news.length≤cur.size):
 (Builtin.append_ #[t,t] ty #[.slice (some ⟨g,o,none⟩) sLen sCap,.slice (some a) m c]).run P w=
  .ok (.slice (some ⟨g,o,none⟩) (sLen+m) sCap) (w.setRow g (cur.toList.take (o+sLen*i.size)++news++cur.toList.drop (o+sLen*i.size+news.length)).toArray):=by
 have hf:=run_firstCells_some (P:=P) w i.size m a m c news hl hnews
 have A:=run_storeCells_at P g (o+sLen*i.size) e news 0 cur w hg (by simpa using hfit) h1
 simp only [Nat.add_zero] at A
 simp [Builtin.append_,run_underlying ht,sizeOf,typeInfo,hi,Builtin.lenOf,hroom,hf,Addr.add_lit,A]
end
section
variable {E:dW} {ops:Array Oper} {Q:cq} {rest:List Oper} {D:List Deferred} {L:List (Nat×Value)} {C:List au}
variable {d:Nat} {ty:TypeId} {ps:String} {af:Array Edge} {g:Option (Nat×Bool)}
theorem xS {s x:Operand} {t e sz by_ n m m' c c':Nat} {z:Value} {a A:OA} {es es' es2:List (List Value)} (i:Nat) (hg:gW ops L g=true) (hs:ev L s=some (.slice a n c)) (hx:ev L x=some (.slice A m c')) (ht:tA E.P t=some (e,sz,by_,z)) (hsz:Nat.blt 0 sz=true)
 (hC:C[i]? =some (oq a c e sz es)) (hn:n=es.length) (hR:iK C (rd A m sz es').holds) (h1: ∀ v∈es'.flatten,v.oneCell'=true) (hm0:0<m) (hb:(n+m)*by_≤140737488355328) (hb2:n+m≤maxLen) (hes:es++es'=es2) (hm':es2.length=m') (hd:Nat.blt d E.n=true)
 (k: ∀ (a':OA) (c2:Nat),RJ E ops Q rest D ((d,.slice a' m' c2)::L) (C.set i (oq a' c2 e sz es2))):
 RJ E ops Q (⟨some d,.call {callee:= .builtin .append,args:= #[s,x],argTypes:= #[t,t]},ty,ps,af,g⟩::rest) D L C:=by
 intro act w AB f
 have hd':d<E.n:=by rw [← Nat.blt_eq]; exact hd
 have hsz':0<sz:=by rw [← Nat.blt_eq]; exact hsz
 obtain ⟨inf,hu,hi,hz,T,h4,h5⟩:=sf ht
 unfold nv
 rw [if_pos (dw AB hg)]
 subst hn hes hm'
 have W:(oq a c e sz es).holds w:=f.holds _ (aG hC)
 have C2:=uM W
 have R:=De W
 obtain ⟨G,Y,A8⟩:=f.has hR
 obtain ⟨a0,c0,pre,X,A0,Ay,p⟩:=id W
 obtain ⟨J,S⟩:=id X
 have M: ∀ x∈es,x.length=sz:=fun x hx=>J x (List.mem_append_right _ hx)
 have K: ∀ x∈es++es',x.length=sz:=fun x hx=>by
  rcases e9.1 hx with h|h
  ·exact M x h
  ·exact Y x h
 obtain ⟨ad,hA,hc⟩:=A8 (Nat.mul_pos hm0 hsz')
 subst hA
 have B:es'.flatten.length=m*inf.size:=by rw [cY Y,G,T]
 have H:es.flatten.length=es.length*inf.size:=by rw [cY M,T]
 have F: ∀ j u,es'.flatten[j]? =some u→w.cell? (ad.add j)=some u:=fun j v hj=>by
  have:=sK (w:=w) (ad:=ad) es' 0 Y (fun i e j v hi hj=>by simpa using hc i e j v hi hj) j v hj
  simpa using this
 have main: ∃ a' c2 w',(Builtin.append_ #[t,t] ty #[.slice a es.length c,.slice (some ad) m c']).run E.P w= .ok (.slice a' (es.length+m) c2) w'∧(oq a' c2 e sz (es++es')).holds w'∧w.grownBy w' (a.map (·.block))∧(∀ y,(∃ q,a'=some q∧y=q.block)→a.map (·.block)=some y∨w.heap.size≤y):=by
  by_cases Z:es.length+m≤c
  ·-- in place
   have A1:0<c:=by omega
   rcases S.2 with ⟨h6,h7⟩|⟨gg,cap,cur,hv,C1,AH,DA,AA,A3,l⟩
   ·injection h6 with _ _ h8
    omega
   ·injection hv with A9 DN Bf
    subst A9 Bf
    have ha:a=some ⟨gg,pre.length*sz,none⟩:=by
     rw [Ay A1]; simp [Addr.add_lit]
    subst ha
    have AC:pre.length*sz+es.length*inf.size+es'.flatten.length≤cur.size:=by
     rw [B,T,A3,← Nat.add_mul,← Nat.add_mul]
     exact Nat.mul_le_mul_right _ om
    have hr:=pN (P:=E.P) w t ty e inf hu hi gg (pre.length*sz) es.length c cur AH ad m c' es'.flatten B F h1 Z AC
    have A7:(pre++es).flatten.length=pre.length*sz+es.length*inf.size:=by rw [cY J,List.length_append,Nat.add_mul,T]
    refine ⟨_,_,_,hr,⟨some ⟨gg,0,none⟩,c0,pre,⟨fun x hx=>?_,?_,.inr ⟨gg,c0,_,U,Nat.zero_le _,setRow_heap w gg cur _ e _ AH,?_,AA,?_,?_⟩⟩,A0,fun _=>by simp [Addr.add_lit],U⟩,⟨U,U,U,sm,fun k _ hk=>setRow_other w gg k _ (fun e=>hk (by simp [e]))⟩,?_⟩
    ·rcases e9.1 hx with h|h
     ·exact J x (List.mem_append_left _ h)
     ·exact K x h
    ·rw [cY (sz:=sz) (fun x hx=>by
      rcases e9.1 hx with h|h
      ·exact J x (List.mem_append_left _ h)
      ·exact K x h)]
    ·rw [List.length_append,List.length_append,G]; omega
    ·simp only [List.size_toArray,List.length_append,List.length_take,List.length_drop,Array.length_toList]
     omega
    ·have e1:(pre++(es++es')).length*sz=(pre++es).flatten.length+es'.flatten.length:=by
      rw [A7,B,T,List.length_append,List.length_append,G,Nat.add_mul,Nat.add_mul,Nat.add_assoc]
     have e2:cur.toList.take (pre.length*sz+es.length*inf.size)=(pre++es).flatten:=by
      rw [← l,List.length_append,Nat.add_mul,T]
     rw [e1,← List.length_append]
     show (cur.toList.take (pre.length*sz+es.length*inf.size)++es'.flatten++_).take _=_
     rw [e2,List.take_left,← List.append_assoc,List.flatten_append (L₁:=pre++es)]
    ·rintro y ⟨q,hq,rfl⟩
     left
     cases hq; rfl
  ·-- a new row
   have V: ∀ (xs:List Value),xs=es.flatten→(w.drew.alloc (.cells (xs.toArray++es'.flatten.toArray++Builtin.zeroCells z.cells (grownCap w (es.length+m) c e-(es.length+m))) e)).ownsRow 0 e sz (.slice (some ⟨w.heap.size,0,none⟩) (es.length+m) (grownCap w (es.length+m) c e)) (es.length+m) (es++es').flatten:=by
    intro xs o
    subst o
    have A5:=grownCap_ge w (es.length+m) c e
    have AA:grownCap w (es.length+m) c e≤maxLen:=grownCap_le_maxLen w (es.length+m) c e hb2
    have O:(es++es').flatten.length=(es.length+m)*sz:=by rw [cY K,List.length_append,G]
    refine ⟨O,.inr ⟨w.heap.size,_,_,U,Nat.zero_le _,heap_alloc_new w.drew _,A5,AA,?_,?_⟩⟩
    ·simp only [Array.size_append,List.size_toArray,size_zeroCells,h5,H,B,T,← Nat.add_mul]
     congr 1
     omega
    ·simp only [Array.toList_append,List.append_assoc]
     rw [← O,List.flatten_append,← List.append_assoc]
     exact List.take_left
   have done: ∀ (xs:List Value),xs=es.flatten→(Builtin.append_ #[t,t] ty #[.slice a es.length c,.slice (some ad) m c']).run E.P w= .ok (.slice (some ⟨w.heap.size,0,none⟩) (es.length+m) (grownCap w (es.length+m) c e)) (w.drew.alloc (.cells (xs.toArray++es'.flatten.toArray++Builtin.zeroCells z.cells (grownCap w (es.length+m) c e-(es.length+m))) e))→
    ∃ a' c2 w',(Builtin.append_ #[t,t] ty #[.slice a es.length c,.slice (some ad) m c']).run E.P w= .ok (.slice a' (es.length+m) c2) w'∧(oq a' c2 e sz (es++es')).holds w'∧w.grownBy w' (a.map (·.block))∧(∀ y,(∃ q,a'=some q∧y=q.block)→a.map (·.block)=some y∨w.heap.size≤y):=by
    intro xs o AR
    refine ⟨_,_,_,AR,Ad ⟨K,?_⟩,⟨U,U,U,sm,fun k hk _=>heap_alloc_old w.drew _ hk⟩,?_⟩
    ·rw [show (es++es').length=es.length+m by rw [List.length_append,G]]
     exact V xs o
    ·rintro y ⟨q,hq,rfl⟩
     cases hq; exact .inr (Nat.le_refl _)
   have N:(es.length+m)*inf.bytes≤140737488355328:=by rw [h4]; exact hb
   have hb2':es.length+m≤9223372036854775807:=by simp only [maxLen] at hb2; omega
   cases a with
   |none=>
    have A4:es=[]:=by
     cases es with
     |nil=>rfl
     |cons x es=>
      obtain ⟨q,hq,_⟩:=R.2.2 (Nat.mul_pos sm hsz')
      cases hq
    subst A4
    have r:c=0:=by
     cases a0 with
     |none=>
      rcases S.2 with ⟨h6,h7⟩|⟨gg,cap,cur,hv,_⟩
      ·injection h6 with _ _ h8; omega
      ·cases hv
     |some q=>simp at p
    subst r
    have hr:=Go.run_append_nil (P:=E.P) w t ty e inf z hu hi hz ad m c' es'.flatten B F hm0 (by simp only [List.length_nil,Nat.zero_add] at hb2'; omega) (by simp only [List.length_nil,Nat.zero_add] at N; omega)
    refine done [] U ?_
    simpa using hr
   |some a1=>
    have holds: ∀ j u,es.flatten[j]? =some u→w.cell? (a1.add j)=some u:=fun j u hj=>by
     have AO:0<es.length*sz:=by
      have:=(aV.1 hj).1
      rw [cY M] at this; omega
     obtain ⟨q,hq,A2⟩:=R.2.2 AO
     cases hq
     have:=sK (w:=w) (ad:=a1) es 0 M (fun i e j v hi hj=>by simpa using A2 i e j v hi hj) j u hj
     simpa using this
    have hr:=run_append_grow (P:=E.P) w t ty e inf z hu hi hz a1 es.length c es.flatten H holds ad m c' es'.flatten B F om om (growslice_fits om N)
    exact done _ U hr
 obtain ⟨a',c2,w',q1,q2,q3,q5⟩:=main
 have A6:(es++es').length=es.length+m:=by rw [List.length_append,G]
 refine fp sm (w':=w') (v:= .slice a' (es++es').length c2) ?_ ?_
 ·rw [A6]; simp [execOp,resolve,invoke,builtin,AB.ev hs,AB.ev hx,q1]
 ·refine k a' c2 _ _ (AB.put hd' _) ?_
  exact f.move i hC (row:=a.map (·.block)) (fun b hb=>by
   cases a with
   |none=>cases hb
   |some q=>exact ⟨q,rfl,by simpa using hb.symm⟩) rfl q3 (fun y hy=>q5 y hy) q2
end
end
section
open Go.RowKit
theorem xu {P:Program} {f:FuncId} {args:List Value} {Bs:List au} {A:au} {α:Type} {V:α→Value} {p:α→Prop} {A':α→au} (h:Bi P f args [ky Bs] A V p A'):Bi P f args Bs A V p A':=
 ⟨h.go,fun w hA hB hs=>h.run w hA (fun B hb=>by rw [cN.1 hb]; exact hB) fun B hb b E D=>by
  rw [cN.1 hb] at D ⊢
  obtain ⟨X,hX,C⟩:=D
  exact ⟨(hs X hX b E C).1,fun q=>q⟩⟩
section
variable {P:Program} {t:TypeId} {x y:Operand}
theorem Eu {s i:Nat} {j:Int} {yk:IntKind} (hj:j=(i:Int)) (hi:i≤64):ew P .shr t x y (.int .i64 (s:Int)) (.int yk j) (.int .i64 ((s/2^i:Nat):Int)):=fun w=>by
 subst hj
 have B: ¬ ((i:Int)<0):=by omega
 have C:min i 64=i:=by omega
 have e:Int.fdiv (s:Int) (2^i)=((s/2^i:Nat):Int):=by
  rw [Int.fdiv_eq_ediv_of_nonneg _ (Int.pow_nonneg om)]
  rw [Int.natCast_ediv]; simp
 have A:Op.shift .shr .i64 (s:Int) yk (i:Int)=(pure (.int .i64 ((s/2^i:Nat):Int)):Sem Value):=by
  unfold Op.shift
  rw [if_neg B]
  show (pure (.int .i64 (Int.fdiv (s:Int) (2^(min (i:Int).toNat 64)))):Sem Value)=_
  rw [Int.toNat_natCast,C,e]
 simp only [eqGuard_shr,binOp_shr,A]
 rfl
theorem zr {i:Nat} {j:Int} {yk:IntKind} (hj:j=(i:Int)) (hi:i≤62):ew P .shl t x y (.int .i64 1) (.int yk j) (.int .i64 ((2^i:Nat):Int)):=fun w=>by
 subst hj
 have B: ¬ ((i:Int)<0):=by omega
 have C:min i 64=i:=by omega
 have hp:(2^i:Nat)≤4611686018427387904:=Nat.pow_le_pow_right (n:=2) om hi
 have hw:IntKind.i64.wrap ((2:Int)^i)=((2^i:Nat):Int):=by
  have:((2^i:Nat):Int)=(2:Int)^i:=by simp
  rw [← this]
  generalize (2^i:Nat)=q at hp
  exact gM ⟨om,om⟩
 have A:Op.shift .shl .i64 1 yk (i:Int)=(pure (.int .i64 ((2^i:Nat):Int)):Sem Value):=by
  unfold Op.shift
  rw [if_neg B]
  show (pure (.int .i64 (IntKind.i64.wrap (1*2^(min (i:Int).toNat 64)))):Sem Value)=_
  rw [Int.toNat_natCast,C,Int.one_mul,hw]
 simp only [eqGuard_shl,binOp_shl,A]
 rfl
theorem CF {m:Nat} (hm:m<2^63):((BitVec.ofInt 64 (m:Int)) &&& (BitVec.ofInt 64 1)).toNat=m % 2:=by
 have A:BitVec.ofInt 64 (m:Int)=BitVec.ofNat 64 m:=by simp
 have B:BitVec.ofInt 64 1=BitVec.ofNat 64 1:=by rfl
 rw [A,B,BitVec.toNat_and,BitVec.toNat_ofNat,BitVec.toNat_ofNat,Nat.mod_eq_of_lt om,show 1 % 2^64=1 by rfl,Nat.and_one_is_mod]
theorem Ev {m:Nat} {a:Int} (ha:a=(m:Int)) (hm:m<2^63):ew P .and t x y (.int .i64 a) (.int .i64 1) (.int .i64 ((m % 2:Nat):Int)):=fun w=>by
 subst ha
 have h:=CF hm
 have hw:IntKind.i64.wrap (((m % 2:Nat)):Int)=((m % 2:Nat):Int):=gM ⟨om,om⟩
 have e:Op.intBits .and .i64 (m:Int) 1=(pure (.int .i64 ((m % 2:Nat):Int)):Sem Value):=by
  show (pure (.int .i64 (IntKind.i64.wrap (((BitVec.ofInt 64 (m:Int)) &&& (BitVec.ofInt 64 1)).toNat:Int))):Sem Value)=_
  rw [h,hw]
 simp [eqGuard_and,binOp_and,e]
/-- a bit less -/
def mI (s i:Nat):Nat:=if s.testBit i then s-2^i else s
theorem EE: ∀ s:Fin 256,∀ i:Fin 8,((BitVec.ofInt 64 (s.val:Int)) &&& ~~~ (BitVec.ofInt 64 ((2^i.val:Nat):Int))).toNat=mI s.val i.val:=by decide+kernel
theorem Av {s i:Nat} {a b:Int} (ha:a=(s:Int)) (hb:b=((2^i:Nat):Int)) (hs:s<256) (hi:i<8):ew P .andNot t x y (.int .i64 a) (.int .i64 b) (.int .i64 (mI s i:Int)):=fun w=>by
 subst ha hb
 have h:=EE ⟨s,hs⟩ ⟨i,hi⟩
 simp only at h
 have hc:mI s i≤s:=by
  unfold mI
  split
  ·exact Nat.sub_le _ _
  ·exact Nat.le_refl _
 have hw:IntKind.i64.wrap (mI s i:Int)=(mI s i:Int):=gM ⟨om,om⟩
 have e:Op.intBits .andNot .i64 (s:Int) ((2^i:Nat):Int)=(pure (.int .i64 (mI s i:Int)):Sem Value):=by
  show (pure (.int .i64 (IntKind.i64.wrap (((BitVec.ofInt 64 (s:Int)) &&& ~~~ (BitVec.ofInt 64 ((2^i:Nat):Int))).toNat:Int))):Sem Value)=_
  rw [h,hw]
 simp only [eqGuard_andNot,binOp_andNot,e]
 rfl
theorem Bq: ∀ s:Fin 256,∀ i k:Fin 8,(mI s.val i.val).testBit k.val=(s.val.testBit k.val&&decide (k.val≠i.val)):=by decide+kernel
theorem AP {e:TypeId} {a:OA} {n c:Nat} (ht:P.underlying t=some (.slice e)):ew P .eql t x y (.slice a n c) (.slice none 0 0) (.bool (decide (a=none))):=fun w=>by
 have A:(Op.equal t (.slice a n c) (.slice none 0 0)).run P w= .ok (decide (a=none)) w:=by
  unfold Op.equal
  show (Op.equalIn (9999+1) t (.slice a n c) (.slice none 0 0)).run P w=_
  unfold Op.equalIn
  cases a<;>simp [run_underlying ht]
 have B:eqGuard .eql t x y (.slice a n c) (.slice none 0 0)=pure ():=rfl
 rw [B]
 show (Sem.run P (do let b ← Op.equal t (.slice a n c) (.slice none 0 0); pure (vB b)) w)=_
 simp [A]
end
section
variable {E:dW} {ops:Array Oper} {Q:cq} {rest:List Oper} {D:List Deferred} {L:List (Nat×Value)} {C:List au}
variable {dst:Option Tmp} {d:Nat} {ty:TypeId} {ps:String} {af:Array Edge} {g:Option (Nat×Bool)}
theorem Bo {x y z:Operand} {ts:Array TypeId} {a b c:Int} {k:IntKind} (hg:gW ops L g=true) (hx:ev L x=some (.int k a)) (hy:ev L y=some (.int k b)) (hz:ev L z=some (.int k c)):
 SD E ops ⟨dst,.call {callee:= .builtin .max,args:= #[x,y,z],argTypes:=ts},ty,ps,af,g⟩ D L C (.int k (max (max a b) c)):=
 dh hg sm fun q w hf _=>by
  have A:(if a<b then b else a)=max a b:=by omega
  have B:(if max a b<c then c else max a b)=max (max a b) c:=by omega
  simp [execOp,resolve,invoke,builtin,Builtin.max_,Builtin.max2,hf.ev hx,hf.ev hy,hf.ev hz,A,B]
/-- a row that lies nowhere is empty -/
theorem ud {a:OA} {n sz:Nat} {es:List (List Value)} (hR:iK C (rd a n sz es).holds) (ha:a=none) (hz:0<sz) (k:es=[]→RJ E ops Q rest D L C):RJ E ops Q rest D L C:=fun act w hf hs=>by
 refine k ?_ act w hf hs
 obtain ⟨F,G,B⟩:=hs.has hR
 rcases Nat.eq_zero_or_pos (n*sz) with h|h
 ·have:n=0:=by
   rcases Nat.mul_eq_zero.1 h with h|h
   ·exact h
   ·omega
  exact px om
 ·obtain ⟨ad,A,_⟩:=B h
  rw [ha] at A; cases A
theorem Fg {a:OA} {c e sz:Nat} {es:List (List Value)} (i:Nat) (hC:C[i]? =some (own a c e sz es)) (k:es.length≤c→RJ E ops Q rest D L C):RJ E ops Q rest D L C:=fun act w hf hs=>
 k (vZ (hs.holds _ (aG hC))) act w hf hs
theorem pw {A:au} (i:Nat) (h:C[i]? =some A.ro):iK C A.holds:=fun w hw=>by
 have B:=hw A.ro (aG h)
 exact B
/-- the end of a row is set to zero: it is no more of it -/
theorem CR {x:Operand} {t e sz by_ k n c c':Nat} {z:Value} {a:OA} {es:List (List Value)} (i:Nat) (hg:gW ops L g=true) (hx:ev L x=some (.slice (mJ a c k sz) (n-k) c')) (ht:tA E.P t=some (e,sz,by_,z)) (hz1: ∀ v∈z.cells.toList,v.oneCell'=true)
 (hC:C[i]? =some (own a c e sz es)) (hn:n=es.length) (hk:k≤n) (K:RJ E ops Q rest D L (C.set i (own a c e sz (es.take k)))):
 RJ E ops Q (⟨none,.call {callee:= .builtin .clear,args:= #[x],argTypes:= #[t]},ty,ps,af,g⟩::rest) D L C:=by
 intro act w A F
 obtain ⟨inf,hu,hi,f,h3,h4,s⟩:=sf ht
 unfold nv
 rw [if_pos (dw A hg)]
 subst hn
 obtain ⟨W,N⟩:(own a c e sz es).holds w:=F.holds _ (aG hC)
 have B: ∀ y∈es.take k,y.length=sz:=fun y hy=>W y (List.mem_of_mem_take hy)
 have V:(es.take k).flatten=es.flatten.take (k*sz):=by
  have h:=List.take_append_drop k es
  have l:es.flatten=(es.take k).flatten++(es.drop k).flatten:=by rw [← List.flatten_append,h]
  have m:(es.take k).flatten.length=k*sz:=by rw [cY B,List.length_take]; congr 1; omega
  rw [l,← m,List.take_left]
 by_cases r:es.length-k=0
 ·have AA:es.take k=es:=List.take_of_length_le om
  refine fp sm (w':=w) (v:= .tuple #[]) ?_ ?_
  ·rw [r] at hx
   cases hs:mJ a c k sz with
   |none=>rw [hs] at hx; simp [execOp,resolve,invoke,builtin,Builtin.clear_,A.ev hx,run_underlying hu]
   |some q=>rw [hs] at hx; simp [execOp,resolve,invoke,builtin,Builtin.clear_,A.ev hx,run_underlying hu]
  ·rw [AA] at K
   exact K _ _ A (by
    have:C.set i (own a c e sz es)=C:=by
     apply List.ext_getElem?
     intro q
     rw [List.getElem?_set]
     by_cases j:i=q
     ·subst j; rw [if_pos rfl,if_pos (aV.1 hC).1,hC]
     ·rw [if_neg j]
    rw [this]; exact F)
 ·rcases N.2 with ⟨l,m⟩|⟨gg,cap,cur,hv,AC,M,Y,T,J,G⟩
  ·omega
  ·injection hv with Z AH d
   subst Z d
   have R:mJ (some (⟨gg,0,none⟩:Addr)) c k sz=some ⟨gg,k*sz,none⟩:=by
    unfold mJ; rw [if_neg om]; simp [Addr.add_lit]
   rw [R] at hx
   have H:(Builtin.zeroCells z.cells (es.length-k)).toList.length=(es.length-k)*sz:=by
    rw [Array.length_toList,size_zeroCells,s]
   have p:k*sz+(es.length-k)*sz=es.length*sz:=by rw [← Nat.add_mul]; congr 1; omega
   have o:es.length*sz≤cur.size:=by rw [J]; exact Nat.mul_le_mul_right _ Y
   have h1': ∀ v∈(Builtin.zeroCells z.cells (es.length-k)).toList,v.oneCell'=true:=fun v hv=>by
    refine hz1 v ?_
    simp [Builtin.zeroCells] at hv
    obtain ⟨q,hq,hv⟩:=hv
    have O:0<z.cells.size:=by
     rcases Nat.eq_zero_or_pos z.cells.size with AB|AB
     ·rw [AB] at hq; simp at hq
     ·exact AB
    have X:q % z.cells.size<z.cells.size:=Nat.mod_lt _ O
    rw [getElem!_pos z.cells _ X] at hv
    rw [← hv]; simp
   have hst':=run_storeCells_at E.P gg (k*sz) e (Builtin.zeroCells z.cells (es.length-k)).toList 0 cur w M (by rw [H]; omega) h1'
   simp only [Nat.add_zero] at hst'
   obtain ⟨q,hq⟩: ∃ q,es.length-k=q+1:=⟨es.length-k-1,om⟩
   refine fp sm (w':=w.setRow gg (cur.toList.take (k*sz)++(Builtin.zeroCells z.cells (es.length-k)).toList++cur.toList.drop (k*sz+(Builtin.zeroCells z.cells (es.length-k)).toList.length)).toArray) (v:= .tuple #[]) ?_ ?_
   ·rw [hq] at hx hst' ⊢
    simp [execOp,resolve,invoke,builtin,Builtin.clear_,A.ev hx,run_underlying hu,zeroValue,typeInfo,hi,f,hst']
   ·refine K _ _ A ?_
    refine F.move i hC (row:=some gg) (fun b hb=>by cases hb; exact ⟨_,rfl,rfl⟩) rfl ⟨rfl,rfl,rfl,sm,fun k' _ hk'=>setRow_other w gg k' _ (fun e=>hk' (by simp [e]))⟩ (fun y hy=>by
     obtain ⟨ad,AB,rfl⟩:=hy
     cases AB; exact .inl rfl) ?_
    refine ⟨B,?_,.inr ⟨gg,c,_,U,Nat.zero_le _,setRow_heap w gg cur _ e _ M,?_,T,?_,?_⟩⟩
    ·exact cY B
    ·rw [List.length_take]; omega
    ·simp only [List.size_toArray,List.length_append,List.length_take,List.length_drop,Array.length_toList,H]
     have:=J
     simp only [Array.length_toList] at H
     omega
    ·have u:(es.take k).length*sz=k*sz:=by rw [List.length_take]; congr 1; omega
     have S:(cur.toList.take (k*sz)).length=k*sz:=by rw [List.length_take,Array.length_toList]; omega
     rw [u,V,← G,List.take_take,Nat.min_eq_left om]
     show List.take (k*sz) (_++_++_)=_
     rw [List.append_assoc,List.take_left' S]
end
end
section
open Go.RowKit
def sC (s:aJ):List Value:=[vS s.a s.n s.c]
theorem x8: ∀ s,(sC s).length=1:=fun s=>rfl
theorem ES (l:List aJ): ∀ v∈(l.map sC).flatten,v.oneCell'=true:=kK (fun s=>rfl) l
def qQ (l:List Int) (a:RA):aJ:=⟨a.1,l.length,a.2⟩
def eI (l:List Int) (a:RA):List Value:=[vS a.1 l.length a.2]
def eY (l:List Int) (a:RA):List au:=[rd a.1 l.length 1 (l.map iC)]
def jk (l:List Int) (a:RA):List au:=[own a.1 a.2 3 1 (l.map iC)]
theorem vr {ls:List (List Int)} {az:List RA}:(List.zipWith qQ ls az).map sC=List.zipWith eI ls az:=by
 rw [List.map_zipWith]; rfl
theorem u6: ∀ (m:List Int) (a:RA) (w:World),(∀ X∈jk m a,X.holds w)→ ∀ X∈eY m a,X.holds w:=fun m a w h X hX=>by
 simp only [eY,cN] at hX
 subst hX
 have:=sJ (h _ (cN.2 rfl))
 simpa using this
theorem nL {l:List (List Int)} {bz:List RA}:(eB (ei jk l bz)).wr=true:=by
 show (ei jk l bz).all (·.wr)=true
 rw [cT]
 intro X hX
 obtain ⟨k,m,a,_,_,h⟩:=nM hX
 simp only [jk,cN] at h
 subst h; rfl
theorem zZ {ls:List (List Int)} {az:List RA} (h:az.length=ls.length):(List.zipWith eI ls az).length=ls.length:=by simp [h]
/-- the times of posts -/
def eQ (d:ah) (p:aj) (n:Nat):List Int:=(List.range n).map fun (k:Nat)=>j1 d.ak p (k:Int)
def fM (d:ah) (i:Nat):List (List Int):=(d.aA.take i).map fun p=>eQ d p d.ak.length
def dJ (d:ah):List (List Int):=fM d d.aA.length
theorem oW {d:ah} {p:aj} {n:Nat}:eQ d p (n+1)=eQ d p n++[j1 d.ak p (n:Int)]:=by simp [eQ,List.range_succ]
theorem jJ {d:ah} {p:aj} {n:Nat}:(eQ d p n).length=n:=by simp [eQ]
theorem oZ {d:ah} {i:Nat} {p:aj} (h:d.aA[i]? =some p):fM d (i+1)=fM d i++[eQ d p d.ak.length]:=by unfold fM; rw [List.take_add_one,h,List.map_append]; rfl
theorem jM {d:ah} {i:Nat} (h:i≤d.aA.length):(fM d i).length=i:=by unfold fM; rw [List.length_map,List.length_take]; omega
theorem nf {d:ah}:(dJ d).length=d.aA.length:=jM (Nat.le_refl _)
theorem xV {d:ah} {i:Nat} {p:aj} {m:List Int} (hp:d.aA[i]? =some p) (hm:(dJ d)[i]? =some m):m=eQ d p d.ak.length:=by
 unfold dJ fM at hm
 rw [List.take_length,gD,hp] at hm
 exact (Option.some.inj hm).symm
theorem rA {d:ah} {p:aj} {n k:Nat} {t:Int} (h:(eQ d p n)[k]? =some t):t=j1 d.ak p (k:Int):=by
 unfold eQ at h
 rw [gD] at h
 have hd:k<n:=by
  rcases Nat.lt_or_ge k n with q|q
  ·exact q
  ·rw [List.getElem?_eq_none (by simpa using q)] at h; cases h
 rw [List.getElem?_range hd] at h
 exact (Option.some.inj h).symm
theorem yg {d:ah} {i:Nat} {p:aj} {tz:List RA} {a:RA} (hp:d.aA[i]? =some p) (hl:tz.length=i):List.zipWith qQ (fM d (i+1)) (tz++[a])=List.zipWith qQ (fM d i) tz++[qQ (eQ d p d.ak.length) a]:=by
 have hi:=(aV.1 hp).1
 rw [oZ hp,List.zipWith_append (by rw [jM om,hl])]
 rfl
theorem xO {d:ah} {i:Nat} {p:aj} {tz:List RA} {a:RA} (hp:d.aA[i]? =some p) (hl:tz.length=i):ei jk (fM d i) tz++[own a.1 a.2 3 1 ((eQ d p d.ak.length).map iC)]=ei jk (fM d (i+1)) (tz++[a]):=by
 have hi:=(aV.1 hp).1
 rw [oZ hp,oO (by rw [jM om,hl])]
 simp [ei,jk]
structure fk (d:ah):Prop where
 jP:d.ak.length≤1000000
 side: ∀ x∈d.ak,0≤x.ct∧x.ct≤255
 sG:d.aA.length≤1000000
 pk: ∀ p∈d.aA,0≤p.Kind∧p.Kind≤255
 rq:d.bk.length≤1000000
 nk: ∀ n∈d.bk,0≤n.Kind∧n.Kind≤255
structure gZ (d:ah):Prop where
 jP:d.ak.length≤9223372036854775807
 side: ∀ x∈d.ak,0≤x.ct∧x.ct≤255
 sG:d.aA.length≤9223372036854775807
 pk: ∀ p∈d.aA,0≤p.Kind∧p.Kind≤255
 rq:d.bk.length≤9223372036854775807
 nk: ∀ n∈d.bk,0≤n.Kind∧n.Kind≤255
def iP (d:ah):Prop:=20<(d.ak.length:Int)∨12<(d.aA.length:Int)∨15<(d.bk.length:Int)
instance (d:ah):Decidable (iP d):=by unfold iP; infer_instance
theorem gZ.small {d:ah} (h:gZ d) (hg: ¬ iP d):fk d:=by
 unfold iP at hg
 exact ⟨om,h.side,om,h.pk,om,h.nk⟩
def qw (d:ah):Prop:= ¬ iP d∧du d=0
noncomputable instance (d:ah):Decidable (qw d):=by unfold qw; infer_instance
def jt (d:ah) (i:Nat):Prop:= ∀ (j:Nat) p,j<i→d.aA[j]? =some p→db d.ak d.aA j p
theorem qI {d:ah}:jt d 0:=fun j p hj=>absurd hj (Nat.not_lt_zero _)
theorem nj {d:ah} {i:Nat} {p:aj} (h:jt d i) (hp:d.aA[i]? =some p) (ho:db d.ak d.aA i p):jt d (i+1):=fun j y hj hy=>by
 rcases Nat.lt_or_ge j i with q|q
 ·exact h j y q hy
 ·obtain rfl:j=i:=by omega
  rw [hp] at hy; cases hy; exact ho
theorem yT {d:ah} {i:Nat} (hi:i≤d.aA.length) (h:jt d i): -1≤jl d.aA i∧jl d.aA i≤9999:=by
 rcases Nat.eq_zero_or_pos i with e|e
 ·rw [jd e]; omega
 ·have hy:d.aA[i-1]? =some (d.aA[i-1]'om):=eu _
  have:=(h (i-1) _ om hy).1
  rw [da e hy]; omega
theorem cp {d:ah} {i:Nat} (h1:d.aA.length≤8∧d.bk.length≤10) (h2:cD d.ak d.bM) (h3:0≤d.bP∧d.bP≤400000) (h4:jt d i) (hi:d.aA.length≤i) (h5: ∀ n∈d.bk,cb d.ak n):gL d:=
 ⟨h1,h2,h3,fun j p hp=>h4 j p (by have:=(aV.1 hp).1; omega) hp,h5⟩
theorem df {d:ah}:(d.bk.any fun n=> !decide (cb d.ak n))=false↔ ∀ n∈d.bk,cb d.ak n:=by
 rw [List.any_eq_false]
 simp
theorem pd {s i:Nat}:(((s/2^i % 2:Nat):Int)=1)↔s.testBit i=true:=by
 rw [Nat.testBit_eq_decide_div_mod_eq,decide_eq_true_eq]; omega
def ir (s:Nat):Nat→Prop:=fun i=>s.testBit i=true
def gH (n:Nat) (l:List Int):Nat:=l.foldl (fun s x=>mI s x.toNat) (2^n-1)
theorem zj {s i:Nat}:mI s i≤s:=by
 unfold mI
 split
 ·exact Nat.sub_le _ _
 ·exact Nat.le_refl _
theorem Dn {n:Nat}: ∀ (l:List Int) (s:Nat),l.foldl (fun s x=>mI s x.toNat) s≤s
 |[],s=>Nat.le_refl _
 |x::l,s=>Nat.le_trans (Dn (n:=n) l _) zj
theorem sO {n:Nat} (h:n≤8):1≤2^n∧2^n≤256:=⟨Nat.one_le_two_pow,Nat.pow_le_pow_right (n:=2) om h⟩
theorem uc {n:Nat} {l:List Int} (h:n≤8):gH n l<256:=by
 have A:=Dn (n:=n) l (2^n-1)
 have B:=sO h
 unfold gH; omega
theorem An {n:Nat} {l:List Int} {i:Nat} {x:Int} (h:l[i]? =some x):gH n (l.take (i+1))=mI (gH n (l.take i)) x.toNat:=by
 unfold gH; rw [List.take_add_one,h,List.foldl_append]; rfl
theorem v9 {n:Nat} (hn:n≤8): ∀ (l:List Int),(∀ x∈l,0≤x∧x<8)→ ∀ s,s<256→ ∀ k,k<n→((l.foldl (fun s x=>mI s x.toNat) s).testBit k=true↔s.testBit k=true∧(k:Int) ∉ l)
 |[],_,s,_,k,_=>by simp
 |x::l,hl,s,hs,k,hk=>by
  have hx:=hl x sm
  have B:mI s x.toNat<256:=Nat.lt_of_le_of_lt zj hs
  have A:=Bq ⟨s,hs⟩ ⟨x.toNat,om⟩ ⟨k,om⟩
  simp only at A
  rw [List.foldl_cons,v9 hn l (fun y hy=>hl y (fA _ hy)) _ B k hk,A,cZ,decide_eq_true_eq,bZ,not_or]
  constructor
  ·rintro ⟨⟨a,b⟩,c⟩; exact ⟨a,om,c⟩
  ·rintro ⟨a,b,c⟩; exact ⟨⟨a,om⟩,c⟩
theorem vx {n:Nat} (hn:n≤8) {l:List Int} (hl: ∀ x∈l,0≤x∧x<8) {k:Nat} (hk:k<n):ir (gH n l) k↔(k:Int) ∉ l:=by
 have h:=sO hn
 unfold ir gH
 rw [v9 hn l hl _ om k hk]
 have:(2^n-1).testBit k=true:=by rw [Nat.testBit_two_pow_sub_one,decide_eq_true_eq]; exact hk
 simp [this]
end
section
def kD (d:ah) (n:cH) (x:Int):Prop:=uk d n x.toNat
noncomputable instance (d:ah) (n:cH) (x:Int):Decidable (kD d n x):=Classical.propDecidable _
theorem mz {d:ah} {n:cH} {x:Int} {p:aj} (hp:d.aA[x.toNat]? =some p):kD d n x↔p.Kind=n.Kind∧j1 d.ak p n.ax≤n.g_:=by
 unfold kD uk
 constructor
 ·rintro ⟨q,hq,h⟩; rw [hp] at hq; cases hq; exact h
 ·exact fun h=>⟨p,hp,h⟩
theorem rY {d:ah} {n:cH} {S:Nat→Prop}:(iB d S).filter (fun x=>decide (kD d n x))=p6 d n S:=by
 refine p_ (List.Pairwise.filter _ j4) fun x=>?_
 rw [List.mem_filter]
 unfold iB
 rw [iG,decide_eq_true_eq]
 constructor
 ·rintro ⟨⟨i,rfl,A,B⟩,C⟩
  exact ⟨i,U,A,B,by unfold kD at C; rwa [Int.toNat_natCast] at C⟩
 ·rintro ⟨i,rfl,A,B,C⟩
  exact ⟨⟨i,U,A,B⟩,by unfold kD; rwa [Int.toNat_natCast]⟩
theorem vv {d:ah} {S:Nat→Prop}: ∀ x∈iB d S,0≤x∧x<(d.aA.length:Int):=fun x hx=>by
 obtain ⟨i,rfl,h,_⟩:=iG.1 hx
 omega
theorem vh {d:ah} {S:Nat→Prop}:(iB d S).length≤d.aA.length:=jF
structure og (p:Int→Bool) (l q:List Int) (i j:Nat):Prop where
 len:q.length=l.length
 le:j≤l.length
 ij:i<j
 head:q.take i=(l.take j).filter fun u=> !p u
 tail: ∀ k,j≤k→q[k]? =l[k]?
theorem va {p:Int→Bool}: ∀ {l:List Int} {i:Nat},eD p l=(i:Int)→ ∃ y,l[i]? =some y∧p y=true∧(l.take i).any p=false:=by
 intro l i h
 unfold eD at h
 split at h
 ·rename_i ha
  have e:l.findIdx p=i:=by omega
  have C:l.findIdx p<l.length:=List.findIdx_lt_length_of_exists (by simpa [List.any_eq_true] using ha)
  subst e
  refine ⟨l[l.findIdx p],eu C,List.findIdx_getElem,?_⟩
  rw [List.any_eq_false]
  intro x hx
  obtain ⟨k,hk⟩:=List.getElem?_of_mem hx
  obtain ⟨B,A⟩:=aV.1 hk
  rw [List.length_take] at B
  rw [List.getElem_take] at A
  have:=List.not_of_lt_findIdx (p:=p) (xs:=l) (i:=k) om
  rw [← A]; simpa using this
 ·omega
theorem zh {p:Int→Bool} {l:List Int} (h:eD p l= -1):l=l.filter fun u=> !p u:=by
 symm
 rw [List.filter_eq_self]
 intro x hx
 unfold eD at h
 split at h
 ·omega
 ·rename_i ha
  have:p x=false:=by
   cases e:p x with
   |false=>rfl
   |true=>exact absurd (List.any_eq_true.2 ⟨x,hx,e⟩) ha
  rw [this]; rfl
theorem yi {p:Int→Bool} {l:List Int} (h: ¬ eD p l= -1):(0≤eD p l∧eD p l<(l.length:Int))∧og p l l (eD p l).toNat ((eD p l).toNat+1):=by
 have D:0≤eD p l:=by unfold eD at h ⊢; split at h<;>rename_i q<;>simp [q] at h ⊢
 obtain ⟨y,A,E,B⟩:=va (p:=p) (l:=l) (i:=(eD p l).toNat) om
 have F:=(aV.1 A).1
 refine ⟨⟨D,om⟩,U,om,om,?_,fun k _=>rfl⟩
 rw [List.take_add_one,A,List.filter_append]
 have C:(l.take (eD p l).toNat).filter (fun u=> !p u)=l.take (eD p l).toNat:=by
  rw [List.filter_eq_self]
  intro x hx
  rw [List.any_eq_false] at B
  have:=B x hx
  simpa using this
 rw [C]
 simp [E]
variable {p:Int→Bool} {l q:List Int} {i j:Nat} {y:Int}
theorem og.mem (h:og p l q i j) (hy:q[j]? =some y):y∈l:=by
 rw [h.tail j (Nat.le_refl _)] at hy
 exact aG hy
theorem og.kQ (h:og p l q i j) (hl:q.length=l.length) (hij:i<q.length) (hy:q[j]? =some y) (hp:p y=false):og p l (q.set i y) (i+1) (j+1):=by
 have A:=h.tail j (Nat.le_refl _)
 rw [hy] at A
 have hj:=(aV.1 A.symm).1
 have:=h.ij
 refine ⟨by rw [List.length_set]; exact hl,om,om,?_,fun k hk=>?_⟩
 ·rw [List.take_add_one,List.getElem?_set_self hij,List.take_add_one,← A,List.filter_append,← h.head,List.take_set_of_le (Nat.le_refl _)]
  simp [hp]
 ·rw [List.getElem?_set_ne om]
  exact h.tail k om
theorem og.skip (h:og p l q i j) (hl:q.length=l.length) (hy:q[j]? =some y) (hp:p y=true):og p l q i (j+1):=by
 have A:=h.tail j (Nat.le_refl _)
 rw [hy] at A
 have hj:=(aV.1 A.symm).1
 have:=h.ij
 refine ⟨hl,om,om,?_,fun k hk=>h.tail k om⟩
 rw [List.take_add_one,← A,List.filter_append,← h.head]
 simp [hp]
theorem og.done (h:og p l q i j) (hj:l.length≤j):q.take i=l.filter (fun u=> !p u)∧(l.filter fun u=> !p u).length=i:=by
 have A:=h.head
 rw [List.take_of_length_le hj] at A
 refine ⟨A,?_⟩
 rw [← A,List.length_take]
 have:=h.ij
 have:=h.le
 have:=h.len
 omega
end
section
def E_:Nat→Prop:=fun _=>True
noncomputable def ed (d:ah) (l:List Int):List Int:=if eR d l=0 then kg d (tL l) else []
theorem oC {d:ah} {l:List Int} (h:eR d l=0):ed d l=kg d (tL l):=if_pos h
theorem oo {d:ah} {l:List Int} (h: ¬ eR d l=0):ed d l=[]:=if_neg h
end
section
theorem w5 {n:Nat}:j0 n []:=fun j x h=>by simp at h
theorem pQ {d:ah} {l:List Int}:(ed d l).length≤d.bk.length:=by
 unfold ed; split
 ·exact jF
 ·exact Nat.zero_le _
end
section
theorem pj {α:Type} {l:List α} {P:Nat→α→Prop} {i:Nat} {x:α} (h: ∀ (j:Nat) y,j<i→l[j]? =some y→P j y) (hx:l[i]? =some x) (hp:P i x): ∀ (j:Nat) y,j<i+1→l[j]? =some y→P j y:=fun j y hj hy=>by
 rcases Nat.lt_or_ge j i with q|q
 ·exact h j y q hy
 ·obtain rfl:j=i:=by omega
  rw [hx] at hy; cases hy; exact hp
theorem cE {α:Type} {l:List α} {P:α→Prop} {i:Nat} (hi:l.length≤i) (h: ∀ (j:Nat) y,j<i→l[j]? =some y→P y): ∀ y∈l,P y:=fun y hy=>by
 obtain ⟨j,hj⟩:=List.getElem?_of_mem hy
 exact h j y (by have:=(aV.1 hj).1; omega) hj
end
section
theorem qu {d:ah} {l:List Int} (h:eR d l=0):ed d l=fz d.bk.length (jN d (tL l)):=oC h
theorem xW {i:Nat}:tL [] i↔E_ i:=by simp [tL,E_]
theorem qX {d:ah} (h:du d=0):eR d []=0∧ed d []=kg d E_:=by
 have hm:=rO h (w5 (n:=d.aA.length))
 exact ⟨hm,(oC hm).trans (oT fun i _=>xW)⟩
end
section
section
variable {ts us:List ab}
theorem tD (h:eL ts.length ts.length ts us) {s:ae} {m:Int}:jX us s m≤jX ts s m:=by
 unfold jX
 split
 ·have:=lL h (f:=m.toNat) (s.ax-m).toNat
  simp only [kI] at this
  omega
 ·have:=lL h (f:=s.ax.toNat) (m-s.ax).toNat
  simp only [kI] at this
  omega
theorem wU (h:eL ts.length ts.length ts us) {s:ae} {m:Int}:ng us s m≤ng ts s m:=by
 have A:=tD h (s:=s) (m:=m)
 have B:=tD h (s:=s) (m:=m+1)
 unfold ng
 omega
theorem tf (h:eL ts.length ts.length ts us) {p:aj} {m:Int} (hp:0≤p.nd):j1 us p m≤j1 ts p m:=by
 have A:=Int.mul_le_mul_of_nonneg_left (wU h (s:=p.de) (m:=m)) hp
 unfold j1
 omega
end
def nH (d:ah) (us:List ab):ah:=⟨us,d.aA,d.bk,d.bM,d.bP⟩
section
variable {d:ah} {us:List ab} {S:Nat→Prop} {i j:Nat} {l:List Int}
theorem zT (h:eL d.ak.length d.ak.length d.ak us) (hr:fk d):gZ (nH d us):=by
 have A:=hr.jP
 have B:=hr.sG
 have C:=hr.rq
 have D:=h.len
 exact ⟨by show us.length≤_; omega,h.Ay hr.side,by show d.aA.length≤_; omega,hr.pk,by show d.bk.length≤_; omega,hr.nk⟩
theorem mF (h:eL d.ak.length d.ak.length d.ak us) (hd:du d=0):du (nH d us)=0:=by
 obtain ⟨C,A⟩:=gI hd
 have hl:=h.len
 refine ef (h.tY (bT C) C) ⟨A.len,qj h A.dm,A.eT,fun i p hp=>?_,fun n hn=>?_⟩
 ·have B:=A.post i p hp
  unfold db at B ⊢
  exact ⟨B.1,B.2.1,qj h B.2.2.1,B.2.2.2⟩
 ·have B:=A.g0 n hn
  unfold cb at B ⊢
  exact ⟨by show 0≤n.ax∧n.ax≤(us.length:Int)-1; omega,B.2⟩
theorem vi (h:eL d.ak.length d.ak.length d.ak us) (hd:qw d):qw (nH d us):=⟨fun q=>hd.1 (by
 have hl:=h.len
 unfold iP at *
 simp only [nH] at q
 omega),mF h hd.2⟩
theorem qz (h:eL d.ak.length d.ak.length d.ak us) {a b:ae} (hh:hO d a b):hO (nH d us) a b:=by
 have A:=rF h (a:=a) (b:=b)
 unfold hO at *
 simp only [kI] at A
 show-d.bP≤(dQ us a b).Lo∧(dQ us a b).Hi≤d.bP
 omega
theorem uR (h:eL d.ak.length d.ak.length d.ak us) (c:gf d S i):gf (nH d us) S i:=by
 induction c with
 |dm hs hp hh=>exact .dm hs hp (qz h hh)
 |post _ hq hs hp hh ih=>exact .post ih hq hs hp (qz h hh)
theorem xD (h:eL d.ak.length d.ak.length d.ak us) (hd:du d=0) {n:cH} (hf:uk d n i):uk (nH d us) n i:=by
 obtain ⟨C,A⟩:=gI hd
 obtain ⟨p,hp,hk,ht⟩:=hf
 have B:=A.post i p hp
 unfold db at B
 exact ⟨p,hp,hk,Int.le_trans (tf h om) ht⟩
theorem xr (h:eL d.ak.length d.ak.length d.ak us) (hd:du d=0) (hl:jN (nH d us) S j):jN d S j:=by
 obtain ⟨n,hn,he⟩:=hl
 refine ⟨n,hn,?_⟩
 unfold p6 at *
 rw [Ar] at he ⊢
 exact fun i hi hc=>he i hi ⟨uR h hc.1,xD h hd hc.2⟩
theorem lP (h:eL d.ak.length d.ak.length d.ak us) (hd:du d=0):eR d []=0∧eR (nH d us) []=0:=⟨(qX hd).1,(qX (mF h hd)).1⟩
theorem vt (h:eL d.ak.length d.ak.length d.ak us) (hd:du d=0): ∀ k∈ed (nH d us) [],k∈ed d []:=fun k hk=>by
 rw [qu (lP h hd).2] at hk
 rw [qu (lP h hd).1]
 obtain ⟨j,rfl,A,B⟩:=iG.1 hk
 exact r_.2 ⟨A,xr h hd B⟩
/-- how far, and how long, on both -/
theorem AQ (h:eL d.ak.length d.ak.length d.ak us) (hd:du d=0) {a k:Int} (h2:(0≤a∧a≤(d.aA.length:Int)-1)∧0≤k∧k≤(d.ak.length:Int)-1):
 (bB d a k=0∧bB (nH d us) a k=0)∧bE (nH d us) a k≤bE d a k∧o0 (nH d us) a k≤o0 d a k:=by
 obtain ⟨E,C⟩:=gI hd
 have hl:=h.len
 have hp:d.aA[a.toNat]? =some (d.aA[a.toNat]'om):=eu _
 have A:=nu hd h2 hp
 have B:=nu (d:=nH d us) (mF h hd) (a:=a) (k:=k) ⟨h2.1,by show 0≤k∧k≤(us.length:Int)-1; omega⟩ hp
 have D:=C.post _ _ hp
 unfold db at D
 refine ⟨⟨A.1,B.1⟩,?_,?_⟩
 ·rw [A.2.1,B.2.1]; exact wU h
 ·rw [A.2.2,B.2.2]; exact tf h om
end
end
section
set_option maxRecDepth 20000
def qJ:aj:=⟨0,1,⟨0,⟨0,0⟩⟩,0,1⟩
def F2:ah:=⟨w7,[qJ],[],⟨0,⟨0,0⟩⟩,0⟩
theorem wi:cD w7 ⟨0,⟨0,0⟩⟩:=⟨⟨dc,dc⟩,_,rfl,dc⟩
theorem zx:du F2=0:=ef yV ⟨dc,wi,dc,fun i p hp=>by
 have hi:=(aV.1 hp).1
 have A:i=0:=by
  have:F2.aA.length=1:=rfl
  omega
 subst A
 have e:qJ=p:=Option.some.inj (show some qJ=some p from hp)
 subst e
 unfold db
 exact ⟨⟨by rw [jd rfl]; decide,dc,dc⟩,dc,wi,dc,dc,dc⟩,fun n hn=>by cases hn⟩
theorem D2:fk F2:=⟨dc,uB,dc,fun p hp=>by rw [cN.1 (show p∈[qJ] from hp)]; decide,dc,fun n hn=>by cases hn⟩
theorem Ax:bE F2 0 0=1000∧bB F2 0 0=0:=by
 have e:=nu zx (a:=0) (k:=0) dc (p:=qJ) rfl
 refine ⟨?_,e.1⟩
 rw [e.2.1]
 decide
def HQ:dx:=⟨w7,[⟨⟨0,0⟩,0⟩],[⟨⟨0,0⟩,0,1,true⟩],⟨0,0⟩,⟨1,1⟩,3,0,0⟩
theorem D5:nP HQ:=⟨rfl,dc,dc,dc,dc,dc,dc,fun b hb=>by rw [cN.1 (show b∈[_] from hb)]; exact ⟨dc,dc,dc⟩,fun h hh=>by rw [cN.1 (show h∈[_] from hh)]; exact ⟨dc,dc,dc,dc⟩⟩
theorem uj:fE HQ=0:=km yV D5
theorem zC:gn HQ:=⟨dc,uB,dc,dc⟩
theorem wo:ia HQ [[0]]:=⟨rfl,fun h l hr hl hh=>by
 have A:h=0:=by
  have:=(aV.1 hl).1
  simp only [List.length_singleton] at this
  omega
 subst A
 have B:[0]=l:=Option.some.inj (show some [(0:Int)]=some l from hl)
 have C:(⟨⟨0,0⟩,0,1,true⟩:aZ)=hr:=Option.some.inj (show some _=some hr from hh)
 subst B C
 refine ⟨dc,.inr U,fun k x hx=>?_⟩
 have hk:k=0:=by
  have:=(aV.1 hx).1
  simp only [List.length_singleton] at this
  omega
 subst hk
 have D:(0:Int)=x:=Option.some.inj (show some _=some x from hx)
 subst D
 exact ⟨dc,fun y A=>absurd A (Nat.lt_irrefl _)⟩⟩
theorem rv {α:Type} {l:List α} {p:α→Bool} {v:Nat} {y:α} (h:l[v]? =some y):(l.take (v+1)).any p=((l.take v).any p||p y):=by
 rw [List.take_add_one,h]; simp
theorem xx {c:dx} {us:List ab} (h:us.length=c.ak.length) (ht:a9 us=true) (hi:nP c):fE (dx.mk us c.cr c.bu c.dC c.cS c.eZ c.ep c.gb)=0:=km ht ⟨by show c.cr.length=us.length; rw [h]; exact hi.ki,hi.gQ,hi.jE,hi.gS,hi.kj,hi.g8,hi.base,hi.sV,hi.hour⟩
theorem yJ {d:ah} {ts:List ab} (hl:ts.length≤1000000) (hs: ∀ x∈ts,0≤x.ct∧x.ct≤255) (h:gZ d):gZ (ah.mk ts d.aA d.bk d.bM d.bP):=⟨Nat.le_trans hl dc,hs,h.sG,h.pk,h.rq,h.nk⟩
end
section
theorem jz {α:Type} {l:List α} {P:Nat→α→Prop} {i:Nat} {x:α} (h: ∀ (j:Nat) y,j<i→l[j]? =some y→P j y) (hx:l[i]? =some x) (hp:P i x): ∀ (j:Nat) y,j<i+1→l[j]? =some y→P j y:=fun j y hj hy=>by
 by_cases e:j=i
 ·subst e; rw [hx] at hy; cases hy; exact hp
 ·exact h j y om hy
theorem qA {α:Type} {l:List α} {P:Nat→α→Prop} {i:Nat} (hi:l.length≤i) (h: ∀ (j:Nat) y,j<i→l[j]? =some y→P j y): ∀ (j:Nat) y,l[j]? =some y→P j y:=fun j y hy=>h j y (by have:=(aV.1 hy).1; omega) hy
theorem pL {α:Type} {l:List α} {P:α→Prop} {i:Nat} (hi:l.length≤i) (h: ∀ (j:Nat) y,j<i→l[j]? =some y→P y): ∀ y∈l,P y:=fun y hy=>by
 obtain ⟨k,hk⟩:=List.getElem?_of_mem hy
 exact qA (P:=fun _ y=>P y) hi h k y hk
def wM (c:bK) (x:dN) (k:Nat):Prop:= ∀ (j:Nat) o,j<k→c.bO[j]? =some o→kl c x o
def nI (c:bK) (m:Nat):Prop:= ∀ (i:Nat) x,i<m→c.bO[i]? =some x→wM c x i
theorem Au {c:bK} {m:Nat} (h1:0≤c.gp∧c.gp≤1000) (h2:1≤c.bO.length∧c.bO.length≤5) (hs: ∀ (i:Nat) x,c.bO[i]? =some x→dR c i x) (hm:c.bO.length≤m) (hp:nI c m):fj c:=
 ⟨h1,h2,hs,fun i k x o hx hk ho=>hp i x (by have:=(aV.1 hx).1; omega) hx k o hk ho⟩
theorem vy {c:bK} {m k:Nat} (h:nI c m) (hk: ∀ y,c.bO[m]? =some y→wM c y k) (e:k=m):nI c (m+1):=by
 subst e
 intro i x hi hx
 by_cases e:i=k
 ·subst e; exact hk x hx
 ·exact h i x om hx
def eP (ts:List ab) (n:Nat):List I:=(List.range n).map fun k=>bW ts 0 k
theorem tU {ts:List ab} {n:Nat}:eP ts (n+1)=eP ts n++[bW ts 0 n]:=by simp [eP,List.range_succ]
theorem kd {ts:List ab} {n:Nat}:(eP ts n).length=n:=by simp [eP]
theorem kT {ts:List ab} {n k:Nat} {x:I} (h:(eP ts n)[k]? =some x):x=bW ts 0 k:=by
 unfold eP at h
 rw [gD] at h
 cases hk:(List.range n)[k]? with
 |none=>simp [hk] at h
 |some v=>
  have:=aV.1 hk
  simp at this
  simp [hk] at h
  rw [← h,← this.2]
theorem uI {ts:List ab} {a b:ae} (h:b.ax<a.ax):dQ ts a b=ik (dQ ts b a):=by
 unfold dQ
 rw [if_pos h,if_neg om]
 unfold mL
 rw [Int.min_comm b.ax a.ax,Int.max_comm b.ax a.ax]
 unfold ik fG
 simp only [I.mk.injEq]
 omega
theorem mh {ts:List ab} {a b:ae} (h: ¬ b.ax<a.ax):dQ ts a b=fG (fG (bW ts a.ax.toNat (b.ax-a.ax).toNat) b.hG) (ik a.hG):=by
 unfold dQ mL
 rw [if_neg h,Int.min_eq_left om,Int.max_eq_right om]
end
section
open Go.RowKit
theorem sE {l:List bK} {az:List RA} (h:az.length=l.length):(List.zipWith bK.cells l az).length=l.length:=by simp [h]
theorem n9 {l:List bK} {bz:List RA}:(eB (ei bK.owns l bz)).wr=true:=by
 show (ei bK.owns l bz).all (·.wr)=true
 rw [cT]
 intro X hX
 obtain ⟨k,m,a,_,_,h⟩:=nM hX
 simp only [bK.owns,cN] at h
 subst h; rfl
theorem lW: ∀ (m:bK) (a:RA) (w:World),(∀ X∈bK.owns m a,X.holds w)→ ∀ X∈bK.Bf m a,X.holds w:=fun m a w h X hX=>by
 simp only [bK.Bf,cN] at hX
 subst hX
 have:=sJ (h _ (cN.2 rfl))
 simpa using this
section
variable {E:dW} {ops:Array Oper} {Q:cq} {rest:List Oper} {D:List Deferred} {L:List (Nat×Value)} {C:List au}
end
end
section
theorem TN.sub {E:dW} {ops:Array Oper} {Q:cq} {D:eU} {C' C1 C:List au} {tb rem:List Nat}: ∀ {n:Nat} {L L':cG},cL L L'→TN E ops D C' C1 (fun L C=>KJ E (Q .normal) D L C) tb n rem L' C→TN E ops D C' C1 (fun L C=>KJ E (Q .normal) D L C) tb n rem L C:=by
 intro n
 cases n with
 |zero=>intro L L' hs h; exact j9 hs (fun _ h=>h) h
 |succ n=>intro L L' hs h i hi o ho K hK; exact Dq hs (fun _ h=>h) (h i hi o ho K hK)
theorem BT {E:dW} {ops:Array Oper} {Q:cq} {D:eU} {C' C1 C:List au} {bs:List Bool} {os:List Oper} {L:cG} {tb rem:List Nat} {n:Nat} {t:Nat} {b:Bool} (h:L.lookup t=some (.bool b))
 (h1:b=true→lF E ops D C' C1 (fun L'=>TN E ops D C' C1 (fun L C=>KJ E (Q .normal) D L C) tb n rem L' C) bs os ((t,.bool true)::L)) (h2:b=false→lF E ops D C' C1 (fun L'=>TN E ops D C' C1 (fun L C=>KJ E (Q .normal) D L C) tb n rem L' C) bs os ((t,.bool false)::L)):
 lF E ops D C' C1 (fun L'=>TN E ops D C' C1 (fun L C=>KJ E (Q .normal) D L C) tb n rem L' C) bs os L:=by
 have A: ∀ v:Bool,b=v→cL L ((t,.bool v)::L):=fun v hv=>cL.cons (hv▸h) (fun _ _ h=>h)
 cases b
 ·exact lF.mono (fun _ _=>TN.sub) (A _ U) (h2 U)
 ·exact lF.mono (fun _ _=>TN.sub) (A _ U) (h1 U)
/-- what is not asked for any more goes -/
theorem Gy {E:dW} {c:Code} {Q:cq} {D:eU} {L:cG} {C C':List au} (is:List Nat) (hn:decide is.Nodup=true) (hC:mM C is=C') (h:WJ E c Q D L C'):WJ E c Q D L C:=fun a w hf hs=>h a w hf (St.mM is hn hC hs)
theorem GC {E:dW} {ops:Array Oper} {Q:cq} {D:List Deferred} {L:List (Nat×Value)} {C1 C2 C:List au} {t n:Nat} {b:Bool} {bs:List Bool} {os:List Oper} {tb rem:List Nat} (h:L.lookup t=some (.bool b)) (h2:b=false→lF E ops D C2 C1 (fun L2=>TN E ops D C2 C1 (fun L C=>KJ E (Q .normal) D L C) tb n rem L2 C) bs os ((t,.bool false)::L)) (h1:b=true→lF E ops D C2 C1 (fun L2=>TN E ops D C2 C1 (fun L C=>KJ E (Q .normal) D L C) tb n rem L2 C) bs os ((t,.bool true)::L)):lF E ops D C2 C1 (fun L2=>TN E ops D C2 C1 (fun L C=>KJ E (Q .normal) D L C) tb n rem L2 C) bs os L:=BT h h1 h2
end
section
open Go.RowKit
def GL (b:Bool):List Value:=[.bool b]
@[simp] theorem BB (b:Bool):(GL b).length=1:=rfl
end
section
def eW (m:bj) (n:Nat):Prop:=(1≤m.Kind∧m.Kind≤2)∧(0≤m.cc∧m.cc≤(n:Int))∧(0≤m.To∧m.To≤(n:Int))∧m.cc<m.To∧aF m.cM 0 360000
instance (m:bj) (n:Nat):Decidable (eW m n):=by unfold eW; infer_instance
def h_ (l:List bj) (n:Nat):Prop:=(l.length:Int)≤12∧ ∀ m∈l,eW m n
instance (l:List bj) (n:Nat):Decidable (h_ l n):=by unfold h_; infer_instance
def ta (l:List bj):List (List Value):=l.mapIdx fun i m=>[.int .i64 (i:Int),.agg (bj.cells m).toArray]
section
variable {l:List bj} {n i:Nat} {x:bj}
theorem yn (h: ∀ m∈l.take i,eW m n) (hx:l[i]? =some x) (hm:eW x n): ∀ m∈l.take (i+1),eW m n:=by
 rw [List.take_add_one,hx]
 intro m hq
 rcases e9.1 hq with hq|hq
 ·exact h m hq
 ·rw [cN.1 hq]; exact hm
theorem kX (hx:l[i]? =some x) (hm: ¬ eW x n): ¬ h_ l n:=fun h=>hm (h.2 x (aG hx))
theorem jG (hl:(l.length:Int)≤12) (h: ∀ m∈l.take i,eW m n) (hi:l.length≤i):h_ l n:=⟨hl,by rw [List.take_of_length_le hi] at h; exact h⟩
theorem tW:(ta l).length=l.length:=List.length_mapIdx
theorem AN (hx:l[i]? =some x):(ta l)[i]? =some [.int .i64 (i:Int),.agg (bj.cells x).toArray]:=by
 unfold ta; rw [List.getElem?_mapIdx,hx]; rfl
theorem uz {v:List Value} (h:(ta l)[i]? =some v): ∃ x,l[i]? =some x∧v=[.int .i64 (i:Int),.agg (bj.cells x).toArray]:=by
 unfold ta at h
 rw [List.getElem?_mapIdx] at h
 cases hx:l[i]? with
 |none=>rw [hx] at h; cases h
 |some x=>rw [hx] at h; exact ⟨x,rfl,(Option.some.inj h).symm⟩
theorem w_: ∀ v∈ta l,v.length=2:=fun v hv=>by
 obtain ⟨i,hi⟩:=List.mem_iff_getElem?.1 hv
 obtain ⟨x,_,rfl⟩:=uz hi; rfl
end
theorem qK {x:Nat} (h:x≤13):(2:Int)^x≤8192:=by
 have key: ∀ k:Fin 14,(2:Int)^k.val≤8192:=by decide
 exact key ⟨x,om⟩
theorem Rd.ET {n x i k a b:Nat} {M0 M:List Int} (hn:n≤13) (hc:Cl n x M0) (hx:x<n) (h:Rd n x M0 M i k) (ha:a<n) (hb:b<n): -8796093022208≤mt M a b∧mt M a b≤1073741824:=by
 have A:=h.bd hc hx ha hb
 have B:=qK (x:=x+1) om
 omega
theorem Cl.ET {n x i k:Nat} {M:List Int} (hx:x≤13) (h:Cl n x M) (hi:i<n) (hk:k<n): -8796093022208≤mt M i k∧mt M i k≤1073741824:=by
 have A:=h.bd i k hi hk
 have B:=qK hx
 omega
theorem ny {β:Type} {left l:List (Int×β)} {x:Int} (h: ∀ e∈left,e∈l): ∀ e∈eV left x,e∈l:=fun e he=>h e (List.mem_filter.1 he).1
theorem AW {β:Type} {l:List (Int×β)} {t:List β} {x:Int} {y:β} (h: ∀ e∈l,e.2∈t) (hy:y∈t): ∀ e∈g9 l x y,e.2∈t:=fun e he=>by
 unfold g9 at he
 split at he
 ·obtain ⟨p,hp,rfl⟩:=cy.1 he
  split
  ·exact hy
  ·exact h p hp
 ·rcases e9.1 he with he|he
  ·exact h e he
  ·rw [cN.1 he]; exact hy
end
section
theorem w6 {h h' k w:Int} (h0:0≤h) (hh:h≤h') (hk:0≤k) (hw:0<w):max 0 (h-h*k/w)≤max 0 (h'-h'*k/w):=by
 rcases Int.le_total k w with A|A
 ·have B:h'*k≤h*k+(h'-h)*w:=by
   have e:h'*k=h*k+(h'-h)*k:=by rw [← Int.add_mul]; congr 1; omega
   rw [e]
   exact Int.add_le_add_left (Int.mul_le_mul_of_nonneg_left A om) _
  have C:=Int.ediv_le_ediv hw B
  rw [Int.add_mul_ediv_right _ _ (Int.ne_of_gt hw)] at C
  omega
 ·have B:h*w≤h*k:=Int.mul_le_mul_of_nonneg_left A h0
  have C:=Int.ediv_le_ediv hw B
  rw [Int.mul_ediv_cancel _ (Int.ne_of_gt hw)] at C
  omega
theorem lf {h h' lo lo' fa fa' ru ru' dr dr' we we':Int} (h0:0≤h) (hh:h≤h') (hlo0:0≤lo') (hlo:lo'≤lo) (hfa:fa≤fa') (hru0:0≤ru') (hru:ru'≤ru) (hdr0:0≤dr') (hdr:dr'≤dr) (hwe0:0<we) (hwe:we≤we'):
 pX h lo fa ru dr we≤pX h' lo' fa' ru' dr' we':=by
 unfold pX
 have hk:dr'*lo'≤dr*lo:=Int.mul_le_mul hdr hlo hlo0 om
 have A:0≤dr'*lo':=Int.mul_nonneg hdr0 hlo0
 have B:h*(dr'*lo')/(100*we')≤h*(dr*lo)/(100*we):=
  Int.le_trans (zY (Int.mul_nonneg h0 A) om om) (Int.ediv_le_ediv om (Int.mul_le_mul_of_nonneg_left hk h0))
 have C:=w6 (k:=dr'*lo') (w:=100*we') h0 hh A om
 have D:ru'*lo'/100≤ru*lo/100:=Int.ediv_le_ediv om (Int.mul_le_mul hru hlo hlo0 om)
 rw [Int.mul_assoc h,Int.mul_assoc h']
 omega
end
section
def Hv (s:bL) (ts:List ab) (j:Nat):Int:=if Cz ts j=true then max 0 (JW true s ts j) else 0
/-- the walls when the entries of a list are still to come -/
def AX (s:bL) (ts:List ab) (l:List (Int×Int)):List Int:=(List.range ts.length).map fun (j:Nat)=>if l.any (fun p=>decide (p.1=(j:Int)))=true then 0 else Hv s ts j
@[simp] theorem Bh {s:bL} {ts:List ab} {l:List (Int×Int)}:(AX s ts l).length=ts.length:=by simp [AX]
open Go.RowKit
section
variable {E:dW} {ops:Array Oper} {Q:cq} {rest:List Oper} {D:List Deferred} {L:List (Nat×Value)} {C:List au}
variable {d:Nat} {ty:TypeId} {ps:String} {af:Array Edge} {g:Option (Nat×Bool)}
end
end
section
def BY (bl:List Int) (i:Int):Int:=if bl.length=0 then 0 else bl.getD (i % (bl.length:Int)).toNat 0
def vW (s:I) (b:Int):Int:=if b % 5=0 then s.Lo else (if b % 5=1 then s.Hi else s.Lo+b/5 % (s.Hi-s.Lo+1))
theorem zc {s:I} {b:Int} (h:s.Lo≤s.Hi):s.Lo≤vW s b∧vW s b≤s.Hi:=by
 unfold vW
 have A:=Int.emod_nonneg (b/5) (show s.Hi-s.Lo+1≠0 by omega)
 have B:=Int.emod_lt_of_pos (b/5) (show 0<s.Hi-s.Lo+1 by omega)
 split
 ·omega
 ·split<;>omega
/-- the number of the choices at a place -/
def ch (bl:List Int) (s:I) (k:Int):Int:=vW s (BY bl k)
theorem ri {bl:List Int} {s:I} {k:Int} (h:s.Lo≤s.Hi):s.Lo≤ch bl s k∧ch bl s k≤s.Hi:=zc h
def Dy (bl:List Int) (s:bL) (x:ab) (i:Nat) (h:Int):Int:=pX h (ch bl x.di (3+5*(i:Int))) (ch bl x.dA (3+5*(i:Int)+1)) (ch bl s.sU (3+5*(i:Int)+2)) (ch bl s.lG 1) (ch bl s.Weight 2)
def rV (bl:List Int) (s:bL) (ts:List ab):Nat→Int
 |0=>ch bl s.Start 0
 |i+1=>match ts[i]? with
  |some x=>Dy bl s x i (rV bl s ts i)
  |none=>rV bl s ts i
/-- heads are within what is told -/
theorem Jt {bl:List Int} {s:bL} {ts:List ab} (hs:cV s) (ht: ∀ x∈ts,a_ x): ∀ i,cf false s ts i≤rV bl s ts i∧rV bl s ts i≤cf true s ts i:=by
 intro i
 induction i with
 |zero=>
  have:=ri (bl:=bl) (k:=0) hs.2.1.1
  simp only [cf,rV,eO]
  exact ⟨by simpa using this.1,by simpa using this.2⟩
 |succ i ih=>
  simp only [cf,rV]
  cases hx:ts[i]? with
  |none=>exact ih
  |some x=>
   have hm:=ht x (aG hx)
   have A:=(jh (best:=false) hs ht i).1
   have F:=ri (bl:=bl) (k:=3+5*(i:Int)) hm.2.1.1
   have G:=ri (bl:=bl) (k:=3+5*(i:Int)+1) hm.2.2.1.1
   have H:=ri (bl:=bl) (k:=3+5*(i:Int)+2) hs.2.2.1.1
   have AA:=ri (bl:=bl) (k:=1) hs.2.2.2.1.1
   have J:=ri (bl:=bl) (k:=2) hs.2.2.2.2.1.1
   have B:=hm.2.1.2.1
   have C:=hs.2.2.1.2.1
   have D:=hs.2.2.2.1.2.1
   have E:=hs.2.2.2.2.1.2.1
   simp only [rN,Dy]
   constructor
   ·refine lf A ih.1 om ?_ ?_ om ?_ om ?_ ?_ ?_ <;>simp only [eO]<;>simp <;>omega
   ·refine lf om ih.2 ?_ ?_ ?_ ?_ ?_ ?_ ?_ om ?_ <;>simp only [eO]<;>simp <;>omega
end
section
def JA (ts:List ab) (w:Nat→Int):List ab:=ts.mapIdx fun j x=>{x with kF:=w j}
@[simp] theorem DH {ts:List ab} {w:Nat→Int}:(JA ts w).length=ts.length:=by simp [JA]
end
section
def xB (best f:Bool) (z:I):I:=⟨eO best f z,eO best f z⟩
def EY (best:Bool) (x:ab):ab:={x with di:=xB best false x.di,dA:=xB best true x.dA,cg:=xB best false x.cg}
/-- a stretch of which so many fields are at their ends -/
def Ji (best:Bool):Nat→ab→ab
 |0,x=>x
 |1,x=>{x with di:=xB best false x.di}
 |2,x=>{x with di:=xB best false x.di,dA:=xB best true x.dA}
 |_,x=>EY best x
def FP (best:Bool) (ts:List ab):List ab:=ts.map (EY best)
def Hj (best:Bool) (ts:List ab) (i k:Nat):List ab:=ts.mapIdx fun j x=>if j<i then EY best x else if j=i then Ji best k x else x
@[simp] theorem Dj {best:Bool} {ts:List ab}:(FP best ts).length=ts.length:=by simp [FP]
@[simp] theorem Dm {best:Bool} {ts:List ab} {i k:Nat}:(Hj best ts i k).length=ts.length:=by simp [Hj]
end
section
def jD (a b:I):Prop:=b.Lo≤a.Lo∧a.Hi≤b.Hi
structure uK (s z:bL):Prop where
 start:jD s.Start z.Start
 JV:jD s.sU z.sU
 I8:jD s.lG z.lG
 weight:jD s.Weight z.Weight
 JD:jD s.ly z.ly
structure xA (x y:ab):Prop where
 EI:jD x.di y.di
 E2:jD x.dA y.dA
 Ix:jD x.cg y.cg
 side:x.ct=y.ct
structure wJ (ts us:List ab):Prop where
 len:us.length=ts.length
 at_: ∀ (i:Nat) x y,ts[i]? =some x→us[i]? =some y→xA x y
theorem jD.refl (a:I):jD a a:=⟨Int.le_refl _,Int.le_refl _⟩
theorem uK.refl (s:bL):uK s s:=⟨.refl _,.refl _,.refl _,.refl _,.refl _⟩
theorem kW {a b:I} (h:jD a b):eO false true b≤eO false true a∧eO true true a≤eO true true b∧eO false false a≤eO false false b∧eO true false b≤eO true false a:=by
 simp only [eO]
 obtain ⟨A,B⟩:=h
 refine ⟨?_,?_,?_,?_⟩<;>simp <;>omega
section
variable {s z:bL} {ts us:List ab} (hs:cV s) (hz:cV z) (ht: ∀ x∈ts,a_ x) (hu: ∀ x∈us,a_ x) (is:uK s z) (it:wJ ts us)
include hs hz ht hu is it
theorem CH: ∀ i,cf false z us i≤cf false s ts i∧cf true s ts i≤cf true z us i:=by
 intro i
 induction i with
 |zero=>exact ⟨(kW is.start).1,(kW is.start).2.1⟩
 |succ i ih=>
  simp only [cf]
  cases hx:ts[i]? with
  |none=>
   have B:=it.len
   have:us[i]? =none:=List.getElem?_eq_none (by have:=List.getElem?_eq_none_iff.1 hx; omega)
   rw [this]; exact ih
  |some x=>
   have B:=it.len
   have hi:=(aV.1 hx).1
   have hy:us[i]? =some (us[i]'om):=eu om
   rw [hy]
   have A:=it.at_ i x _ hx hy
   generalize us[i]'om=y at hy A
   have C:=ht x (aG hx)
   have D:=hu y (aG hy)
   have T:=(jh (best:=false) hs ht i).1
   have J:=(jh (best:=true) hs ht i).1
   have K:=(jh (best:=false) hz hu i).1
   have AA:=(jh (best:=true) hz hu i).1
   have E:=kW A.EI
   have F:=kW A.E2
   have G:=kW is.JV
   have H:=kW is.I8
   have AB:=kW is.weight
   have L:=fun b f=>eA (best:=b) (f:=f) C.2.1
   have P:=fun b f=>eA (best:=b) (f:=f) D.2.1
   have M:=fun b f=>eA (best:=b) (f:=f) hs.2.2.1
   have Q:=fun b f=>eA (best:=b) (f:=f) hz.2.2.1
   have N:=fun b f=>eA (best:=b) (f:=f) hs.2.2.2.1
   have R:=fun b f=>eA (best:=b) (f:=f) hz.2.2.2.1
   have O:=fun b f=>eA (best:=b) (f:=f) hs.2.2.2.2.1
   have S:=fun b f=>eA (best:=b) (f:=f) hz.2.2.2.2.1
   simp only [rN]
   constructor
   ·refine lf K ih.1 ?_ E.2.2.1 F.1 ?_ G.2.2.1 ?_ H.2.2.1 ?_ AB.1
    ·have:=L false false; omega
    ·have:=M false false; omega
    ·have:=N false false; omega
    ·have:=S false true; omega
   ·refine lf J ih.2 ?_ E.2.2.2 F.2.1 ?_ G.2.2.2 ?_ H.2.2.2 ?_ AB.2.1
    ·have:=P true false; omega
    ·have:=Q true false; omega
    ·have:=R true false; omega
    ·have:=O true true; omega
end
def G2 (w n:Int) (x:ab):ab:=if w % 2=0 then {x with di:=⟨x.di.Lo,x.di.Hi+n⟩} else {x with dA:=⟨x.dA.Lo,x.dA.Hi+n⟩}
def C7 (ts:List ab) (w n:Int):List ab:=ts.modify (w % (ts.length:Int)).toNat (G2 w n)
@[simp] theorem Bp {ts:List ab} {w n:Int}:(C7 ts w n).length=ts.length:=by simp [C7]
end
section
section
variable {s:bL} {ts us:List ab} {i:Nat} {x:ab}
theorem eL.JT (h:eL ts.length ts.length ts us):wJ us ts:=⟨h.len.symm,fun i x y hx hy=>by
 have hi:=(aV.1 hy).1
 have A:=h.at_ i y x hy hx
 rw [if_pos hi,if_pos hi] at A
 obtain ⟨⟨_,B,C,_⟩,a,b⟩:=A
 exact ⟨⟨a.1,a.2.2⟩,⟨b.1,b.2.2⟩,by rw [C]; exact .refl _,B⟩⟩
variable (hs:cV s) (ht: ∀ x∈ts,a_ x) (h:eL ts.length ts.length ts us)
include hs ht h
theorem ze (i:Nat):cf false s ts i≤cf false s us i∧cf true s us i≤cf true s ts i:=CH hs hs (h.ok ht) ht (.refl s) h.JT i
end
end
section
open Go.RowKit
set_option linter.unusedSectionVars false
theorem jc {P:Program} {kt:Nat} (hk:P.underlying kt=some (.int .i64)):ui P kt (Value.int .i64):=by
 refine ⟨fun e x w=>xL hk e,fun x w es A=>?_,fun x=>by simp [Instr.sameBits],fun x y h=>by injection h⟩
 have key: ∀ (es:List MapEntry) (i:Nat),(∀ e∈es,∃ k:Int,e.key= .int .i64 k)→(Instr.findNow (.int .i64) (.int .i64 x) es i=some none∧ ∀ e∈es,e.key≠ .int .i64 x)∨ ∃ j e,Instr.findNow (.int .i64) (.int .i64 x) es i=some (some (i+j,e.val))∧es[j]? =some e∧e.key= .int .i64 x:=by
  intro es
  induction es with
  |nil=>intro i _; exact .inl ⟨rfl,sm⟩
  |cons e es ih=>
   intro i A
   obtain ⟨k,B⟩:=A e sm
   by_cases h:x=k
   ·subst h
    exact .inr ⟨0,e,by simp [Instr.findNow,Instr.sameNow,B],U,B⟩
   ·have hb:(x==k)=false:=by simpa using h
    rcases ih (i+1) (fun y hy=>A y (by simp [hy])) with ⟨C,D⟩|⟨j,e',C,D,E⟩
    ·refine .inl ⟨by simp [Instr.findNow,Instr.sameNow,B,hb,C],fun y hy=>?_⟩
     rcases bZ.1 hy with rfl|hy
     ·rw [B]; intro q; injection q with _ q; exact h q.symm
     ·exact D y hy
    ·refine .inr ⟨j+1,e',?_,by simpa using D,E⟩
     simp only [Instr.findNow,Instr.sameNow,B,hb,if_true,C]
     simp; omega
 rcases key es 0 A with ⟨C,D⟩|⟨j,e,C,D,E⟩
 ·exact .inl ⟨MapKept.run_findKey hk C,D⟩
 ·exact .inr ⟨j,e,MapKept.run_findKey hk (by simpa using C),D,E⟩
theorem St.Bl {S:BS} {w0 w w':World} {C:List au} {A N:au} (h:St S w0 C w) (i:Nat) (hA:C[i]? =some A) (k:cQ no w w') (hN:N.holds w') (hf: ∀ b,N.dG b→w.heap.size≤b∨A.dG b∧ ¬ A.wf b∧ ¬ N.wf b):St S w0 (N::C) w':=by
 have h':=h.same k
 have G:=aG hA
 have hi:=(aV.1 hA).1
 have B:C[i]=A:=(aV.1 hA).2
 refine ⟨h'.keeps,fun X hX=>?_,List.Pairwise.cons (fun X hX b hb hb'=>?_) h'.sep,fun X hX b hb=>?_,fun X hX b hb=>?_⟩
 ·rcases bZ.1 hX with rfl|hX
  ·exact hN
  ·exact h'.holds X hX
 ·rcases hf b hb with E|⟨E,AA,H⟩
  ·have:=X.lt w (h.holds X hX) b hb'; omega
  ·refine ⟨H,?_⟩
   obtain ⟨j,hj,D⟩:=List.mem_iff_getElem.1 hX
   by_cases e:j=i
   ·subst e; rw [← D,B]; exact AA
   ·rcases Nat.lt_or_gt_of_ne e with F|F
    ·have:=d_.1 h.sep j i hj hi F b (by rw [D]; exact hb') (by rw [B]; exact E)
     rw [← D]; exact this.1
    ·have:=d_.1 h.sep i j hi hj F b (by rw [B]; exact E) (by rw [D]; exact hb')
     rw [← D]; exact this.2
 ·rcases bZ.1 hX with rfl|hX
  ·rcases hf b (X.iL b hb) with E|⟨_,_,H⟩
   ·exact .inl (Nat.le_trans h.keeps.size E)
   ·exact absurd hb H
  ·exact h'.own X hX b hb
 ·rcases bZ.1 hX with rfl|hX
  ·rcases hf b hb with E|⟨E,_,_⟩
   ·exact .inl (Nat.le_trans h.keeps.size E)
   ·exact h.seen A G b E
  ·exact h'.seen X hX b hb
section
variable {K:Type} [DecidableEq K] {kV:K→Value}
/-- an iterator over a map that is read alone -/
def vC (kV:K→Value) (r b:Nat) (m left:List (K×Value)) (cur:Option (K×Value)):au where
 dG k:=k=r∨k=b
 wf k:=k=r
 holds w:=r≠b∧ ∃ (es:Array MapEntry) (c since:Nat) (seen:Array Nat) (st:Nat),w.heap[b]? =some (.map es c)∧fO kV es c m∧w.heap[r]? =some (.mapIter (some b) since seen st)∧(∀ e∈es.toList,e.born<since)∧since≤st∧since≤c∧
  (leftOf es seen).toList.map (fun (e:MapEntry)=>(e.key,e.val))=left.map (fun p=>(kV p.1,p.2))∧
  ∀ p,cur=some p→ ∃ (e:MapEntry) (seen0:Array Nat),e∈es.toList∧seen=seen0.push e.born∧st=c∧e.key=kV p.1∧e.val=p.2
 wr:=false
 iL _ h:= .inl h
 whole h:=by cases h
 lt w h k hk:=by
  obtain ⟨_,es,c,since,seen,st,h1,_,h2,_⟩:=h
  rcases hk with rfl|rfl
  ·exact ee h2
  ·exact ee h1
 kQ w w' hk h:=by
  obtain ⟨hne,es,c,since,seen,st,h1,h2,h3,h4⟩:=h
  exact ⟨hne,es,c,since,seen,st,(hk b (.inr rfl)).trans h1,h2,(hk r (.inl rfl)).trans h3,h4⟩
theorem l0 {r b:Nat} {m left:List (K×Value)} {cur:Option (K×Value)}:(∀ w,(vC kV r b m left cur).holds w→(vC kV r b m left none).holds w)∧(∀ k,(vC kV r b m left none).dG k→(vC kV r b m left cur).dG k)∧ ∀ k,(vC kV r b m left none).wf k→(vC kV r b m left cur).wf k:=
 ⟨fun w h=>by
  obtain ⟨A,es,c,since,seen,st,B,C,D,E,F,h5',G,_⟩:=h
  exact ⟨A,es,c,since,seen,st,B,C,D,E,F,h5',G,fun p hp=>by cases hp⟩,fun _ h=>h,fun _ h=>h⟩
section
variable {E:dW} {ops:Array Oper} {Q:cq} {rest:List Oper} {D:List Deferred} {L:List (Nat×Value)} {C:List au}
variable {dst:Option Tmp} {d:Nat} {ty:TypeId} {ps:String} {af:Array Edge} {g:Option (Nat×Bool)}
theorem mZ {t kt et:TypeId} {xm:Operand} {b:Nat} {m:List (K×Value)} {A:au} (i:Nat) (hg:gW ops L g=true) (hm:ev L xm=some (.map (some b))) (ht:E.P.underlying t=some (.map kt et)) (hA:C[i]? =some A) (hAf:A.dG b∧ ¬ A.wf b) (hC:iK C (nt kV b m).holds) (hd:Nat.blt d E.n=true)
 (k: ∀ r,RJ E ops Q rest D ((d,.pointer (some ⟨r,0,none⟩))::L) (vC kV r b m m none::C)):RJ E ops Q (⟨some d,.range t xm,ty,ps,af,g⟩::rest) D L C:=by
 intro a w B hs
 have hd':d<E.n:=by rw [← Nat.blt_eq]; exact hd
 unfold nv
 rw [if_pos (dw B hg)]
 obtain ⟨es,c,he,hi⟩:=hs.has hC
 have G:b<w.heap.size:=ee he
 have F:(getObj b).run E.P w= .ok (.map es c) w:=MapKept.run_getObj_map he
 refine fp (v:= .pointer (some ⟨w.heap.size,0,none⟩)) (w':=w.alloc (.mapIter (some b) c #[] c)) sm ?_ ?_
 ·simp [execOp,Instr.range,B.ev hm,run_underlying ht,F,newObj,Sem.run]
 ·refine k _ _ _ (B.put hd' _) (hs.Bl i hA (cQ.alloc no w _) ⟨om,es,c,c,#[],c,?_,hi,heap_alloc_new w _,hi.Fs,Nat.le_refl _,Nat.le_refl _,?_,fun p hp=>by cases hp⟩ (fun q hq=>?_))
  ·rw [Below.heap_alloc w _ b G]; exact he
  ·have:leftOf es #[]=es:=by unfold leftOf; exact Array.filter_eq_self.2 sm
   rw [this]; exact hi.list
  ·rcases hq with rfl|rfl
   ·exact .inl (Nat.le_refl _)
   ·refine .inr ⟨hAf.1,hAf.2,fun (e:q=w.heap.size)=>by omega⟩
theorem ym (hinj: ∀ x y,kV x=kV y→x=y) {xi:Operand} {r b:Nat} {m left:List (K×Value)} {cur:Option (K×Value)} (i:Nat) (hg:gW ops L g=true) (hm:ev L xi=some (.pointer (some ⟨r,0,none⟩))) (hC:C[i]? =some (vC kV r b m left cur)) (hd:Nat.blt d E.n=true)
 (k0:left=[]→RJ E ops Q rest D ((d,.tuple [.bool false].toArray)::L) C)
 (k1: ∀ x v,(x,v)∈left→(left.map (·.1)).Nodup→RJ E ops Q rest D ((d,.tuple [.bool true,kV x,v].toArray)::L) (C.set i (vC kV r b m (eV left x) (some (x,v))))):
 RJ E ops Q (⟨some d,.next xi false,ty,ps,af,g⟩::rest) D L C:=by
 intro a w G hs
 have hd':d<E.n:=by rw [← Nat.blt_eq]; exact hd
 unfold nv
 rw [if_pos (dw G hg)]
 obtain ⟨R,es,c,since,seen,st,X,hi,Y,J,V,M,A,_⟩:=hs.holds _ (aG hC)
 rcases run_next_at (P:=E.P) w ty r b since st seen es c Y X J V with ⟨Z,hr⟩|⟨e,he,N,H,hr⟩
 ·refine fp (v:= .tuple #[.bool false]) (w':=w) sm ?_ ?_
  ·simp [execOp,G.ev hm,hr]
  ·refine k0 ?_ _ _ (G.put hd' _) hs
   have:(leftOf es seen).toList=[]:=by rw [← List.length_eq_zero_iff,Array.length_toList]; exact Z
   rw [this] at A
   exact List.map_eq_nil_iff.1 A.symm
 ·have O:(e.key,e.val)∈left.map (fun p=>(kV p.1,p.2)):=by rw [← A]; exact cy.2 ⟨e,he,rfl⟩
  obtain ⟨p,hp,S⟩:=cy.1 O
  obtain ⟨x,v⟩:=p
  simp only [Prod.mk.injEq] at S
  obtain ⟨hk,hv⟩:=S
  refine fp (v:= .tuple #[.bool true,e.key,e.val]) (w':=ChangeMaps.setBlock N r (.mapIter (some b) since (seen.push e.born) c)) sm ?_ ?_
  ·simp [execOp,G.ev hm,hr]
  ·rw [← hk,← hv]
   have AA:=uH hinj hi A
   have F:e∈es.toList:=by unfold leftOf at he; rw [Array.toList_filter] at he; exact (List.mem_filter.1 he).1
   have f:c=c:=rfl
   have B:N.heap=w.heap:=by rcases H with rfl|rfl<;>rfl
   refine k1 x v hp AA _ _ (G.put hd' _) (hs.mv i hC ⟨⟨R,es,c,since,seen.push e.born,c,?_,hi,?_,J,M,M,?_,fun q hq=>?_⟩,?_,fun q hq=> .inl hq,fun q hq=> .inl hq⟩)
   ·show (N.heap.setIfInBounds r _)[b]? =_
    rw [Array.getElem?_setIfInBounds_ne R,B]; exact X
   ·show (N.heap.setIfInBounds r _)[r]? =_
    rw [Array.getElem?_setIfInBounds_self_of_lt (by rw [B]; exact ee Y)]
   ·have T:leftOf es (seen.push e.born)=(leftOf es seen).filter (fun z=> !(z.born==e.born)):=by
     unfold leftOf
     rw [Array.filter_filter]
     congr 1
     funext z
     simp only [Array.contains_push,Bool.not_or]
     rw [Bool.and_comm]
    rw [T,Array.toList_filter]
    have key: ∀ (l:List MapEntry) (ll:List (K×Value)),(∀ z∈l,z∈es.toList)→l.map (fun (e:MapEntry)=>(e.key,e.val))=ll.map (fun p=>(kV p.1,p.2))→
     (l.filter (fun z=> !(z.born==e.born))).map (fun (e:MapEntry)=>(e.key,e.val))=(eV ll x).map (fun p=>(kV p.1,p.2)):=by
     intro l
     induction l with
     |nil=>intro ll _ h; cases ll with
      |nil=>rfl
      |cons p ll=>simp at h
     |cons z l ih=>
      intro ll hz h
      cases ll with
      |nil=>simp at h
      |cons p ll=>
       simp only [List.map_cons,List.cons.injEq,Prod.mk.injEq] at h
       have ih':=ih ll (fun y hy=>hz y (by simp [hy])) h.2
       have AB:(z.born=e.born)↔(p.1=x):=by
        constructor
        ·intro hb
         have:z=e:=Bc hi.born (hz z sm) F hb
         rw [this] at h
         have:=h.1.1.symm.trans hk.symm
         exact hinj _ _ this
        ·intro hx
         have W:z.key=e.key:=by rw [h.1.1,hx,hk]
         rw [zK hinj hi (hz z sm) F W]
       unfold eV at ih' ⊢
       by_cases hx:p.1=x
       ·rw [List.filter_cons_of_neg (by simp [AB.2 hx]),List.filter_cons_of_neg (by simp [hx])]; exact ih'
       ·rw [List.filter_cons_of_pos (by simpa using fun hb=>hx (AB.1 hb)),List.filter_cons_of_pos (by simpa using hx)]
        simp only [List.map_cons,h.1.1,h.1.2,ih']
    exact key _ _ (fun z hz=>by unfold leftOf at hz; rw [Array.toList_filter] at hz; exact (List.mem_filter.1 hz).1) A
   ·cases hq
    exact ⟨e,seen,F,U,U,hk.symm,hv.symm⟩
   ·refine ⟨?_,?_,?_,?_,fun q hq hn=>?_⟩
    ·rcases H with rfl|rfl<;>rfl
    ·rcases H with rfl|rfl<;>rfl
    ·rcases H with rfl|rfl<;>rfl
    ·show w.heap.size≤(N.heap.setIfInBounds r _).size
     simp [B]
    ·show (N.heap.setIfInBounds r _)[q]? =_
     rw [Array.getElem?_setIfInBounds_ne (fun e=>hn e.symm),B]
theorem l9 {xi:Operand} {r b:Nat} {m left:List (K×Value)} {x:K} {v:Value} (i:Nat) (hg:gW ops L g=true) (hm:ev L xi=some (.pointer (some ⟨r,0,none⟩))) (hC:C[i]? =some (vC kV r b m left (some (x,v)))):
 SD E ops ⟨dst,.entry xi,ty,ps,af,g⟩ D L C (.tuple [kV x,v].toArray):=
 dh hg sm fun a w F hs=>by
  obtain ⟨N,es,c,since,seen,st,J,hi,M,H,O,AA,G,B⟩:=hs.holds _ (aG hC)
  obtain ⟨e,A,he,rfl,rfl,hk,hv⟩:=B _ rfl
  have:=run_entry_at (P:=E.P) w r b since A es st e M J he hi.born
  simp [execOp,F.ev hm,this,hk,hv]
theorem l8 (hinj: ∀ x y,kV x=kV y→x=y) {β:Type} {f:β→Value} {xi:Operand} {r b:Nat} {m:List (K×Value)} {ll:List (K×β)} {cur:Option (K×Value)} (i:Nat) (hg:gW ops L g=true) (hm:ev L xi=some (.pointer (some ⟨r,0,none⟩))) (hC:C[i]? =some (vC kV r b m (dM f ll) cur)) (hd:Nat.blt d E.n=true)
 (k0:ll=[]→RJ E ops Q rest D ((d,.tuple [.bool false].toArray)::L) C)
 (k1: ∀ x y,(x,y)∈ll→(ll.map (·.1)).Nodup→RJ E ops Q rest D ((d,.tuple [.bool true,kV x,f y].toArray)::L) (C.set i (vC kV r b m (dM f (eV ll x)) (some (x,f y))))):
 RJ E ops Q (⟨some d,.next xi false,ty,ps,af,g⟩::rest) D L C:=by
 refine ym hinj i hg hm hC hd (fun h=>k0 (List.map_eq_nil_iff.1 h)) (fun x v B hn=>?_)
 obtain ⟨p,hp,A⟩:=cy.1 B
 simp only [Prod.mk.injEq] at A
 obtain ⟨rfl,rfl⟩:=A
 have:=k1 p.1 p.2 hp (by simpa [dM,Function.comp_def] using hn)
 rwa [qb] at this
end
end
end
section
theorem HF (a b:Int) (ha:0≤a) (hb:0<b):0≤a % b∧a % b<b:=⟨Int.emod_nonneg _ (Int.ne_of_gt hb),Int.emod_lt_of_pos _ hb⟩
end
end Go.Proofs.YtkidpbhlgnalaaaGreat
