/-
 The statement juryRules_said, part 4 of 9: Short, Grow, Global, RunA, Tab, Run, Comp, Ret, LoopK, MapK, Watch, Passes, Keys, MapR, RangeG, Nest, WMaps, WBounds, PassG, Drop, Spot, First, Line, Wrap, Goes, OpenW, Wheres, LineR, Race, RaceS, Vals, RaceO, RaceV, Jury, JHits, JMore.
 Conditions: none.
-/
import Derived.Test.YtkaenmjhfajbkaaGreatDoorTv1
import Derived.Test.YtkaenmjhfajbkaaGreatDoorTv2
import Derived.Test.YtkaenmjhfajbkaaGreatDoorTv3
import Derived.Test.YtkaenmjhfajbkaaGreatDoorProg
import Derived.KernelRfl
import Derived.WideKeyRuns
namespace Go.Proofs.YtkaenmjhfajbkaaGreatDoor
set_option maxRecDepth 100000
set_option maxHeartbeats 4000000
set_option linter.unusedVariables false
section
open Go.RowKit
/-- an operation that hands v to its slot d -/
structure SE (E:fH) (ops:Array Oper) (o:Oper) (D:iw) (L:dG) (C:List ay) (v:Value) (d:Nat):Prop where
 h:SD E ops o D L C v
 o:o.dst=some d
 n:Nat.blt d E.n=true
theorem rS {E:fH} {ops:Array Oper} {Q:dv} {o:Oper} {rest:List Oper} {D:iw} {L:dG} {C:List ay} {v:Value} {d:Nat}
 (h:SE E ops o D L C v d) (k:RJ E ops Q rest D ((d,v)::L) C):RJ E ops Q (o::rest) D L C:=Rz h.h h.o h.n k
theorem dS {E:fH} {ops:Array Oper} {F:dG→Prop} {o:Oper} {rest:List Oper} {D:iw} {L:dG} {C:List ay} {v:Value} {d:Nat}
 (h:SE E ops o D L C v d) (k:DJ E ops D C F rest ((d,v)::L)):DJ E ops D C F (o::rest) L:=Tm h.h h.o h.n k
theorem eS {E:fH} {ops:Array Oper} {D:iw} {C' C1:List ay} {F:dG→Prop} {bs:List Bool} {o:Oper} {l rest:List Oper} {L:dG} {v:Value} {d:Nat}
 (hl:l=o::rest) (h:SE E ops o D L C' v d) (k:qT E ops D C' C1 F bs rest ((d,v)::L)):qT E ops D C' C1 F (false::bs) l L:=S3 h.h hl h.o h.n k
theorem fS {E:fH} {ops:Array Oper} {D:iw} {C' C1:List ay} {F:dG→Prop} {bs:List Bool} {o:Oper} {l rest:List Oper} {L:dG} {v:Value} {d:Nat}
 (hl:l=o::rest) (h:SE E ops o D L C1 v d) (k:qT E ops D C' C1 F bs rest ((d,v)::L)):qT E ops D C' C1 F (true::bs) l L:=Tl h.h hl h.o h.n k
def gB (n:Nat) (ops:Array Oper) (L:dG) (d:Nat) (g:Option (Nat×Bool)):Bool:=ke ops L g&&Nat.blt d n
theorem Ou {n:Nat} {ops:Array Oper} {L:dG} {d:Nat} {g:Option (Nat×Bool)} (h:gB n ops L d g=true):ke ops L g=true:=by
 unfold gB at h; rw [dk] at h; exact h.1
theorem Oh {n:Nat} {ops:Array Oper} {L:dG} {d:Nat} {g:Option (Nat×Bool)} (h:gB n ops L d g=true):Nat.blt d n=true:=by
 unfold gB at h; rw [dk] at h; exact h.2
def vF (n:Nat) (ops:Array Oper) (L:dG) (d:Nat) (g:Option (Nat×Bool)) (x:Operand):Option Value:=match gB n ops L d g with
 |true=>ev L x
 |false=>none
def bF (n:Nat) (ops:Array Oper) (L:dG) (d:Nat) (g:Option (Nat×Bool)) (x y:Operand):Option (Value×Value):=match gB n ops L d g with
 |true=>match ev L x,ev L y with
  |some u,some v=>some (u,v)
  |_,_=>none
 |false=>none
def pF (n:Nat) (ops:Array Oper) (L:dG) (d:Nat) (g:Option (Nat×Bool)) (c x y:Operand):Option Value:=match gB n ops L d g with
 |true=>match ev L c with
  |some (.bool true)=>ev L x
  |some (.bool false)=>ev L y
  |_=>none
 |false=>none
def xF (n:Nat) (ops:Array Oper) (L:dG) (d:Nat) (g:Option (Nat×Bool)) (x:Operand) (i:Nat):Option Value:=match vF n ops L d g x with
 |some (.tuple vs)=>vs.toList[i]?
 |_=>none
def uF (n:Nat) (ops:Array Oper) (L:dG) (d:Nat) (g:Option (Nat×Bool)) (xs ys:List Operand):Option (List Value×List Value):=match gB n ops L d g with
 |true=>match evs L xs,evs L ys with
  |some u,some v=>some (u,v)
  |_,_=>none
 |false=>none
def cF (n:Nat) (ops:Array Oper) (L:dG) (d:Nat) (g:Option (Nat×Bool)) (fop:Operand) (xs:List Operand):Option (FuncId×List Value):=match gB n ops L d g with
 |true=>match ev L fop,evs L xs with
  |some (.func (.func f) fi ca),some vs=>some (f,fi.toList++vs++ca.toList)
  |_,_=>none
 |false=>none
theorem jH {n:Nat} {ops:Array Oper} {L:dG} {d:Nat} {g:Option (Nat×Bool)} {x:Operand} {v:Value} (h:vF n ops L d g x=some v):ke ops L g=true∧Nat.blt d n=true∧ev L x=some v:=by
 unfold vF at h
 split at h
 ·rename_i hb; exact ⟨Ou hb,Oh hb,h⟩
 ·cases h
theorem tO {n:Nat} {ops:Array Oper} {L:dG} {d:Nat} {g:Option (Nat×Bool)} {x y:Operand} {u v:Value} (h:bF n ops L d g x y=some (u,v)):ke ops L g=true∧Nat.blt d n=true∧ev L x=some u∧ev L y=some v:=by
 unfold bF at h
 split at h
 ·rename_i hb
  split at h
  ·rename_i hx hy; cases h; exact ⟨Ou hb,Oh hb,hx,hy⟩
  ·cases h
 ·cases h
theorem Qn {n:Nat} {ops:Array Oper} {L:dG} {d:Nat} {g:Option (Nat×Bool)} {x y:List Operand} {u v:List Value} (h:uF n ops L d g x y=some (u,v)):ke ops L g=true∧Nat.blt d n=true∧evs L x=some u∧evs L y=some v:=by
 unfold uF at h
 split at h
 ·rename_i hb
  split at h
  ·rename_i hx hy; cases h; exact ⟨Ou hb,Oh hb,hx,hy⟩
  ·cases h
 ·cases h
section
variable {E:fH} {ops:Array Oper} {Q:dv} {rest:List Oper} {D:List Deferred} {L:List (Nat×Value)} {C:List ay}
variable {d:Nat} {ty:TypeId} {ps:String} {af:Array Edge} {g:Option (Nat×Bool)}
theorem SX {o:Oper} {v:Value} (h:SD E ops o D L C v) (ho:o.dst=some d) (hd:Nat.blt d E.n=true):SE E ops o D L C v d:=⟨h,ho,hd⟩
theorem MV {x:Operand} {v:Value} (h:vF E.n ops L d g x=some v):SE E ops ⟨some d,.move x,ty,ps,af,g⟩ D L C v d:=by
 obtain ⟨A,B,F⟩:=jH h; exact ⟨ES A F,rfl,B⟩
theorem AG {x:Operand} {v:Value} (h:vF E.n ops L d g x=some v):SE E ops ⟨some d,.assign x,ty,ps,af,g⟩ D L C v d:=by
 obtain ⟨A,B,F⟩:=jH h; exact ⟨za A F,rfl,B⟩
theorem OX {op:Op} (h:(Dl ops L g&&Nat.blt d E.n)=true):SE E ops ⟨some d,op,ty,ps,af,g⟩ D L C undef d:=by
 rw [dk] at h; exact ⟨IB h.1,rfl,h.2⟩
theorem NT {xt:TypeId} {x:Operand} {b:Bool} (h:vF E.n ops L d g x=some (.bool b)):SE E ops ⟨some d,.unOp .not xt x,ty,ps,af,g⟩ D L C (.bool !b) d:=by
 obtain ⟨A,B,F⟩:=jH h; exact ⟨IL A F,rfl,B⟩
theorem NG {xt:TypeId} {x:Operand} {n:Int} (h:vF E.n ops L d g x=some (.int .i64 n)) (hb:q6 (-n)):SE E ops ⟨some d,.unOp .neg xt x,ty,ps,af,g⟩ D L C (.int .i64 (-n)) d:=by
 obtain ⟨A,B,F⟩:=jH h; exact ⟨P3 A F hb,rfl,B⟩
theorem PK {c x y:Operand} {v:Value} (h:pF E.n ops L d g c x y=some v):SE E ops ⟨some d,.pick c x y,ty,ps,af,g⟩ D L C v d:=by
 unfold pF at h
 split at h
 ·rename_i hb
  split at h
  ·rename_i hc; exact ⟨zA (Ou hb) hc h,rfl,Oh hb⟩
  ·rename_i hc; exact ⟨z4 (Ou hb) hc h,rfl,Oh hb⟩
  ·cases h
 ·cases h
theorem EX {x:Operand} {i:Nat} {v:Value} (h:xF E.n ops L d g x i=some v):SE E ops ⟨some d,.extract x i,ty,ps,af,g⟩ D L C v d:=by
 unfold xF at h
 split at h
 ·rename_i vs hv
  obtain ⟨A,B,F⟩:=jH hv
  exact ⟨xb (vs:=vs.toList) A (by simpa using F) h,U,B⟩
 ·cases h
theorem LN {x:Operand} {t e:TypeId} {A:OA} {n c:Nat} (h:vF E.n ops L d g x=some (.slice A n c)) (ht:E.P.underlying t=some (.slice e)):
 SE E ops ⟨some d,.call {callee:= .builtin .len,args:= #[x],argTypes:= #[t]},ty,ps,af,g⟩ D L C (.int .i64 n) d:=by
 obtain ⟨B,F,G⟩:=jH h; exact ⟨JA B G ht,rfl,F⟩
theorem BI {op:BinOp} {xt yt:TypeId} {x y:Operand} {u v r:Value} (h:bF E.n ops L d g x y=some (u,v)) (hb:gQ E.P op xt x y u v r):SE E ops ⟨some d,.binOp op xt x y yt,ty,ps,af,g⟩ D L C r d:=by
 obtain ⟨A,B,F,G⟩:=tO h; exact ⟨eQ A F G hb,rfl,B⟩
theorem MN {x y:Operand} {ts:Array TypeId} {a b:Int} {k:IntKind} (h:bF E.n ops L d g x y=some (.int k a,.int k b)):
 SE E ops ⟨some d,.call {callee:= .builtin .min,args:= #[x,y],argTypes:=ts},ty,ps,af,g⟩ D L C (.int k (min a b)) d:=by
 obtain ⟨A,B,F,G⟩:=tO h; exact ⟨Qb A F G,rfl,B⟩
theorem MX {x y:Operand} {ts:Array TypeId} {a b:Int} {k:IntKind} (h:bF E.n ops L d g x y=some (.int k a,.int k b)):
 SE E ops ⟨some d,.call {callee:= .builtin .max,args:= #[x,y],argTypes:=ts},ty,ps,af,g⟩ D L C (.int k (max a b)) d:=by
 obtain ⟨A,B,F,G⟩:=tO h; exact ⟨Qa A F G,rfl,B⟩
theorem FA (o':Nat) {x:Operand} {b o s f k:Nat} (h:vF E.n ops L d g x=some (.pointer (some ⟨b,o,none⟩))) (hf:sQ E.P s f=some k) (ho:o+k=o'):
 SE E ops ⟨some d,.fieldAddr s x f,ty,ps,af,g⟩ D L C (.pointer (some ⟨b,o',none⟩)) d:=by
 obtain ⟨A,B,F⟩:=jH h; exact ⟨N3 A F hf ho,rfl,B⟩
theorem nX (k':Nat) {x:Operand} {A:OA} {n sz:Nat} {es:List (List Value)} {k0 s f k:Nat} (h:vF E.n ops L d g x=some (.pointer (my A k0))) (hR:g9 C (rd A n sz es).holds) (hn:0<n*sz)
 (hf:sQ E.P s f=some k) (ho:k0+k=k'):SE E ops ⟨some d,.fieldAddr s x f,ty,ps,af,g⟩ D L C (.pointer (my A k')) d:=by
 obtain ⟨B,F,G⟩:=jH h; exact ⟨Ig B G hR hn hf ho,rfl,F⟩
theorem Vp (k':Nat) {x:Operand} {A:OA} {ad:Addr} {k0 s f k:Nat} (h:vF E.n ops L d g x=some (.pointer (my A k0))) (hA:A=some ad)
 (hf:sQ E.P s f=some k) (ho:k0+k=k'):SE E ops ⟨some d,.fieldAddr s x f,ty,ps,af,g⟩ D L C (.pointer (my A k')) d:=by
 obtain ⟨B,F,G⟩:=jH h; exact ⟨Kx B G hA hf ho,rfl,F⟩
theorem IA (k:Nat) {x ix:Operand} {A:OA} {n c sz e t:Nat} {es:List (List Value)} {j:Int} (h:bF E.n ops L d g x ix=some (.slice A n c,.int .i64 j)) (hR:g9 C (rd A n sz es).holds)
 (ht:tE E.P t=some (e,sz)) (hz:0<sz) (hj:j=(k:Int)) (hk:k<n):SE E ops ⟨some d,.indexAddr t x ix,ty,ps,af,g⟩ D L C (.pointer (my A (k*sz))) d:=by
 obtain ⟨B,F,G,H⟩:=tO h; exact ⟨Sn B G H hR ht hz hj hk,rfl,F⟩
theorem Vz (k o':Nat) {x ix:Operand} {b o n c sz e t:Nat} {j:Int} (h:bF E.n ops L d g x ix=some (.slice (some ⟨b,o,none⟩) n c,.int .i64 j))
 (ht:tE E.P t=some (e,sz)) (hj:j=(k:Int)) (hk:k<n) (ho:o+k*sz=o'):SE E ops ⟨some d,.indexAddr t x ix,ty,ps,af,g⟩ D L C (.pointer (some ⟨b,o',none⟩)) d:=by
 obtain ⟨A,B,F,G⟩:=tO h; exact ⟨M_ A F G ht hj hk ho,rfl,B⟩
/-- the whole of a block, a part of it, one cell -/
theorem LW (i:Nat) {x:Operand} {b t tt n:Nat} {cs:List Value} (h:vF E.n ops L d g x=some (.pointer (some ⟨b,0,none⟩))) (ht:tK E.P t=some (true,n)) (hC:C[i]? =some (cy b tt cs)) (hn:cs.length=n):
 SE E ops ⟨some d,.load t x,ty,ps,af,g⟩ D L C (.agg cs.toArray) d:=by
 obtain ⟨A,B,F⟩:=jH h; exact ⟨yk A F ht (qh i hC sm) hn,rfl,B⟩
theorem LP (vs:List Value) (i:Nat) {x:Operand} {b o t tt n:Nat} {cs:List Value} (h:vF E.n ops L d g x=some (.pointer (some ⟨b,o,none⟩))) (ht:tK E.P t=some (true,n)) (hC:C[i]? =some (cy b tt cs)) (hv:(cs.drop o).take vs.length=vs) (hn:vs.length=n):
 SE E ops ⟨some d,.load t x,ty,ps,af,g⟩ D L C (.agg vs.toArray) d:=by
 obtain ⟨A,B,F⟩:=jH h; exact ⟨yk A F ht (qh i hC hv) hn,rfl,B⟩
theorem VJ (vs:List Value) (i:Nat) {x:Operand} {b o t tt n:Nat} {cs:List Value} (h:vF E.n ops L d g x=some (.pointer (some ⟨b,o,none⟩))) (ht:tK E.P t=some (true,n)) (hC:C[i]? =some (cy b tt cs).ro) (hv:(cs.drop o).take vs.length=vs) (hn:vs.length=n):
 SE E ops ⟨some d,.load t x,ty,ps,af,g⟩ D L C (.agg vs.toArray) d:=by
 obtain ⟨A,B,F⟩:=jH h; exact ⟨yk A F ht (wY i hC hv) hn,rfl,B⟩
theorem L1 (v:Value) (i:Nat) {x:Operand} {b o t tt n:Nat} {cs:List Value} (h:vF E.n ops L d g x=some (.pointer (some ⟨b,o,none⟩))) (ht:tK E.P t=some (false,n)) (hC:C[i]? =some (cy b tt cs)) (hv:(cs.drop o).take 1=[v]):
 SE E ops ⟨some d,.load t x,ty,ps,af,g⟩ D L C v d:=by
 obtain ⟨A,B,F⟩:=jH h; exact ⟨vU A F ht (qh i hC hv),rfl,B⟩
theorem Kr (v:Value) (i:Nat) {x:Operand} {b o t tt n:Nat} {cs:List Value} (h:vF E.n ops L d g x=some (.pointer (some ⟨b,o,none⟩))) (ht:tK E.P t=some (false,n)) (hC:C[i]? =some (cy b tt cs).ro) (hv:(cs.drop o).take 1=[v]):
 SE E ops ⟨some d,.load t x,ty,ps,af,g⟩ D L C v d:=by
 obtain ⟨A,B,F⟩:=jH h; exact ⟨vU A F ht (wY i hC hv),rfl,B⟩
theorem DO (i:Nat) {x:Operand} {b t tt n:Nat} {v:Value} (h:vF E.n ops L d g x=some (.pointer (some ⟨b,0,none⟩))) (ht:tK E.P t=some (false,n)) (hC:C[i]? =some (cy b tt [v])):
 SE E ops ⟨some d,.load t x,ty,ps,af,g⟩ D L C v d:=by
 obtain ⟨A,B,F⟩:=jH h; exact ⟨vU A F ht (qh i hC rfl),rfl,B⟩
theorem Vq (i:Nat) {x:Operand} {b t tt n:Nat} {v:Value} (h:vF E.n ops L d g x=some (.pointer (some ⟨b,0,none⟩))) (ht:tK E.P t=some (false,n)) (hC:C[i]? =some (cy b tt [v]).ro):
 SE E ops ⟨some d,.load t x,ty,ps,af,g⟩ D L C v d:=by
 obtain ⟨A,B,F⟩:=jH h; exact ⟨vU A F ht (wY i hC rfl),rfl,B⟩
/-- what is read of a row -/
theorem gD (k o:Nat) (v:Value) {x:Operand} {A:OA} {t m n sz:Nat} {es:List (List Value)} {e:List Value} (h:vF E.n ops L d g x=some (.pointer (my A m))) {nn:Nat} (ht:tK E.P t=some (false,nn)) (hR:g9 C (rd A n sz es).holds) (he:es[k]? =some e) (hm:m=k*sz+o) (hz:0<sz) (hv:(e.drop o).take 1=[v]):
 SE E ops ⟨some d,.load t x,ty,ps,af,g⟩ D L C v d:=by
 obtain ⟨B,F,G⟩:=jH h; exact ⟨vU B G ht (OQ hR he hm hz hv),rfl,F⟩
theorem jK (k o:Nat) (vs:List Value) {x:Operand} {A:OA} {t m n sz:Nat} {es:List (List Value)} {e:List Value} (h:vF E.n ops L d g x=some (.pointer (my A m))) {nn:Nat} (ht:tK E.P t=some (true,nn)) (hR:g9 C (rd A n sz es).holds) (he:es[k]? =some e) (hm:m=k*sz+o) (hz:0<sz) (hv:(e.drop o).take vs.length=vs) (hn:vs.length=nn):
 SE E ops ⟨some d,.load t x,ty,ps,af,g⟩ D L C (.agg vs.toArray) d:=by
 obtain ⟨B,F,G⟩:=jH h; exact ⟨yk B G ht (OQ hR he hm hz hv) hn,rfl,F⟩
theorem CL {fop:Operand} {xs:Array Operand} {ts:Array TypeId} {f:FuncId} {args:List Value} {Cp:List ay} {v:Value} (c:dF E.P f args Cp v) (hC:kP C Cp) (h:cF E.n ops L d g fop xs.toList=some (f,args)):
 SE E ops ⟨some d,.call {callee:= .value fop,args:=xs,argTypes:=ts},ty,ps,af,g⟩ D L C v d:=by
 unfold cF at h
 split at h
 ·rename_i hb
  split at h
  ·rename_i hf hx; cases h; exact ⟨F3 (Ou hb) hf hx rfl c hC,rfl,Oh hb⟩
  ·cases h
 ·cases h
theorem FU {fn:Fn} {xs ys:Array Operand} {us vs:List Value} (h:uF E.n ops L d g xs.toList ys.toList=some (us,vs)):SE E ops ⟨some d,.makeFunc fn xs ys,ty,ps,af,g⟩ D L C (.func fn us.toArray vs.toArray) d:=by
 obtain ⟨A,B,F,G⟩:=Qn h; exact ⟨M4 A F G,rfl,B⟩
theorem cX {fop:Operand} {xs:Array Operand} {ts:Array TypeId} {f:FuncId} {args:List Value} {Cp:List ay} {α:Type} {V:α→Value} {p:α→Prop} {N:α→List ay} (c:lO E.P f args Cp V p N) (hC:kP C Cp)
 (h:cF E.n ops L d g fop xs.toList=some (f,args)) (k: ∀ x,p x→RJ E ops Q rest D ((d,V x)::L) (N x++C)):
 RJ E ops Q (⟨some d,.call {callee:= .value fop,args:=xs,argTypes:=ts},ty,ps,af,g⟩::rest) D L C:=by
 unfold cF at h
 split at h
 ·rename_i hb
  split at h
  ·rename_i hf hx; cases h; exact Pf (Ou hb) hf hx rfl c hC (Oh hb) k
  ·cases h
 ·cases h
/-- a box of a struct, of one cell -/
theorem dV {t:TypeId} {x:Operand} {cs:List Value} (h:vF E.n ops L d g x=some (.agg cs.toArray)) (k: ∀ b,RJ E ops Q rest D ((d,.pointer (some ⟨b,0,none⟩))::L) (cy b t cs::C)):
 RJ E ops Q (⟨some d,.box t x,ty,ps,af,g⟩::rest) D L C:=by
 obtain ⟨A,B,F⟩:=jH h; exact N6 A F rfl B k
theorem wP {t:TypeId} {x:Operand} {v:Value} (h:vF E.n ops L d g x=some v) (hv:v.cells.toList=[v]) (k: ∀ b,RJ E ops Q rest D ((d,.pointer (some ⟨b,0,none⟩))::L) (cy b t [v]::C)):
 RJ E ops Q (⟨some d,.box t x,ty,ps,af,g⟩::rest) D L C:=by
 obtain ⟨A,B,F⟩:=jH h; exact N6 A F hv B k
theorem AL {t:TypeId} {cs:List Value} (h:gB E.n ops L d g=true) (hz:tZ E.P t=some cs) (k: ∀ b,RJ E ops Q rest D ((d,.pointer (some ⟨b,0,none⟩))::L) (cy b t cs::C)):
 RJ E ops Q (⟨some d,.alloc t,ty,ps,af,g⟩::rest) D L C:=M5 (Ou h) hz (Oh h) k
/-- a store into the block at the place i of the state -/
def sF (ops:Array Oper) (L:dG) (g:Option (Nat×Bool)) (x y:Operand):Option (Value×Value):=match ke ops L g with
 |true=>match ev L x,ev L y with
  |some u,some v=>some (u,v)
  |_,_=>none
 |false=>none
theorem Ev {ops:Array Oper} {L:dG} {g:Option (Nat×Bool)} {x y:Operand} {u v:Value} (h:sF ops L g x y=some (u,v)):ke ops L g=true∧ev L x=some u∧ev L y=some v:=by
 unfold sF at h
 split at h
 ·rename_i hb
  split at h
  ·rename_i hx hy; cases h; exact ⟨hb,hx,hy⟩
  ·cases h
 ·cases h
theorem HX {t n b o tt:Nat} {x y:Operand} {v:Value} {cs cs':List Value} {C':List ay} (i:Nat) (h:sF ops L g x y=some (.pointer (some ⟨b,o,none⟩),v)) (ht:(tK E.P t).map (·.2)=some n) (hC:C[i]? =some (cy b tt cs))
 (hk:(v.cells.toList.length==n&&v.cells.toList.all Value.oneCell'&&Nat.ble (o+n) cs.length)=true) (hcs:cs.take o++v.cells.toList++cs.drop (o+n)=cs') (hC':C.set i (cy b tt cs')=C') (k:RJ E ops Q rest D L C'):
 RJ E ops Q (⟨none,.store t x y,ty,ps,af,g⟩::rest) D L C:=by
 obtain ⟨A,B,F⟩:=Ev h
 simp only [dk,beq_iff_eq] at hk
 exact hU i A B F ht U hk.1.1 hk.1.2 hC hk.2 hcs hC' k
/-- a store of a whole block, by a struct, by one cell -/
theorem L9 {t n b tt:Nat} {x y:Operand} {cs cs':List Value} {C':List ay} (i:Nat) (h:sF ops L g x y=some (.pointer (some ⟨b,0,none⟩),.agg cs'.toArray)) (ht:(tK E.P t).map (·.2)=some n) (hC:C[i]? =some (cy b tt cs))
 (hk:(Nat.beq cs'.length n&&cs'.all Value.oneCell'&&Nat.beq n cs.length)=true) (hC':C.set i (cy b tt cs')=C') (k:RJ E ops Q rest D L C'):
 RJ E ops Q (⟨none,.store t x y,ty,ps,af,g⟩::rest) D L C:=by
 obtain ⟨AA,J,K⟩:=Ev h
 simp only [dk] at hk
 obtain ⟨⟨A,B⟩,F⟩:=hk
 have H:=Nat.eq_of_beq_eq_true A
 have G:=Nat.eq_of_beq_eq_true F
 exact hU i AA J K ht U H B hC (by rw [Nat.zero_add,G]; exact Nat.ble_self_eq_true _) (by rw [Nat.zero_add,G,List.take_zero,List.drop_length]; show []++cs'++[]=cs'; simp) hC' k
theorem TP {t n b tt:Nat} {x y:Operand} {v u:Value} {C':List ay} (i:Nat) (h:sF ops L g x y=some (.pointer (some ⟨b,0,none⟩),v)) (ht:(tK E.P t).map (·.2)=some n) (hC:C[i]? =some (cy b tt [u]))
 (hv:v.cells.toList=[v]) (hk:(Nat.beq n 1&&v.oneCell')=true) (hC':C.set i (cy b tt [v])=C') (k:RJ E ops Q rest D L C'):
 RJ E ops Q (⟨none,.store t x y,ty,ps,af,g⟩::rest) D L C:=by
 obtain ⟨G,H,AA⟩:=Ev h
 rw [dk] at hk
 obtain ⟨A,B⟩:=hk
 have F:=Nat.eq_of_beq_eq_true A
 subst F
 exact hU i G H AA ht hv U (by simp [B]) hC U U hC' k
theorem e7 {t n b tt:Nat} {x y:Operand} {cs cs':List Value} (h:sF ops L g x y=some (.pointer (some ⟨b,0,none⟩),.agg cs'.toArray)) (ht:(tK E.P t).map (·.2)=some n) (hk:(Nat.beq cs'.length n&&cs'.all Value.oneCell'&&Nat.beq n cs.length)=true) (k:RJ E ops Q rest D L (cy b tt cs'::C)):RJ E ops Q (⟨none,.store t x y,ty,ps,af,g⟩::rest) D L (cy b tt cs::C):=L9 0 h ht rfl hk rfl k
theorem NU {t n b tt:Nat} {x y:Operand} {v u:Value} (h:sF ops L g x y=some (.pointer (some ⟨b,0,none⟩),v)) (ht:(tK E.P t).map (·.2)=some n) (hv:v.cells.toList=[v]) (hk:(Nat.beq n 1&&v.oneCell')=true) (k:RJ E ops Q rest D L (cy b tt [v]::C)):RJ E ops Q (⟨none,.store t x y,ty,ps,af,g⟩::rest) D L (cy b tt [u]::C):=TP 0 h ht rfl hv hk rfl k
theorem Vx (cs':List Value) {t n b o tt:Nat} {x y:Operand} {v:Value} {cs:List Value} (h:sF ops L g x y=some (.pointer (some ⟨b,o,none⟩),v)) (ht:(tK E.P t).map (·.2)=some n) (hk:(v.cells.toList.length==n&&v.cells.toList.all Value.oneCell'&&Nat.ble (o+n) cs.length)=true) (hcs:cs.take o++v.cells.toList++cs.drop (o+n)=cs') (k:RJ E ops Q rest D L (cy b tt cs'::C)):RJ E ops Q (⟨none,.store t x y,ty,ps,af,g⟩::rest) D L (cy b tt cs::C):=HX 0 h ht rfl hk hcs rfl k
theorem pV {t n b tt:Nat} {x y:Operand} {cs cs':List Value} {A0:ay} (h:sF ops L g x y=some (.pointer (some ⟨b,0,none⟩),.agg cs'.toArray)) (ht:(tK E.P t).map (·.2)=some n) (hk:(Nat.beq cs'.length n&&cs'.all Value.oneCell'&&Nat.beq n cs.length)=true) (k:RJ E ops Q rest D L (A0::cy b tt cs'::C)):RJ E ops Q (⟨none,.store t x y,ty,ps,af,g⟩::rest) D L (A0::cy b tt cs::C):=L9 1 h ht rfl hk rfl k
theorem VL (cs':List Value) {t n b o tt:Nat} {x y:Operand} {v:Value} {cs:List Value} {A0:ay} (h:sF ops L g x y=some (.pointer (some ⟨b,o,none⟩),v)) (ht:(tK E.P t).map (·.2)=some n) (hk:(v.cells.toList.length==n&&v.cells.toList.all Value.oneCell'&&Nat.ble (o+n) cs.length)=true) (hcs:cs.take o++v.cells.toList++cs.drop (o+n)=cs') (k:RJ E ops Q rest D L (A0::cy b tt cs'::C)):RJ E ops Q (⟨none,.store t x y,ty,ps,af,g⟩::rest) D L (A0::cy b tt cs::C):=HX 1 h ht rfl hk hcs rfl k
theorem BA {t n b tt:Nat} {x y:Operand} {cs cs':List Value} {A0 A1:ay} (h:sF ops L g x y=some (.pointer (some ⟨b,0,none⟩),.agg cs'.toArray)) (ht:(tK E.P t).map (·.2)=some n) (hk:(Nat.beq cs'.length n&&cs'.all Value.oneCell'&&Nat.beq n cs.length)=true) (k:RJ E ops Q rest D L (A0::A1::cy b tt cs'::C)):RJ E ops Q (⟨none,.store t x y,ty,ps,af,g⟩::rest) D L (A0::A1::cy b tt cs::C):=L9 2 h ht rfl hk rfl k
theorem U8 (cs':List Value) {t n b o tt:Nat} {x y:Operand} {v:Value} {cs:List Value} {A0 A1:ay} (h:sF ops L g x y=some (.pointer (some ⟨b,o,none⟩),v)) (ht:(tK E.P t).map (·.2)=some n) (hk:(v.cells.toList.length==n&&v.cells.toList.all Value.oneCell'&&Nat.ble (o+n) cs.length)=true) (hcs:cs.take o++v.cells.toList++cs.drop (o+n)=cs') (k:RJ E ops Q rest D L (A0::A1::cy b tt cs'::C)):RJ E ops Q (⟨none,.store t x y,ty,ps,af,g⟩::rest) D L (A0::A1::cy b tt cs::C):=HX 2 h ht rfl hk hcs rfl k
theorem PE {t n b tt:Nat} {x y:Operand} {cs cs':List Value} {A0 A1 A2:ay} (h:sF ops L g x y=some (.pointer (some ⟨b,0,none⟩),.agg cs'.toArray)) (ht:(tK E.P t).map (·.2)=some n) (hk:(Nat.beq cs'.length n&&cs'.all Value.oneCell'&&Nat.beq n cs.length)=true) (k:RJ E ops Q rest D L (A0::A1::A2::cy b tt cs'::C)):RJ E ops Q (⟨none,.store t x y,ty,ps,af,g⟩::rest) D L (A0::A1::A2::cy b tt cs::C):=L9 3 h ht rfl hk rfl k
theorem Vy {t n b tt:Nat} {x y:Operand} {v u:Value} {A0 A1 A2:ay} (h:sF ops L g x y=some (.pointer (some ⟨b,0,none⟩),v)) (ht:(tK E.P t).map (·.2)=some n) (hv:v.cells.toList=[v]) (hk:(Nat.beq n 1&&v.oneCell')=true) (k:RJ E ops Q rest D L (A0::A1::A2::cy b tt [v]::C)):RJ E ops Q (⟨none,.store t x y,ty,ps,af,g⟩::rest) D L (A0::A1::A2::cy b tt [u]::C):=TP 3 h ht rfl hv hk rfl k
theorem Pm (cs':List Value) {t n b o tt:Nat} {x y:Operand} {v:Value} {cs:List Value} {A0 A1 A2:ay} (h:sF ops L g x y=some (.pointer (some ⟨b,o,none⟩),v)) (ht:(tK E.P t).map (·.2)=some n) (hk:(v.cells.toList.length==n&&v.cells.toList.all Value.oneCell'&&Nat.ble (o+n) cs.length)=true) (hcs:cs.take o++v.cells.toList++cs.drop (o+n)=cs') (k:RJ E ops Q rest D L (A0::A1::A2::cy b tt cs'::C)):RJ E ops Q (⟨none,.store t x y,ty,ps,af,g⟩::rest) D L (A0::A1::A2::cy b tt cs::C):=HX 3 h ht rfl hk hcs rfl k
theorem QL {t n b tt:Nat} {x y:Operand} {cs cs':List Value} {A0 A1 A2 A3:ay} (h:sF ops L g x y=some (.pointer (some ⟨b,0,none⟩),.agg cs'.toArray)) (ht:(tK E.P t).map (·.2)=some n) (hk:(Nat.beq cs'.length n&&cs'.all Value.oneCell'&&Nat.beq n cs.length)=true) (k:RJ E ops Q rest D L (A0::A1::A2::A3::cy b tt cs'::C)):RJ E ops Q (⟨none,.store t x y,ty,ps,af,g⟩::rest) D L (A0::A1::A2::A3::cy b tt cs::C):=L9 4 h ht rfl hk rfl k
theorem VC {t n b tt:Nat} {x y:Operand} {v u:Value} {A0 A1 A2 A3:ay} (h:sF ops L g x y=some (.pointer (some ⟨b,0,none⟩),v)) (ht:(tK E.P t).map (·.2)=some n) (hv:v.cells.toList=[v]) (hk:(Nat.beq n 1&&v.oneCell')=true) (k:RJ E ops Q rest D L (A0::A1::A2::A3::cy b tt [v]::C)):RJ E ops Q (⟨none,.store t x y,ty,ps,af,g⟩::rest) D L (A0::A1::A2::A3::cy b tt [u]::C):=TP 4 h ht rfl hv hk rfl k
theorem Uk (cs':List Value) {t n b o tt:Nat} {x y:Operand} {v:Value} {cs:List Value} {A0 A1 A2 A3:ay} (h:sF ops L g x y=some (.pointer (some ⟨b,o,none⟩),v)) (ht:(tK E.P t).map (·.2)=some n) (hk:(v.cells.toList.length==n&&v.cells.toList.all Value.oneCell'&&Nat.ble (o+n) cs.length)=true) (hcs:cs.take o++v.cells.toList++cs.drop (o+n)=cs') (k:RJ E ops Q rest D L (A0::A1::A2::A3::cy b tt cs'::C)):RJ E ops Q (⟨none,.store t x y,ty,ps,af,g⟩::rest) D L (A0::A1::A2::A3::cy b tt cs::C):=HX 4 h ht rfl hk hcs rfl k
theorem HY {t n b tt:Nat} {x y:Operand} {cs cs':List Value} {A0 A1 A2 A3 A4:ay} (h:sF ops L g x y=some (.pointer (some ⟨b,0,none⟩),.agg cs'.toArray)) (ht:(tK E.P t).map (·.2)=some n) (hk:(Nat.beq cs'.length n&&cs'.all Value.oneCell'&&Nat.beq n cs.length)=true) (k:RJ E ops Q rest D L (A0::A1::A2::A3::A4::cy b tt cs'::C)):RJ E ops Q (⟨none,.store t x y,ty,ps,af,g⟩::rest) D L (A0::A1::A2::A3::A4::cy b tt cs::C):=L9 5 h ht rfl hk rfl k
theorem VF (cs':List Value) {t n b o tt:Nat} {x y:Operand} {v:Value} {cs:List Value} {A0 A1 A2 A3 A4:ay} (h:sF ops L g x y=some (.pointer (some ⟨b,o,none⟩),v)) (ht:(tK E.P t).map (·.2)=some n) (hk:(v.cells.toList.length==n&&v.cells.toList.all Value.oneCell'&&Nat.ble (o+n) cs.length)=true) (hcs:cs.take o++v.cells.toList++cs.drop (o+n)=cs') (k:RJ E ops Q rest D L (A0::A1::A2::A3::A4::cy b tt cs'::C)):RJ E ops Q (⟨none,.store t x y,ty,ps,af,g⟩::rest) D L (A0::A1::A2::A3::A4::cy b tt cs::C):=HX 5 h ht rfl hk hcs rfl k
theorem RB {t n b tt:Nat} {x y:Operand} {cs cs':List Value} {A0 A1 A2 A3 A4 A5:ay} (h:sF ops L g x y=some (.pointer (some ⟨b,0,none⟩),.agg cs'.toArray)) (ht:(tK E.P t).map (·.2)=some n) (hk:(Nat.beq cs'.length n&&cs'.all Value.oneCell'&&Nat.beq n cs.length)=true) (k:RJ E ops Q rest D L (A0::A1::A2::A3::A4::A5::cy b tt cs'::C)):RJ E ops Q (⟨none,.store t x y,ty,ps,af,g⟩::rest) D L (A0::A1::A2::A3::A4::A5::cy b tt cs::C):=L9 6 h ht rfl hk rfl k
theorem VH {t n b tt:Nat} {x y:Operand} {v u:Value} {A0 A1 A2 A3 A4 A5:ay} (h:sF ops L g x y=some (.pointer (some ⟨b,0,none⟩),v)) (ht:(tK E.P t).map (·.2)=some n) (hv:v.cells.toList=[v]) (hk:(Nat.beq n 1&&v.oneCell')=true) (k:RJ E ops Q rest D L (A0::A1::A2::A3::A4::A5::cy b tt [v]::C)):RJ E ops Q (⟨none,.store t x y,ty,ps,af,g⟩::rest) D L (A0::A1::A2::A3::A4::A5::cy b tt [u]::C):=TP 6 h ht rfl hv hk rfl k
theorem TL (cs':List Value) {t n b o tt:Nat} {x y:Operand} {v:Value} {cs:List Value} {A0 A1 A2 A3 A4 A5:ay} (h:sF ops L g x y=some (.pointer (some ⟨b,o,none⟩),v)) (ht:(tK E.P t).map (·.2)=some n) (hk:(v.cells.toList.length==n&&v.cells.toList.all Value.oneCell'&&Nat.ble (o+n) cs.length)=true) (hcs:cs.take o++v.cells.toList++cs.drop (o+n)=cs') (k:RJ E ops Q rest D L (A0::A1::A2::A3::A4::A5::cy b tt cs'::C)):RJ E ops Q (⟨none,.store t x y,ty,ps,af,g⟩::rest) D L (A0::A1::A2::A3::A4::A5::cy b tt cs::C):=HX 6 h ht rfl hk hcs rfl k
theorem VN (cs':List Value) {t n b o tt:Nat} {x y:Operand} {v:Value} {cs:List Value} {A0 A1 A2 A3 A4 A5 A6:ay} (h:sF ops L g x y=some (.pointer (some ⟨b,o,none⟩),v)) (ht:(tK E.P t).map (·.2)=some n) (hk:(v.cells.toList.length==n&&v.cells.toList.all Value.oneCell'&&Nat.ble (o+n) cs.length)=true) (hcs:cs.take o++v.cells.toList++cs.drop (o+n)=cs') (k:RJ E ops Q rest D L (A0::A1::A2::A3::A4::A5::A6::cy b tt cs'::C)):RJ E ops Q (⟨none,.store t x y,ty,ps,af,g⟩::rest) D L (A0::A1::A2::A3::A4::A5::A6::cy b tt cs::C):=HX 7 h ht rfl hk hcs rfl k
theorem VM (cs':List Value) {t n b o tt:Nat} {x y:Operand} {v:Value} {cs:List Value} {A0 A1 A2 A3 A4 A5 A6 A7:ay} (h:sF ops L g x y=some (.pointer (some ⟨b,o,none⟩),v)) (ht:(tK E.P t).map (·.2)=some n) (hk:(v.cells.toList.length==n&&v.cells.toList.all Value.oneCell'&&Nat.ble (o+n) cs.length)=true) (hcs:cs.take o++v.cells.toList++cs.drop (o+n)=cs') (k:RJ E ops Q rest D L (A0::A1::A2::A3::A4::A5::A6::A7::cy b tt cs'::C)):RJ E ops Q (⟨none,.store t x y,ty,ps,af,g⟩::rest) D L (A0::A1::A2::A3::A4::A5::A6::A7::cy b tt cs::C):=HX 8 h ht rfl hk hcs rfl k
theorem Vw (cs':List Value) {t n b o tt:Nat} {x y:Operand} {v:Value} {cs:List Value} {A0 A1 A2 A3 A4 A5 A6 A7 A8:ay} (h:sF ops L g x y=some (.pointer (some ⟨b,o,none⟩),v)) (ht:(tK E.P t).map (·.2)=some n) (hk:(v.cells.toList.length==n&&v.cells.toList.all Value.oneCell'&&Nat.ble (o+n) cs.length)=true) (hcs:cs.take o++v.cells.toList++cs.drop (o+n)=cs') (k:RJ E ops Q rest D L (A0::A1::A2::A3::A4::A5::A6::A7::A8::cy b tt cs'::C)):RJ E ops Q (⟨none,.store t x y,ty,ps,af,g⟩::rest) D L (A0::A1::A2::A3::A4::A5::A6::A7::A8::cy b tt cs::C):=HX 9 h ht rfl hk hcs rfl k
theorem Vf {t n b tt:Nat} {x y:Operand} {cs cs':List Value} {A0 A1 A2 A3 A4 A5 A6 A7 A8 A9:ay} (h:sF ops L g x y=some (.pointer (some ⟨b,0,none⟩),.agg cs'.toArray)) (ht:(tK E.P t).map (·.2)=some n) (hk:(Nat.beq cs'.length n&&cs'.all Value.oneCell'&&Nat.beq n cs.length)=true) (k:RJ E ops Q rest D L (A0::A1::A2::A3::A4::A5::A6::A7::A8::A9::cy b tt cs'::C)):RJ E ops Q (⟨none,.store t x y,ty,ps,af,g⟩::rest) D L (A0::A1::A2::A3::A4::A5::A6::A7::A8::A9::cy b tt cs::C):=L9 10 h ht rfl hk rfl k
theorem Rb (cs':List Value) {t n b o tt:Nat} {x y:Operand} {v:Value} {cs:List Value} {A0 A1 A2 A3 A4 A5 A6 A7 A8 A9:ay} (h:sF ops L g x y=some (.pointer (some ⟨b,o,none⟩),v)) (ht:(tK E.P t).map (·.2)=some n) (hk:(v.cells.toList.length==n&&v.cells.toList.all Value.oneCell'&&Nat.ble (o+n) cs.length)=true) (hcs:cs.take o++v.cells.toList++cs.drop (o+n)=cs') (k:RJ E ops Q rest D L (A0::A1::A2::A3::A4::A5::A6::A7::A8::A9::cy b tt cs'::C)):RJ E ops Q (⟨none,.store t x y,ty,ps,af,g⟩::rest) D L (A0::A1::A2::A3::A4::A5::A6::A7::A8::A9::cy b tt cs::C):=HX 10 h ht rfl hk hcs rfl k
theorem Th {t n b tt:Nat} {x y:Operand} {cs cs':List Value} {A0 A1 A2 A3 A4 A5 A6 A7 A8 A9 A10:ay} (h:sF ops L g x y=some (.pointer (some ⟨b,0,none⟩),.agg cs'.toArray)) (ht:(tK E.P t).map (·.2)=some n) (hk:(Nat.beq cs'.length n&&cs'.all Value.oneCell'&&Nat.beq n cs.length)=true) (k:RJ E ops Q rest D L (A0::A1::A2::A3::A4::A5::A6::A7::A8::A9::A10::cy b tt cs'::C)):RJ E ops Q (⟨none,.store t x y,ty,ps,af,g⟩::rest) D L (A0::A1::A2::A3::A4::A5::A6::A7::A8::A9::A10::cy b tt cs::C):=L9 11 h ht rfl hk rfl k
theorem Rh (cs':List Value) {t n b o tt:Nat} {x y:Operand} {v:Value} {cs:List Value} {A0 A1 A2 A3 A4 A5 A6 A7 A8 A9 A10:ay} (h:sF ops L g x y=some (.pointer (some ⟨b,o,none⟩),v)) (ht:(tK E.P t).map (·.2)=some n) (hk:(v.cells.toList.length==n&&v.cells.toList.all Value.oneCell'&&Nat.ble (o+n) cs.length)=true) (hcs:cs.take o++v.cells.toList++cs.drop (o+n)=cs') (k:RJ E ops Q rest D L (A0::A1::A2::A3::A4::A5::A6::A7::A8::A9::A10::cy b tt cs'::C)):RJ E ops Q (⟨none,.store t x y,ty,ps,af,g⟩::rest) D L (A0::A1::A2::A3::A4::A5::A6::A7::A8::A9::A10::cy b tt cs::C):=HX 11 h ht rfl hk hcs rfl k
end
section
variable {E:fH} {y:Code} {Q:dv} {D:List Deferred} {L:List (Nat×Value)} {C:List ay}
theorem WS {id:Nat} {ops:Array Oper} (h: ∀ K:Act→World→Prop,(∀ D L C,WJ E y Q D L C→KJ E K D L C)→RJ E ops (Exit.then K Q) ops.toList D L C):WJ E (.seq (.region id ops false) y) Q D L C:=ag fun K hK=>ao (h K hK)
theorem RK {ops:Array Oper} {K:Act→World→Prop} {Q':dv} (hK: ∀ D L C,WJ E y Q D L C→KJ E K D L C) (k:WJ E y Q D L C):RJ E ops (Exit.then K Q') [] D L C:=aC (a_ (hK _ _ _ k))
theorem KK {K:Act→World→Prop} {Q':dv} (hK: ∀ D L C,WJ E y Q D L C→KJ E K D L C) (k:WJ E y Q D L C):KJ E (Exit.then K Q' .normal) D L C:=a_ (hK _ _ _ k)
theorem WK {K:Act→World→Prop} {Q':dv} (hK: ∀ D L C,WJ E y Q D L C→KJ E K D L C) (k:WJ E y Q D L C):WJ E .skip (Exit.then K Q') D L C:=cg (a_ (hK _ _ _ k))
end
theorem DT {p:Prop} [Decidable p] (h:decide p=true):p:=of_decide_eq_true h
theorem DF {p:Prop} [Decidable p] (h:decide p=false): ¬ p:=of_decide_eq_false h
theorem XT {p:Prop} [Decidable p] (h:(!decide p)=true): ¬ p:=by simpa using h
theorem XF {p:Prop} [Decidable p] (h:(!decide p)=false):p:=by simpa using h
/-- what a function hands back: one result, two, three, that lie in slots -/
theorem Q1 {E:fH} {fn:Func} {K:Act→World→Prop} {L:dG} {C:List ay} {t:Nat} {u v:Value} (hQ: ∀ D L C,LJ E fn (AV E.w0 v) D L C→KJ E K D L C) (hS:E.S=tW) (hr:fn.results.toList=[.tmp t]) (hl:L.lookup t=some u) (e:u=v):KJ E K [] L C:=
 hQ _ _ _ (j9 (vs:=[u]) (by rw [hr]; exact ⟨hl,trivial⟩) fun w hs=>BK e (by rw [hS] at hs; exact hs))
theorem Q2 {E:fH} {fn:Func} {K:Act→World→Prop} {L:dG} {C:List ay} {t s:Nat} {u x v:Value} (hQ: ∀ D L C,LJ E fn (AV E.w0 v) D L C→KJ E K D L C) (hS:E.S=tW) (hr:fn.results.toList=[.tmp t,.tmp s]) (hl:L.lookup t=some u) (hm:L.lookup s=some x) (e:vT [u,x]=v):KJ E K [] L C:=
 hQ _ _ _ (j9 (vs:=[u,x]) (by rw [hr]; exact ⟨hl,hm,trivial⟩) fun w hs=>BK e (by rw [hS] at hs; exact hs))
theorem Q3 {E:fH} {fn:Func} {K:Act→World→Prop} {L:dG} {C:List ay} {t s r:Nat} {u x y v:Value} (hQ: ∀ D L C,LJ E fn (AV E.w0 v) D L C→KJ E K D L C) (hS:E.S=tW) (hr:fn.results.toList=[.tmp t,.tmp s,.tmp r]) (hl:L.lookup t=some u) (hm:L.lookup s=some x) (hn:L.lookup r=some y) (e:vT [u,x,y]=v):KJ E K [] L C:=
 hQ _ _ _ (j9 (vs:=[u,x,y]) (by rw [hr]; exact ⟨hl,hm,hn,trivial⟩) fun w hs=>BK e (by rw [hS] at hs; exact hs))
theorem N1 {E:fH} {ops:Array Oper} {D:iw} {C' C1:List ay} {F:dG→List ay→Prop} {tb rem:List Nat} {n:Nat} {L:dG} {C:List ay} (i:Nat)
 (h:B0 E ops D C' C1 F tb n (rem.filter (· != i)) i L C) (hm:rem.filter (fun i=>rem.all fun j=> !jd (qR ops) j i)=[i]:=by kernel_rfl):TN E ops D C' C1 F tb (n+1) rem L C:=mM [i] hm (iD h pM)
theorem NO {E:fH} {ops:Array Oper} {D:iw} {C' C1:List ay} {F:dG→List ay→Prop} {tb rem:List Nat} {n i:Nat} {L:dG} {C:List ay} {o:Oper} (ho:ops[i]? =some o) (ht:tb.contains i=false) (rem':List Nat)
 (h: ∀ K:Act→World→Prop,(∀ L' C'',(∀ w,St E.S E.w0 C'' w→St E.S E.w0 C' w)→TN E ops D C' C1 F tb n rem' L' C''→KJ E K D L' C'')→RJ E ops (NQ K) [o] D L C) (hr:rem=rem':=by kernel_rfl):B0 E ops D C' C1 F tb n rem i L C:=UG ho hr ht h
theorem RD {E:fH} {ops:Array Oper} {K:Act→World→Prop} {D:iw} {L:dG} {C C':List ay} {X:dG→List ay→Prop} (hT: ∀ L' C'',(∀ w,St E.S E.w0 C'' w→St E.S E.w0 C' w)→X L' C''→KJ E K D L' C'')
 (k:Nat) (h2:C.drop k=C') (h:X L C):RJ E ops (NQ K) [] D L C:=aC (hT _ _ (fun w hs=>h2▸hs.take (List.drop_sublist k C)) h)
theorem bf {L L':dG} (h:L'.map (fun p=>L.lookup p.1)=L'.map (fun p=>some p.2)):cR L L':=by
 induction L' with
 |nil=>exact cR.nil _
 |cons p t ih=>
  simp only [List.map_cons,List.cons.injEq] at h
  exact cR.cons h.1 (ih h.2)
theorem OU {C:List ay} {A A' B B' D D':ay} (i j k:Nat) (h1:C[i]? =some A') (e1:A'.holds=A.holds) (h2:C[j]? =some B') (e2:B'.holds=B.holds) (h3:C[k]? =some D') (e3:D'.holds=D.holds):kP C [A,B,D]:=eE i h1 e1 (eE j h2 e2 (eE k h3 e3 aS))
theorem bO {E:fH} {c:Operand} {x y:Code} {b:Bool} {Q:dv} {D:List Deferred} {L:List (Nat×Value)} {C:List ay} (hc:ev L c=some (.bool b)) (h2:b=false→WJ E y Q D L C) (h1:b=true→WJ E x Q D L C):WJ E (.cond c x y) Q D L C:=cb hc h1 h2
theorem cx {E:fH} {ops:Array Oper} {Q:dv} {rest:List Oper} {D:List Deferred} {L:List (Nat×Value)} {C:List ay} {t:Nat} {b:Bool} (h:L.lookup t=some (.bool b)) (h2:b=false→RJ E ops Q rest D ((t,.bool false)::L) C) (h1:b=true→RJ E ops Q rest D ((t,.bool true)::L) C):RJ E ops Q rest D L C:=bS h h1 h2
theorem jl {E:fH} {ops:Array Oper} {Q:dv} {rest:List Oper} {D:List Deferred} {L:List (Nat×Value)} {C:List ay} {t:Nat} {b:Bool} {os:List Oper} (h:L.lookup t=some (.bool b)) (h2:b=false→DJ E ops D C (fun L2=>RJ E ops Q rest D L2 C) os ((t,.bool false)::L)) (h1:b=true→DJ E ops D C (fun L2=>RJ E ops Q rest D L2 C) os ((t,.bool true)::L)):DJ E ops D C (fun L2=>RJ E ops Q rest D L2 C) os L:=ic h h1 h2
theorem cz {L:List (Nat×Value)}: ∀ (k:Nat) {L2:List (Nat×Value)} (q:cR L (L2.drop k)) (h:(L2.take k).map (fun p=>L.lookup p.1)=(L2.take k).map (fun p=>some p.2):=by rfl),cR L L2
 |0,_,q,_=>q
 |_+1,[],_,_=>cR.nil _
 |k+1,p::L2,q,h=>by
  obtain ⟨A,B⟩:=List.cons.inj (show L.lookup p.1::(L2.take k).map (fun p=>L.lookup p.1)=some p.2::(L2.take k).map (fun p=>some p.2) from h)
  exact cR.cons (t:=p.1) (v:=p.2) A (cz k q B)
theorem oX {E:fH} {ops:Array Oper} {Q:dv} {rest:List Oper} {D:List Deferred} {L:List (Nat×Value)} {C:List ay} {d:Nat} {ty:TypeId} {ps:String} {af:Array Edge} {g:Option (Nat×Bool)} {op:Op} (k:RJ E ops Q rest D ((d,undef)::L) C) (h:(Dl ops L g&&Nat.blt d E.n)=true:=by rfl):RJ E ops Q (⟨some d,op,ty,ps,af,g⟩::rest) D L C:=rS (OX h) k
theorem dX {E:fH} {ops:Array Oper} {F:List (Nat×Value)→Prop} {rest:List Oper} {D:List Deferred} {L:List (Nat×Value)} {C:List ay} {d:Nat} {ty:TypeId} {ps:String} {af:Array Edge} {g:Option (Nat×Bool)} {op:Op} (k:DJ E ops D C F rest ((d,undef)::L)) (h:(Dl ops L g&&Nat.blt d E.n)=true:=by rfl):DJ E ops D C F (⟨some d,op,ty,ps,af,g⟩::rest) L:=dS (OX h) k
end
section
open Go.RowKit
section
variable {E:fH} {ops:Array Oper} {Q:dv} {rest:List Oper} {D:List Deferred} {L:List (Nat×Value)} {C:List ay}
variable {d:Nat} {ty:TypeId} {ps:String} {af:Array Edge} {g:Option (Nat×Bool)}
theorem Nr {P:Program} {t e sz:Nat} (h:tE P t=some (e,sz)) (w:World):P.underlying t=some (.slice e)∧(sizeOf e).run P w= .ok sz w:=by
 unfold tE at h
 split at h
 ·rename_i e' hu
  split at h
  ·rename_i i hi
   cases h
   exact ⟨hu,by simp [sizeOf,typeInfo,hi]⟩
  ·cases h
 ·cases h
theorem E3 {P:Program} {t e:Nat} (h:P.underlying t=some (.slice e)):P.underlying t=some (.slice (P.elem t)):=by
 rw [h]; simp [Program.elem,h]
theorem MQ {P:Program} {t e:Nat} (h:P.underlying t=some (.slice e)):P.elem t=e:=by simp [Program.elem,h]
/-- s[:k] -/
theorem VK (k:Nat) {x hi:Operand} {t e sz n c:Nat} {A:OA} {j:Int} (h:bF E.n ops L d g x hi=some (.slice A n c,.int .i64 j)) (ht:tE E.P t=some (e,sz)) (hj:j=(k:Int)) (hk:k≤c):
 SE E ops ⟨some d,.slice t x none (some hi) none,ty,ps,af,g⟩ D L C (.slice A k c) d:=by
 obtain ⟨H,AA,J,K⟩:=tO h
 subst hj
 refine ⟨eM H sm fun a w B hs=>?_,U,AA⟩
 obtain ⟨hu,hz⟩:=Nr ht w
 have hr:=run_slice_h (P:=E.P) w t A n c (E3 hu) .i64 (k:Int) om om
 rw [MQ hu,hz] at hr
 have G:(if c=0 then A else A.map (·.add (0*sz)))=A:=by
  split
  ·rfl
  ·cases A with
   |none=>rfl
   |some ad=>simp [Addr.add]
 simp only [Result.andThen,Int.toNat_natCast,sliced,G,Nat.sub_zero] at hr
 have F:=run_sliceAt_slice (P:=E.P) w t (.slice A n c) none (some (.int .i64 (k:Int))) none (E3 hu)
 simp [execOp,B.ev J,B.ev K,F,hr]
/-- an element of a row whose place is known -/
theorem VG (k:Nat) {x ix:Operand} {A:OA} {ad:Addr} {n c sz e t:Nat} {j:Int} (h:bF E.n ops L d g x ix=some (.slice A n c,.int .i64 j)) (hA:A=some ad) (ht:tE E.P t=some (e,sz)) (hj:j=(k:Int)) (hk:k<n):
 SE E ops ⟨some d,.indexAddr t x ix,ty,ps,af,g⟩ D L C (.pointer (my A (k*sz))) d:=by
 obtain ⟨F,G,H,AA⟩:=tO h
 refine ⟨eM F sm fun a w B hs=>?_,U,G⟩
 subst hA hj
 simp [execOp,B.ev H,B.ev AA,my,rG ht hk]
end
theorem FC {w:World} {a:OA} {c e sz:Nat} {es:List (List Value)} (h:(own a c e sz es).holds w):es.length≤c:=by
 rcases h.2.2 with ⟨A,B⟩|⟨g,cap,cur,hv,_,_,C,_⟩
 ·omega
 ·injection hv with _ _ hc; omega
end
section
open Go.RowKit
/-- an array's length, its elements' type and their size -/
def aE (P:Program) (t:TypeId):Option (Nat×TypeId×Nat):=
 match P.underlying t with
 |some (.array n e)=>match P.info? e with
  |some i=>some (n,e,i.size)
  |none=>none
 |_=>none
theorem FI {P:Program} {t n e sz:Nat} (h:aE P t=some (n,e,sz)) (w:World):P.underlying t=some (.array n e)∧(sizeOf e).run P w= .ok sz w:=by
 unfold aE at h
 split at h
 ·rename_i n' e' hu
  split at h
  ·rename_i i hi
   cases h
   exact ⟨hu,by simp [sizeOf,typeInfo,hi]⟩
  ·cases h
 ·cases h
theorem wN {P:Program} {t n e sz:Nat} (h:aE P t=some (n,e,sz)) (a:Addr) (w:World):
 (Instr.sliceAt t (.pointer (some a)) none none none).run P w= .ok (.slice (some a) n n) w:=by
 obtain ⟨hu,hz⟩:=FI h w
 have A:a.add 0=a:=by simp [Addr.add]
 simp [Instr.sliceAt,underlying,hu,Instr.sureAddr,Instr.sliceBounds,hz,A]
theorem wG {P:Program} {t n e sz:Nat} (h:aE P t=some (n,e,sz)) (a:Addr) {k:Nat} (hk:k<n) (w:World):
 (Instr.indexAt t (.pointer (some a)) (.int .i64 (k:Int))).run P w= .ok (.pointer (some (a.add (k*sz)))) w:=by
 obtain ⟨hu,hz⟩:=FI h w
 have A: ¬ n≤k:=by omega
 simp [Instr.indexAt,underlying,hu,Instr.sureAddr,asIntOf,hz,A]
 try exact fun h=>absurd h A
 try omega
section
variable {E:fH} {ops:Array Oper} {Q:dv} {rest:List Oper} {D:List Deferred} {L:List (Nat×Value)} {C:List ay}
variable {dst:Option Nat} {ty:TypeId} {ps:String} {af:Array Edge} {g:Option (Nat×Bool)}
theorem Ec {x:Operand} {a:Addr} {t n e sz:Nat} (hg:ke ops L g=true) (hx:ev L x=some (.pointer (some a))) (ht:aE E.P t=some (n,e,sz)):
 SD E ops ⟨dst,.slice t x none none none,ty,ps,af,g⟩ D L C (.slice (some a) n n):=
 eM hg sm fun b w A hs=>by
  simp [execOp,A.ev hx,wN ht]
theorem D0 {x ix:Operand} {a:Addr} {t n e sz k:Nat} {j:Int} (hg:ke ops L g=true) (hx:ev L x=some (.pointer (some a))) (hi:ev L ix=some (.int .i64 j)) (ht:aE E.P t=some (n,e,sz)) (hj:j=(k:Int)) (hk:k<n):
 SD E ops ⟨dst,.indexAddr t x ix,ty,ps,af,g⟩ D L C (.pointer (my (some a) (k*sz))):=
 eM hg sm fun b w A hs=>by
  subst hj
  simp [execOp,A.ev hx,A.ev hi,my,wG ht a hk]
end
end
section
open Go.RowKit
/-- a table of facts on the program's types -/
structure Ds where
 tk:List (Nat×Bool×Nat)
 fo:List (Nat×List (Option Nat))
 sl:List Nat
def QM {α:Type}:List (Nat×α)→Nat→Option α
 |[],_=>none
 |(k,v)::l,t=>match Nat.beq k t with
  |true=>some v
  |false=>QM l t
theorem Aq {α:Type}: ∀ {l:List (Nat×α)} {t:Nat} {v:α},QM l t=some v→(t,v)∈l
 |[],t,v,h=>by simp [QM] at h
 |(k,u)::l,t,v,h=>by
  unfold QM at h
  split at h
  ·rename_i hb
   cases h
   rw [Nat.eq_of_beq_eq_true hb]; exact cr
  ·exact dH _ (Aq h)
def Lx:List Nat→Nat→Bool
 |[],_=>false
 |k::l,t=>match Nat.beq k t with
  |true=>true
  |false=>Lx l t
theorem CW: ∀ {l:List Nat} {t:Nat},Lx l t=true→t∈l
 |[],t,h=>by simp [Lx] at h
 |k::l,t,h=>by
  unfold Lx at h
  split at h
  ·rename_i hb
   rw [Nat.eq_of_beq_eq_true hb]; exact cr
  ·exact dH _ (CW h)
def Ds.H5 (T:Ds) (t:Nat):Option (Bool×Nat):=QM T.tk t
def Ds.foF (T:Ds) (s f:Nat):Option Nat:=match QM T.fo s with
 |some l=>match l[f]? with
  |some (some k)=>some k
  |_=>none
 |none=>none
structure lX (P:Program) (T:Ds):Prop where
 tk: ∀ p∈T.tk,tK P p.1=some p.2
 fo: ∀ p∈T.fo,∀ f k,p.2[f]? =some (some k)→sQ P p.1 f=some k
 sl: ∀ t∈T.sl,∃ e,P.underlying t=some (.slice e)
theorem lX.H5 {P:Program} {T:Ds} (h:lX P T) {t:Nat} {r:Bool×Nat} (e:T.H5 t=some r):tK P t=some r:=h.tk _ (Aq e)
theorem lX.foF {P:Program} {T:Ds} (h:lX P T) {s f k:Nat} (e:T.foF s f=some k):sQ P s f=some k:=by
 unfold Ds.foF at e
 split at e
 ·rename_i l hl
  split at e
  ·rename_i k' hk
   cases e
   exact h.fo _ (Aq hl) f k hk
  ·cases e
 ·cases e
def TG (P:Program) (T:Ds):Bool:=(T.tk.all fun p=>decide (tK P p.1=some p.2))&&(T.fo.all fun p=>(List.range p.2.length).all fun f=>match p.2[f]? with
 |some (some k)=>decide (sQ P p.1 f=some k)
 |_=>true)&&T.sl.all fun t=>match P.underlying t with
 |some (.slice _)=>true
 |_=>false
theorem PC {P:Program} {T:Ds} (h:TG P T=true):lX P T:=by
 unfold TG at h
 rw [dk,dk] at h
 obtain ⟨⟨B,C⟩,D⟩:=h
 refine ⟨fun p hp=>by simpa using c_.1 B p hp,fun p hp f k hk=>?_,fun t ht=>?_⟩
 ·have A:=c_.1 (c_.1 C p hp) f (List.mem_range.2 (aZ.1 hk).1)
  rw [hk] at A
  simpa using A
 ·have A:=c_.1 D t ht
  split at A
  ·rename_i e he; exact ⟨e,he⟩
  ·cases A
end
section
theorem qi:tK Tryz.prog 3=some (false,1):=by kernel_rfl
theorem VI:tK Tryz.prog 4=some (false,1):=by kernel_rfl
theorem TO:tK Tryz.prog 5=some (false,1):=by kernel_rfl
theorem UR:tK Tryz.prog 22=some (false,1):=by kernel_rfl
theorem RC:tK Tryz.prog 24=some (true,1):=by kernel_rfl
theorem Qc:tK Tryz.prog 25=some (false,1):=by kernel_rfl
theorem T3:tK Tryz.prog 26=some (false,1):=by kernel_rfl
theorem Uz:tK Tryz.prog 28=some (true,7):=by kernel_rfl
theorem Vd:tK Tryz.prog 29=some (false,1):=by kernel_rfl
theorem UO:tK Tryz.prog 30=some (false,1):=by kernel_rfl
theorem UW:tK Tryz.prog 32=some (true,11):=by kernel_rfl
theorem UP:tK Tryz.prog 33=some (false,1):=by kernel_rfl
theorem TW:tK Tryz.prog 34=some (false,1):=by kernel_rfl
theorem UJ:tK Tryz.prog 36=some (true,15):=by kernel_rfl
theorem xq:tK Tryz.prog 38=some (true,2):=by kernel_rfl
theorem UC:tK Tryz.prog 39=some (false,1):=by kernel_rfl
theorem Ur:tK Tryz.prog 41=some (true,3):=by kernel_rfl
theorem U7:tK Tryz.prog 43=some (true,7):=by kernel_rfl
theorem UX:tK Tryz.prog 51=some (false,1):=by kernel_rfl
theorem UL:tK Tryz.prog 75=some (false,1):=by kernel_rfl
theorem UA:tK Tryz.prog 86=some (true,4):=by kernel_rfl
theorem Uh:tK Tryz.prog 97=some (true,15):=by kernel_rfl
theorem Sf:tK Tryz.prog 102=some (true,5):=by kernel_rfl
theorem RG:tK Tryz.prog 105=some (false,1):=by kernel_rfl
theorem Td:tK Tryz.prog 113=some (true,2):=by kernel_rfl
theorem Tt:tK Tryz.prog 121=some (false,1):=by kernel_rfl
theorem Tg:tK Tryz.prog 122=some (false,1):=by kernel_rfl
theorem QT:tK Tryz.prog 123=some (false,1):=by kernel_rfl
theorem Sp:tK Tryz.prog 128=some (true,9):=by kernel_rfl
theorem QV:tK Tryz.prog 130=some (true,3):=by kernel_rfl
theorem ON:tK Tryz.prog 131=some (false,1):=by kernel_rfl
theorem SP:tK Tryz.prog 133=some (true,2):=by kernel_rfl
theorem Ka:tK Tryz.prog 135=some (true,3):=by kernel_rfl
theorem S4:tK Tryz.prog 179=some (true,2):=by kernel_rfl
theorem SL:tK Tryz.prog 180=some (true,8):=by kernel_rfl
theorem RX:tK Tryz.prog 183=some (true,4):=by kernel_rfl
theorem QN:tK Tryz.prog 192=some (true,4):=by kernel_rfl
theorem Q9:tK Tryz.prog 199=some (true,1):=by kernel_rfl
theorem TB:tK Tryz.prog 200=some (true,4):=by kernel_rfl
theorem Rw:tK Tryz.prog 251=some (true,1):=by kernel_rfl
theorem SC:tK Tryz.prog 274=some (false,1):=by kernel_rfl
theorem RZ:tK Tryz.prog 279=some (false,1):=by kernel_rfl
theorem Rq:tK Tryz.prog 281=some (true,2):=by kernel_rfl
theorem QX:tK Tryz.prog 287=some (true,3):=by kernel_rfl
theorem Dv:(tK Tryz.prog 3).map (·.2)=some 1:=by rw [qi]; rfl
theorem TY:(tK Tryz.prog 4).map (·.2)=some 1:=by rw [VI]; rfl
theorem TX:(tK Tryz.prog 22).map (·.2)=some 1:=by rw [UR]; rfl
theorem SV:(tK Tryz.prog 24).map (·.2)=some 1:=by rw [RC]; rfl
theorem Sq:(tK Tryz.prog 25).map (·.2)=some 1:=by rw [Qc]; rfl
theorem Ty:(tK Tryz.prog 26).map (·.2)=some 1:=by rw [T3]; rfl
theorem Ia:(tK Tryz.prog 28).map (·.2)=some 7:=by rw [Uz]; rfl
theorem Ch:(tK Tryz.prog 29).map (·.2)=some 1:=by rw [Vd]; rfl
theorem Sv:(tK Tryz.prog 30).map (·.2)=some 1:=by rw [UO]; rfl
theorem o6:(tK Tryz.prog 32).map (·.2)=some 11:=by rw [UW]; rfl
theorem UE:(tK Tryz.prog 33).map (·.2)=some 1:=by rw [UP]; rfl
theorem U_:(tK Tryz.prog 34).map (·.2)=some 1:=by rw [TW]; rfl
theorem Q7:(tK Tryz.prog 36).map (·.2)=some 15:=by rw [UJ]; rfl
theorem cW:(tK Tryz.prog 38).map (·.2)=some 2:=by rw [xq]; rfl
theorem Px:(tK Tryz.prog 39).map (·.2)=some 1:=by rw [UC]; rfl
theorem Pa:(tK Tryz.prog 41).map (·.2)=some 3:=by rw [Ur]; rfl
theorem Ez:(tK Tryz.prog 43).map (·.2)=some 7:=by rw [U7]; rfl
theorem UD:(tK Tryz.prog 51).map (·.2)=some 1:=by rw [UX]; rfl
theorem RQ:(tK Tryz.prog 75).map (·.2)=some 1:=by rw [UL]; rfl
theorem Ry:(tK Tryz.prog 86).map (·.2)=some 4:=by rw [UA]; rfl
theorem JT:(tK Tryz.prog 97).map (·.2)=some 15:=by rw [Uh]; rfl
theorem Bx:(tK Tryz.prog 102).map (·.2)=some 5:=by rw [Sf]; rfl
theorem Rf:(tK Tryz.prog 105).map (·.2)=some 1:=by rw [RG]; rfl
theorem pk:(tK Tryz.prog 113).map (·.2)=some 2:=by rw [Td]; rfl
theorem Tv:(tK Tryz.prog 121).map (·.2)=some 1:=by rw [Tt]; rfl
theorem QO:(tK Tryz.prog 122).map (·.2)=some 1:=by rw [Tg]; rfl
theorem EV:(tK Tryz.prog 123).map (·.2)=some 1:=by rw [QT]; rfl
theorem H2:(tK Tryz.prog 128).map (·.2)=some 9:=by rw [Sp]; rfl
theorem uo:(tK Tryz.prog 130).map (·.2)=some 3:=by rw [QV]; rfl
theorem OC:(tK Tryz.prog 131).map (·.2)=some 1:=by rw [ON]; rfl
theorem zd:(tK Tryz.prog 133).map (·.2)=some 2:=by rw [SP]; rfl
theorem OE:(tK Tryz.prog 135).map (·.2)=some 3:=by rw [Ka]; rfl
theorem IH:(tK Tryz.prog 179).map (·.2)=some 2:=by rw [S4]; rfl
theorem RW:(tK Tryz.prog 180).map (·.2)=some 8:=by rw [SL]; rfl
theorem mV:(tK Tryz.prog 183).map (·.2)=some 4:=by rw [RX]; rfl
theorem qG:(tK Tryz.prog 192).map (·.2)=some 4:=by rw [QN]; rfl
theorem E9:(tK Tryz.prog 199).map (·.2)=some 1:=by rw [Q9]; rfl
theorem S_:(tK Tryz.prog 200).map (·.2)=some 4:=by rw [TB]; rfl
theorem ID:(tK Tryz.prog 251).map (·.2)=some 1:=by rw [Rw]; rfl
theorem zq:(tK Tryz.prog 274).map (·.2)=some 1:=by rw [SC]; rfl
theorem JZ:(tK Tryz.prog 279).map (·.2)=some 1:=by rw [RZ]; rfl
theorem sY:(tK Tryz.prog 281).map (·.2)=some 2:=by rw [Rq]; rfl
theorem S6:(tK Tryz.prog 287).map (·.2)=some 3:=by rw [QX]; rfl
theorem zK:aE Tryz.prog 207=some (3,206,2):=by kernel_rfl
theorem Km:sQ Tryz.prog 28 2=some 2:=by kernel_rfl
theorem Fs:sQ Tryz.prog 133 1=some 1:=by kernel_rfl
theorem Vh:sP Tryz.prog 71=true:=by kernel_rfl
theorem lf (l:List ai): ∀ v∈(l.map ai.cells).flatten,v.oneCell'=true:=kY (fun _=>rfl) l
theorem v8 (l:List bg): ∀ v∈(l.map bg.cells).flatten,v.oneCell'=true:=kY (fun _=>rfl) l
theorem tR (l:List bR): ∀ v∈(l.map bR.cells).flatten,v.oneCell'=true:=kY (fun _=>rfl) l
theorem oK (l:List aG): ∀ v∈(l.map aG.cells).flatten,v.oneCell'=true:=kY (fun _=>rfl) l
theorem nR (l:List aD): ∀ v∈(l.map aD.cells).flatten,v.oneCell'=true:=kY (fun _=>rfl) l
theorem qM (l:List cE): ∀ v∈(l.map cE.cells).flatten,v.oneCell'=true:=kY (fun _=>rfl) l
theorem qC (l:List cQ): ∀ v∈(l.map cQ.cells).flatten,v.oneCell'=true:=kY (fun _=>rfl) l
theorem QR:tA Tryz.prog 22=some (128,9,72,(Value.agg [(vI 0),(vI 0),(vI 0),(vI 0),(vI 0),(vI 0),(vI 0),(Value.int .u8 0),(vI 0)].toArray)):=by kernel_rfl
theorem SR:tA Tryz.prog 25=some (133,2,32,(Value.agg [(vI 0),(vS none 0 0)].toArray)):=by kernel_rfl
theorem QW:tA Tryz.prog 26=some (137,4,32,(Value.agg [(vI 0),(vI 0),(vI 0),(vI 0)].toArray)):=by kernel_rfl
theorem pq:tA Tryz.prog 29=some (3,1,8,(vI 0)):=by kernel_rfl
theorem Sy:tA Tryz.prog 30=some (75,1,24,(vS none 0 0)):=by kernel_rfl
theorem UK:tA Tryz.prog 33=some (86,4,32,(Value.agg [(Value.int .u8 0),(vI 0),(vI 0),(vI 0)].toArray)):=by kernel_rfl
theorem UH:tA Tryz.prog 34=some (102,5,40,(Value.agg [(vI 0),(vI 0),(vI 0),(vI 0),(vI 0)].toArray)):=by kernel_rfl
theorem SH:tA Tryz.prog 39=some (113,2,16,(Value.agg [(vI 0),(vI 0)].toArray)):=by kernel_rfl
theorem Rl:tA Tryz.prog 51=some (29,1,24,(vS none 0 0)):=by kernel_rfl
theorem TC:tA Tryz.prog 75=some (43,7,64,(Value.agg [(vB false),(vB false),(vI 0),(vI 0),(vI 0),(vI 0),(vS none 0 0)].toArray)):=by kernel_rfl
theorem Jy:tA Tryz.prog 105=some (4,1,1,(vB false)):=by kernel_rfl
theorem F8:tA Tryz.prog 121=some (38,2,16,(Value.agg [(vI 0),(vI 0)].toArray)):=by kernel_rfl
theorem N7:tA Tryz.prog 122=some (121,1,24,(vS none 0 0)):=by kernel_rfl
theorem Ow:tA Tryz.prog 131=some (130,3,24,(Value.agg [(vI 0),(vI 0),(vI 0)].toArray)):=by kernel_rfl
theorem Oo:tA Tryz.prog 236=some (240,3,72,(Value.agg [(vS none 0 0),(vS none 0 0),(vS none 0 0)].toArray)):=by kernel_rfl
theorem N4:tA Tryz.prog 273=some (123,1,8,(Value.map none)):=by kernel_rfl
theorem Br:tA Tryz.prog 274=some (279,1,8,(Value.map none)):=by kernel_rfl
theorem Vj:tB Tryz.prog 24=some ([(vS none 0 0)],[(0,1)]):=by kernel_rfl
theorem yW:tB Tryz.prog 32=some ([(vS none 0 0),(vI 0),(vS none 0 0),(vS none 0 0),(vI 0),(vI 0),(vI 0),(vS none 0 0),(vS none 0 0),(vI 0),(vS none 0 0)],[(0,7),(7,1),(8,1),(9,1),(10,1)]):=by kernel_rfl
theorem g6:tB Tryz.prog 38=some ([(vI 0),(vI 0)],[(0,1),(1,1)]):=by kernel_rfl
theorem T1:tB Tryz.prog 97=some ([(vS none 0 0),(vI 0),(vS none 0 0),(vS none 0 0),(vI 0),(vI 0),(vI 0),(vS none 0 0),(vS none 0 0),(vI 0),(vS none 0 0),(vS none 0 0),(vS none 0 0),(vI 0),(vI 0)],[(0,15)]):=by kernel_rfl
theorem OM:tB Tryz.prog 113=some ([(vI 0),(vI 0)],[(0,1),(1,1)]):=by kernel_rfl
theorem RI:tB Tryz.prog 125=some ([(vS none 0 0),(vI 0),(vS none 0 0),(vS none 0 0),(vI 0),(vI 0),(vI 0),(vS none 0 0),(vS none 0 0),(vI 0),(vS none 0 0),(vS none 0 0),(Value.map none)],[(0,11),(11,1),(12,1)]):=by kernel_rfl
theorem IV:tB Tryz.prog 179=some ([Value.nilFunc,Value.nilFunc],[(0,1),(1,1)]):=by kernel_rfl
theorem Sx:tB Tryz.prog 180=some ([Value.nilFunc,Value.nilFunc,Value.nilFunc,Value.nilFunc,Value.nilFunc,Value.nilFunc,Value.nilFunc,Value.nilFunc],[(0,2),(2,2),(4,2),(6,2)]):=by kernel_rfl
theorem FG:tB Tryz.prog 183=some ([(vI 0),(vI 0),(vB false),(vB false)],[(0,2),(2,1),(3,1)]):=by kernel_rfl
theorem Ip:tB Tryz.prog 192=some ([(vB false),(vB false),(vI 0),(vI 0)],[(0,1),(1,1),(2,1),(3,1)]):=by kernel_rfl
theorem FE:tB Tryz.prog 199=some ([Value.nilFunc],[(0,1)]):=by kernel_rfl
theorem SS:tB Tryz.prog 200=some ([Value.nilFunc,Value.nilFunc,Value.nilFunc,Value.nilFunc],[(0,1),(1,1),(2,1),(3,1)]):=by kernel_rfl
theorem RV:tB Tryz.prog 240=some ([(vS none 0 0),(vS none 0 0),(vS none 0 0)],[(0,1),(1,1),(2,1)]):=by kernel_rfl
theorem QP:tB Tryz.prog 251=some ([(vS none 0 0)],[(0,1)]):=by kernel_rfl
theorem OH:tB Tryz.prog 276=some ([(vS none 0 0),(vI 0),(vS none 0 0),(vS none 0 0),(vI 0),(vI 0),(vI 0),(vI 0),(vI 0),(vS none 0 0),(vS none 0 0),(vS none 0 0),(vS none 0 0),(vS none 0 0)],[(0,7),(7,3),(10,1),(11,1),(12,1),(13,1)]):=by kernel_rfl
theorem BJ:tB Tryz.prog 281=some ([(vI 0),(vI 0)],[(0,1),(1,1)]):=by kernel_rfl
theorem wL:tE Tryz.prog 22=some (128,9):=by kernel_rfl
theorem vp:tE Tryz.prog 25=some (133,2):=by kernel_rfl
theorem ux:tE Tryz.prog 26=some (137,4):=by kernel_rfl
theorem dI:tE Tryz.prog 29=some (3,1):=by kernel_rfl
theorem kF:tE Tryz.prog 30=some (75,1):=by kernel_rfl
theorem yf:tE Tryz.prog 33=some (86,4):=by kernel_rfl
theorem wK:tE Tryz.prog 34=some (102,5):=by kernel_rfl
theorem wH:tE Tryz.prog 39=some (113,2):=by kernel_rfl
theorem Gt:tE Tryz.prog 51=some (29,1):=by kernel_rfl
theorem ov:tE Tryz.prog 75=some (43,7):=by kernel_rfl
theorem sU:tE Tryz.prog 105=some (4,1):=by kernel_rfl
theorem lK:tE Tryz.prog 121=some (38,2):=by kernel_rfl
theorem Ky:tE Tryz.prog 122=some (121,1):=by kernel_rfl
theorem nQ:tE Tryz.prog 131=some (130,3):=by kernel_rfl
theorem Iq:tE Tryz.prog 204=some (206,2):=by kernel_rfl
theorem BT:tE Tryz.prog 236=some (240,3):=by kernel_rfl
theorem OJ:tE Tryz.prog 272=some (231,1):=by kernel_rfl
theorem yc:tE Tryz.prog 273=some (123,1):=by kernel_rfl
theorem oG:tE Tryz.prog 274=some (279,1):=by kernel_rfl
theorem KC:tE Tryz.prog 291=some (135,3):=by kernel_rfl
theorem I7:(match Tryz.prog.underlying 38 with |some (.struct fs)=>(fs[0]?).map (fun fl=>tK Tryz.prog fl.type)|_=>none)=some (some (false,1)):=by kernel_rfl
theorem Lc:(match Tryz.prog.underlying 38 with |some (.struct fs)=>(fs[1]?).map (fun fl=>tK Tryz.prog fl.type)|_=>none)=some (some (false,1)):=by kernel_rfl
theorem Vu:tV Tryz.prog 3=some (vI 0):=by kernel_rfl
theorem Vv:tV Tryz.prog 4=some (vB false):=by kernel_rfl
theorem U1:tV Tryz.prog 38=some (Value.agg [(vI 0),(vI 0)].toArray):=by kernel_rfl
theorem Jg:tX Tryz.prog 180=some (4,179):=by kernel_rfl
theorem E8:tX Tryz.prog 200=some (4,199):=by kernel_rfl
theorem kS:tZ Tryz.prog 3=some [(vI 0)]:=by kernel_rfl
theorem VA:tZ Tryz.prog 4=some [(vB false)]:=by kernel_rfl
theorem Us:tZ Tryz.prog 24=some [(vS none 0 0)]:=by kernel_rfl
theorem MT:tZ Tryz.prog 28=some [(vS none 0 0),(vI 0),(vS none 0 0),(vS none 0 0),(vI 0),(vI 0),(vI 0)]:=by kernel_rfl
theorem SK:tZ Tryz.prog 29=some [(vS none 0 0)]:=by kernel_rfl
theorem yX:tZ Tryz.prog 32=some [(vS none 0 0),(vI 0),(vS none 0 0),(vS none 0 0),(vI 0),(vI 0),(vI 0),(vS none 0 0),(vS none 0 0),(vI 0),(vS none 0 0)]:=by kernel_rfl
theorem SB:tZ Tryz.prog 36=some [(vS none 0 0),(vI 0),(vS none 0 0),(vS none 0 0),(vI 0),(vI 0),(vI 0),(vS none 0 0),(vS none 0 0),(vI 0),(vS none 0 0),(vS none 0 0),(vS none 0 0),(vI 0),(vI 0)]:=by kernel_rfl
theorem eg:tZ Tryz.prog 38=some [(vI 0),(vI 0)]:=by kernel_rfl
theorem TU:tZ Tryz.prog 41=some [(vI 0),(vI 0),(vS none 0 0)]:=by kernel_rfl
theorem K7:tZ Tryz.prog 43=some [(vB false),(vB false),(vI 0),(vI 0),(vI 0),(vI 0),(vS none 0 0)]:=by kernel_rfl
theorem Rp:tZ Tryz.prog 86=some [(Value.int .u8 0),(vI 0),(vI 0),(vI 0)]:=by kernel_rfl
theorem Jw:tZ Tryz.prog 97=some [(vS none 0 0),(vI 0),(vS none 0 0),(vS none 0 0),(vI 0),(vI 0),(vI 0),(vS none 0 0),(vS none 0 0),(vI 0),(vS none 0 0),(vS none 0 0),(vS none 0 0),(vI 0),(vI 0)]:=by kernel_rfl
theorem Ct:tZ Tryz.prog 102=some [(vI 0),(vI 0),(vI 0),(vI 0),(vI 0)]:=by kernel_rfl
theorem BE:tZ Tryz.prog 113=some [(vI 0),(vI 0)]:=by kernel_rfl
theorem N2:tZ Tryz.prog 121=some [(vS none 0 0)]:=by kernel_rfl
theorem Sa:tZ Tryz.prog 123=some [(Value.map none)]:=by kernel_rfl
theorem KT:tZ Tryz.prog 128=some [(vI 0),(vI 0),(vI 0),(vI 0),(vI 0),(vI 0),(vI 0),(Value.int .u8 0),(vI 0)]:=by kernel_rfl
theorem uC:tZ Tryz.prog 130=some [(vI 0),(vI 0),(vI 0)]:=by kernel_rfl
theorem zX:tZ Tryz.prog 133=some [(vI 0),(vS none 0 0)]:=by kernel_rfl
theorem F_:tZ Tryz.prog 135=some [(vI 0),(vI 0),(vI 0)]:=by kernel_rfl
theorem Iw:tZ Tryz.prog 179=some [Value.nilFunc,Value.nilFunc]:=by kernel_rfl
theorem S8:tZ Tryz.prog 180=some [Value.nilFunc,Value.nilFunc,Value.nilFunc,Value.nilFunc,Value.nilFunc,Value.nilFunc,Value.nilFunc,Value.nilFunc]:=by kernel_rfl
theorem oR:tZ Tryz.prog 183=some [(vI 0),(vI 0),(vB false),(vB false)]:=by kernel_rfl
theorem uZ:tZ Tryz.prog 192=some [(vB false),(vB false),(vI 0),(vI 0)]:=by kernel_rfl
theorem FT:tZ Tryz.prog 199=some [Value.nilFunc]:=by kernel_rfl
theorem QU:tZ Tryz.prog 200=some [Value.nilFunc,Value.nilFunc,Value.nilFunc,Value.nilFunc]:=by kernel_rfl
theorem RT:tZ Tryz.prog 231=some [Value.nilFunc]:=by kernel_rfl
theorem Rn:tZ Tryz.prog 240=some [(vS none 0 0),(vS none 0 0),(vS none 0 0)]:=by kernel_rfl
theorem I6:tZ Tryz.prog 251=some [(vS none 0 0)]:=by kernel_rfl
theorem vc:tZ Tryz.prog 281=some [(vI 0),(vI 0)]:=by kernel_rfl
theorem Od:tZ Tryz.prog 287=some [(vS none 0 0),(vS none 0 0),(vS none 0 0)]:=by kernel_rfl
theorem ox:Tryz.prog.underlying 3=some (.int .i64):=by kernel_rfl
theorem TR:Tryz.prog.underlying 4=some .bool:=by kernel_rfl
theorem Oa:Tryz.prog.underlying 5=some (.int .u8):=by kernel_rfl
theorem VE:Tryz.prog.underlying 9=some .string:=by kernel_rfl
theorem Pg:Tryz.prog.underlying 22=some (.slice 128):=by kernel_rfl
theorem S5:Tryz.prog.underlying 25=some (.slice 133):=by kernel_rfl
theorem Mr:Tryz.prog.underlying 26=some (.slice 137):=by kernel_rfl
theorem Ro:Tryz.prog.underlying 29=some (.slice 3):=by kernel_rfl
theorem Rr:Tryz.prog.underlying 30=some (.slice 75):=by kernel_rfl
theorem Vk:Tryz.prog.underlying 33=some (.slice 86):=by kernel_rfl
theorem Ut:Tryz.prog.underlying 34=some (.slice 102):=by kernel_rfl
theorem Te:Tryz.prog.underlying 39=some (.slice 113):=by kernel_rfl
theorem QZ:Tryz.prog.underlying 75=some (.slice 43):=by kernel_rfl
theorem sV:Tryz.prog.underlying 123=some (.map 3 38):=by kernel_rfl
theorem Oe:Tryz.prog.underlying 131=some (.slice 130):=by kernel_rfl
theorem De:Tryz.prog.underlying 144=some (.map 3 4):=by kernel_rfl
theorem RN:Tryz.prog.underlying 227=some (.int .u64):=by kernel_rfl
theorem RE:Tryz.prog.underlying 271=some (.int .u64):=by kernel_rfl
theorem pE:Tryz.prog.underlying 279=some (.map 281 3):=by kernel_rfl
theorem Oq:fL Tryz.prog 102=some [(3,0),(3,1),(3,2),(3,3),(3,4)]:=by kernel_rfl
theorem P_ (d:Nat) (s z:bR) (w:World):(Op.equalIn (d+2) 102 (.agg s.cells.toArray) (.agg z.cells.toArray)).run Tryz.prog w= .ok (decide (s=z)) w:=by
 have hc:(decide (s.Id=z.Id)&&(decide (s.gH=z.gH)&&(decide (s.ib=z.ib)&&(decide (s.gj=z.gj)&&(decide (s.At=z.At)&&true)))))=decide (s=z):=by rw [Bool.eq_iff_iff]; simp [bR.ext_iff]
 rw [← hc]
 exact jN (d+1) Oq w (eW w (cZ qi U w) (cZ qi U w) (ik _ ox w) (eW w (cZ qi U w) (cZ qi U w) (ik _ ox w) (eW w (cZ qi U w) (cZ qi U w) (ik _ ox w) (eW w (cZ qi U w) (cZ qi U w) (ik _ ox w) (eW w (cZ qi U w) (cZ qi U w) (ik _ ox w) (nA w))))))
theorem QD (x y:Operand) (s z:bR):gQ Tryz.prog .neq 102 x y (.agg s.cells.toArray) (.agg z.cells.toArray) (.bool (!decide (s=z))):=mw x y (lU Oq) fun w=>P_ 9998 s z w
theorem Og:fL Tryz.prog 113=some [(3,0),(3,1)]:=by kernel_rfl
theorem Qk (d:Nat) (s z:aG) (w:World):(Op.equalIn (d+2) 113 (.agg s.cells.toArray) (.agg z.cells.toArray)).run Tryz.prog w= .ok (decide (s=z)) w:=by
 have hc:(decide (s.fI=z.fI)&&(decide (s.Read=z.Read)&&true))=decide (s=z):=by rw [Bool.eq_iff_iff]; simp [aG.ext_iff]
 rw [← hc]
 exact jN (d+1) Og w (eW w (cZ qi U w) (cZ qi U w) (ik _ ox w) (eW w (cZ qi U w) (cZ qi U w) (ik _ ox w) (nA w)))
theorem Pv (x y:Operand) (s z:aG):gQ Tryz.prog .neq 113 x y (.agg s.cells.toArray) (.agg z.cells.toArray) (.bool (!decide (s=z))):=mw x y (lU Og) fun w=>Qk 9998 s z w
theorem Ph:fL Tryz.prog 38=some [(3,0),(3,1)]:=by kernel_rfl
theorem yq (d:Nat) (s z:ai) (w:World):(Op.equalIn (d+2) 38 (.agg s.cells.toArray) (.agg z.cells.toArray)).run Tryz.prog w= .ok (decide (s=z)) w:=by
 have hc:(decide (s.Lo=z.Lo)&&(decide (s.Hi=z.Hi)&&true))=decide (s=z):=by rw [Bool.eq_iff_iff]; simp [ai.ext_iff]
 rw [← hc]
 exact jN (d+1) Ph w (eW w (cZ qi U w) (cZ qi U w) (ik _ ox w) (eW w (cZ qi U w) (cZ qi U w) (ik _ ox w) (nA w)))
theorem wF (x y:Operand) (s z:ai):gQ Tryz.prog .eql 38 x y (.agg s.cells.toArray) (.agg z.cells.toArray) (.bool (decide (s=z))):=zi x y (lU Ph) fun w=>yq 9998 s z w
theorem QY (x y:Operand) (s z:ai):gQ Tryz.prog .neq 38 x y (.agg s.cells.toArray) (.agg z.cells.toArray) (.bool (!decide (s=z))):=mw x y (lU Ph) fun w=>yq 9998 s z w
theorem Ol:fL Tryz.prog 128=some [(3,0),(38,1),(38,3),(38,5),(5,7),(3,8)]:=by kernel_rfl
theorem Qt (d:Nat) (s z:aD) (w:World):(Op.equalIn (d+3) 128 (.agg s.cells.toArray) (.agg z.cells.toArray)).run Tryz.prog w= .ok (decide (s=z)) w:=by
 have hc:(decide (s.Id=z.Id)&&(decide (s.jT=z.jT)&&(decide (s.kN=z.kN)&&(decide (s.ei=z.ei)&&(decide (s.ja=z.ja)&&(decide (s.xH=z.xH)&&true))))))=decide (s=z):=by rw [Bool.eq_iff_iff]; simp [aD.ext_iff]
 rw [← hc]
 exact jN (d+2) Ol w (eW w (cZ qi U w) (cZ qi U w) (ik _ ox w) (eW w (ji (vs:=ai.cells s.jT) xq U w) (ji (vs:=ai.cells z.jT) xq U w) (yq (d+0) s.jT z.jT w) (eW w (ji (vs:=ai.cells s.kN) xq U w) (ji (vs:=ai.cells z.kN) xq U w) (yq (d+0) s.kN z.kN w) (eW w (ji (vs:=ai.cells s.ei) xq U w) (ji (vs:=ai.cells z.ei) xq U w) (yq (d+0) s.ei z.ei w) (eW w (cZ TO U w) (cZ TO U w) (ik _ Oa w) (eW w (cZ qi U w) (cZ qi U w) (ik _ ox w) (nA w)))))))
theorem Qw (x y:Operand) (s z:aD):gQ Tryz.prog .neq 128 x y (.agg s.cells.toArray) (.agg z.cells.toArray) (.bool (!decide (s=z))):=mw x y (lU Ol) fun w=>Qt 9997 s z w
theorem Oy:fL Tryz.prog 130=some [(3,0),(38,1)]:=by kernel_rfl
theorem PL (d:Nat) (s z:cE) (w:World):(Op.equalIn (d+3) 130 (.agg s.cells.toArray) (.agg z.cells.toArray)).run Tryz.prog w= .ok (decide (s=z)) w:=by
 have hc:(decide (s.At=z.At)&&(decide (s.d_=z.d_)&&true))=decide (s=z):=by rw [Bool.eq_iff_iff]; simp [cE.ext_iff]
 rw [← hc]
 exact jN (d+2) Oy w (eW w (cZ qi U w) (cZ qi U w) (ik _ ox w) (eW w (ji (vs:=ai.cells s.d_) xq U w) (ji (vs:=ai.cells z.d_) xq U w) (yq (d+0) s.d_ z.d_ w) (nA w)))
theorem IZ (x y:Operand) (s z:cE):gQ Tryz.prog .neq 130 x y (.agg s.cells.toArray) (.agg z.cells.toArray) (.bool (!decide (s=z))):=mw x y (lU Oy) fun w=>PL 9997 s z w
theorem Q8:fL Tryz.prog 135=some [(3,0),(38,1)]:=by kernel_rfl
theorem O_ (d:Nat) (s z:dg) (w:World):(Op.equalIn (d+3) 135 (.agg s.cells.toArray) (.agg z.cells.toArray)).run Tryz.prog w= .ok (decide (s=z)) w:=by
 have hc:(decide (s.bw=z.bw)&&(decide (s.l9=z.l9)&&true))=decide (s=z):=by rw [Bool.eq_iff_iff]; simp [dg.ext_iff]
 rw [← hc]
 exact jN (d+2) Q8 w (eW w (cZ qi U w) (cZ qi U w) (ik _ ox w) (eW w (ji (vs:=ai.cells s.l9) xq U w) (ji (vs:=ai.cells z.l9) xq U w) (yq (d+0) s.l9 z.l9 w) (nA w)))
theorem NZ:fL Tryz.prog 137=some [(135,0),(3,3)]:=by kernel_rfl
theorem QA (d:Nat) (s z:cQ) (w:World):(Op.equalIn (d+4) 137 (.agg s.cells.toArray) (.agg z.cells.toArray)).run Tryz.prog w= .ok (decide (s=z)) w:=by
 have hc:(decide (s.lg=z.lg)&&(decide (s.jP=z.jP)&&true))=decide (s=z):=by rw [Bool.eq_iff_iff]; simp [cQ.ext_iff]
 rw [← hc]
 exact jN (d+3) NZ w (eW w (ji (vs:=dg.cells s.lg) Ka U w) (ji (vs:=dg.cells z.lg) Ka U w) (O_ (d+0) s.lg z.lg w) (eW w (cZ qi U w) (cZ qi U w) (ik _ ox w) (nA w)))
theorem Qe (x y:Operand) (s z:cQ):gQ Tryz.prog .neq 137 x y (.agg s.cells.toArray) (.agg z.cells.toArray) (.bool (!decide (s=z))):=mw x y (lU NZ) fun w=>QA 9996 s z w
theorem Ok:fL Tryz.prog 281=some [(3,0),(3,1)]:=by kernel_rfl
theorem PQ (d:Nat) (s z:aQ) (w:World):(Op.equalIn (d+2) 281 (.agg s.cells.toArray) (.agg z.cells.toArray)).run Tryz.prog w= .ok (decide (s=z)) w:=by
 have hc:(decide (s.right=z.right)&&(decide (s.fB=z.fB)&&true))=decide (s=z):=by rw [Bool.eq_iff_iff]; simp [aQ.ext_iff]
 rw [← hc]
 exact jN (d+1) Ok w (eW w (cZ qi U w) (cZ qi U w) (ik _ ox w) (eW w (cZ qi U w) (cZ qi U w) (ik _ ox w) (nA w)))
theorem Qj:fL Tryz.prog 86=some [(5,0),(3,1),(3,2),(3,3)]:=by kernel_rfl
theorem OB (d:Nat) (s z:bg) (w:World):(Op.equalIn (d+2) 86 (.agg s.cells.toArray) (.agg z.cells.toArray)).run Tryz.prog w= .ok (decide (s=z)) w:=by
 have hc:(decide (s.Kind=z.Kind)&&(decide (s.g_=z.g_)&&(decide (s.mu=z.mu)&&(decide (s.To=z.To)&&true))))=decide (s=z):=by rw [Bool.eq_iff_iff]; simp [bg.ext_iff]
 rw [← hc]
 exact jN (d+1) Qj w (eW w (cZ TO U w) (cZ TO U w) (ik _ Oa w) (eW w (cZ qi U w) (cZ qi U w) (ik _ ox w) (eW w (cZ qi U w) (cZ qi U w) (ik _ ox w) (eW w (cZ qi U w) (cZ qi U w) (ik _ ox w) (nA w)))))
theorem RM (x y:Operand) (s z:bg):gQ Tryz.prog .eql 86 x y (.agg s.cells.toArray) (.agg z.cells.toArray) (.bool (decide (s=z))):=zi x y (lU Qj) fun w=>OB 9998 s z w
theorem SN (x y:Operand) (s z:bg):gQ Tryz.prog .neq 86 x y (.agg s.cells.toArray) (.agg z.cells.toArray) (.bool (!decide (s=z))):=mw x y (lU Qj) fun w=>OB 9998 s z w
theorem cj:Tryz.prog.follows .mixedOrders=true:=by kernel_rfl
def TT:Ds:=⟨[(1,false,1),(2,false,1),(3,false,1),(4,false,1),(5,false,1),(6,false,1),(7,true,4),(8,true,4),(12,false,1),(15,false,1),(16,false,1),(17,false,1),(18,true,1),(19,true,1),(21,false,1),(22,false,1),(23,true,1),(24,true,1),(25,false,1),(26,false,1),(27,true,7),(28,true,7),(29,false,1),(30,false,1),(31,true,11),(32,true,11),(33,false,1),(34,false,1),(35,true,15),(36,true,15),(37,true,2),(38,true,2),(39,false,1),(40,true,3),(41,true,3),(42,true,7),(43,true,7),(44,false,1),(45,false,1),(46,false,1),(48,false,1),(50,false,1),(51,false,1),(53,false,1),(55,false,1),(56,false,1),(57,false,1),(59,false,1),(61,false,1),(63,false,1),(65,false,1),(67,false,1),(69,false,1),(70,false,1),(71,false,1),(72,false,1),(73,false,1),(74,false,1),(75,false,1),(76,false,1),(78,false,1),(79,false,1),(80,false,1),(81,false,1),(82,false,1),(83,false,1),(84,false,1),(85,true,4),(86,true,4),(88,false,1),(89,false,1),(90,false,1),(91,false,1),(92,false,1),(93,false,1),(94,false,1),(95,false,1),(96,true,15),(97,true,15),(99,false,1),(100,false,1),(101,true,5),(102,true,5),(103,false,1),(104,false,1),(105,false,1),(106,false,1),(107,false,1),(108,false,1),(109,false,1),(110,false,1),(111,false,1),(112,true,2),(113,true,2),(114,false,1),(115,false,1),(116,false,1),(117,false,1),(119,false,1),(120,false,1),(121,false,1),(122,false,1),(123,false,1),(124,true,13),(125,true,13),(126,false,1),(127,true,9),(128,true,9),(129,true,3),(130,true,3),(131,false,1),(132,true,2),(133,true,2),(134,true,3),(135,true,3),(136,true,4),(137,true,4),(138,false,1),(139,false,1),(140,false,1),(141,false,1),(142,false,1),(143,false,1),(144,false,1),(145,false,1),(146,false,1),(147,false,1),(148,false,1),(149,false,1),(150,false,1),(151,false,1),(152,false,1),(153,false,1),(154,false,1),(155,false,1),(156,false,1),(157,false,1),(158,false,1),(159,false,1),(160,false,1),(161,false,1),(162,false,1),(163,false,1),(164,false,1),(166,false,1),(167,false,1),(168,false,1),(169,false,1),(170,false,1),(171,false,1),(172,false,1),(174,false,1),(175,false,1),(176,false,1),(177,false,1),(178,true,2),(179,true,2),(180,true,8),(181,false,1),(182,true,4),(183,true,4),(184,false,1),(185,false,1),(186,false,1),(187,false,1),(188,false,1),(189,false,1),(190,false,1),(191,true,4),(192,true,4),(193,false,1),(194,false,1),(195,false,1),(197,false,1),(198,false,1),(199,true,1),(200,true,4),(201,false,1),(202,false,1),(203,false,1),(204,false,1),(205,true,2),(206,true,2),(207,true,6),(208,false,1),(209,false,1),(210,false,1),(211,false,1),(212,false,1),(213,false,1),(214,false,1),(216,false,1),(217,false,1),(218,false,1),(219,false,1),(220,false,1),(221,false,1),(222,false,1),(223,false,1),(224,false,1),(225,false,1),(226,false,1),(227,false,1),(228,false,1),(230,false,1),(231,false,1),(232,false,1),(233,false,1),(234,false,1),(235,false,1),(236,false,1),(238,false,1),(239,true,3),(240,true,3),(241,false,1),(242,false,1),(243,false,1),(244,false,1),(245,false,1),(246,false,1),(247,false,1),(248,false,1),(249,false,1),(250,true,1),(251,true,1),(253,false,1),(254,false,1),(256,false,1),(257,false,1),(258,false,1),(259,false,1),(260,false,1),(262,false,1),(263,false,1),(264,false,1),(265,false,1),(267,false,1),(268,false,1),(269,false,1),(270,false,1),(271,false,1),(272,false,1),(273,false,1),(274,false,1),(275,true,14),(276,true,14),(277,false,1),(278,false,1),(279,false,1),(280,true,2),(281,true,2),(282,false,1),(283,false,1),(284,false,1),(285,false,1),(286,true,3),(287,true,3),(288,false,1),(289,false,1),(290,false,1),(291,false,1),(292,false,1),(293,false,1),(294,false,1),(295,false,1),(296,false,1),(297,false,1),(298,false,1),(299,false,1),(300,false,1),(301,false,1),(302,false,1),(303,false,1),(304,false,1),(305,false,1),(306,false,1),(307,false,1),(308,false,1),(309,false,1),(310,false,1),(311,false,1),(312,false,1),(313,false,1),(316,true,0),(317,true,0),(318,true,0),(319,false,1),(320,false,1),(321,false,1),(322,false,1),(323,false,1),(324,false,1),(325,false,1),(326,true,11),(327,true,11),(328,false,1),(330,false,1)],[(7,[some 0,some 1,some 2,some 3]),(8,[some 0,some 1,some 2,some 3]),(18,[some 0]),(19,[some 0]),(23,[some 0]),(24,[some 0]),(27,[some 0,some 1,some 2,some 3,some 4,some 5,some 6]),(28,[some 0,some 1,some 2,some 3,some 4,some 5,some 6]),(31,[some 0,some 7,some 8,some 9,some 10]),(32,[some 0,some 7,some 8,some 9,some 10]),(35,[some 0,some 11,some 12,some 13,some 14]),(36,[some 0,some 11,some 12,some 13,some 14]),(37,[some 0,some 1]),(38,[some 0,some 1]),(40,[some 0,some 1,some 2]),(41,[some 0,some 1,some 2]),(42,[some 0,some 1,some 2,some 4]),(43,[some 0,some 1,some 2,some 4]),(85,[some 0,some 1,some 2,some 3]),(86,[some 0,some 1,some 2,some 3]),(96,[some 0]),(97,[some 0]),(101,[some 0,some 1,some 2,some 3,some 4]),(102,[some 0,some 1,some 2,some 3,some 4]),(112,[some 0,some 1]),(113,[some 0,some 1]),(124,[some 0,some 11,some 12]),(125,[some 0,some 11,some 12]),(127,[some 0,some 1,some 3,some 5,some 7,some 8]),(128,[some 0,some 1,some 3,some 5,some 7,some 8]),(129,[some 0,some 1]),(130,[some 0,some 1]),(132,[some 0,some 1]),(133,[some 0,some 1]),(134,[some 0,some 1]),(135,[some 0,some 1]),(136,[some 0,some 3]),(137,[some 0,some 3]),(178,[some 0,some 1]),(179,[some 0,some 1]),(182,[some 0,some 2,some 3]),(183,[some 0,some 2,some 3]),(191,[some 0,some 1,some 2,some 3]),(192,[some 0,some 1,some 2,some 3]),(199,[some 0]),(205,[some 0,some 1]),(206,[some 0,some 1]),(239,[some 0,some 1,some 2]),(240,[some 0,some 1,some 2]),(250,[some 0]),(251,[some 0]),(275,[some 0,some 7,some 10,some 11,some 12,some 13]),(276,[some 0,some 7,some 10,some 11,some 12,some 13]),(280,[some 0,some 1]),(281,[some 0,some 1]),(286,[some 0,some 1,some 2]),(287,[some 0,some 1,some 2]),(326,[some 0,some 1,some 2,some 3,some 4,some 5,some 6,some 7,some 8,some 9,some 10]),(327,[some 0,some 1,some 2,some 3,some 4,some 5,some 6,some 7,some 8,some 9,some 10])],[22,25,26,29,30,33,34,39,51,75,105,121,122,131,204,236,272,273,274,291]⟩
theorem qK:lX Tryz.prog TT:=PC kr
theorem bU {t:TypeId} {x:Bool×Nat} (h:TT.H5 t=some x:=by rfl):tK Tryz.prog t=some x:=qK.H5 h
theorem eC {s f k:Nat} (h:TT.foF s f=some k:=by rfl):sQ Tryz.prog s f=some k:=qK.foF h
end
section
open Go.RowKit
/-- blocks that are read -/
def MM (C:List ay) (M:List (Nat×List Value)):Prop:= ∀ p∈M,∀ o vs,(p.2.drop o).take vs.length=vs→At C (some ⟨p.1,o,none⟩) vs
theorem I {C:List ay}:MM C []:=fun p h=>by cases h
theorem mc {C:List ay} {b t:Nat} {cs:List Value} {M:List (Nat×List Value)} (i:Nat) (hC:C[i]? =some (cy b t cs)) (h:MM C M):MM C ((b,cs)::M):=fun p hp o vs hv=>by
 rcases cm.1 hp with rfl|hp
 ·exact qh i hC hv
 ·exact h p hp o vs hv
theorem mr {C:List ay} {b t:Nat} {cs:List Value} {M:List (Nat×List Value)} (i:Nat) (hC:C[i]? =some (cy b t cs).ro) (h:MM C M):MM C ((b,cs)::M):=fun p hp o vs hv=>by
 rcases cm.1 hp with rfl|hp
 ·exact wY i hC hv
 ·exact h p hp o vs hv
def qf:List Prop→Prop
 |[]=>True
 |p::l=>p∧qf l
theorem kG {p:Prop} {l:List Prop} (h:p) (h2:qf l):qf (p::l):=⟨h,h2⟩
/-- the value of an operation, what it asks for, and what is left of the list of places -/
def pv (T:Ds) (ops:Array Oper) (M:List (Nat×List Value)) (L:dG) (hs:List Nat) (g:Option (Nat×Bool)) (op:Op):Option (Value×List Prop×List Nat):=
 match Dl ops L g with
 |true=>some (undef,[],hs)
 |false=>match ke ops L g with
  |false=>none
  |true=>match op with
   | .move x=>match ev L x with
    |some v=>some (v,[],hs)
    |none=>none
   | .assign x=>match ev L x with
    |some v=>some (v,[],hs)
    |none=>none
   | .pick c x y=>match ev L c with
    |some (.bool true)=>match ev L x with
     |some v=>some (v,[],hs)
     |none=>none
    |some (.bool false)=>match ev L y with
     |some v=>some (v,[],hs)
     |none=>none
    |_=>none
   | .unOp .not _ x=>match ev L x with
    |some (.bool b)=>some (.bool !b,[],hs)
    |_=>none
   | .extract x i=>match ev L x with
    |some (.tuple vs)=>match vs.toList[i]? with
     |some v=>some (v,[],hs)
     |none=>none
    |_=>none
   | .fieldAddr s x f=>match ev L x with
    |some (.pointer (some ⟨b,o,none⟩))=>match T.foF s f with
     |some k=>some (.pointer (some ⟨b,o+k,none⟩),[],hs)
     |none=>none
    |_=>none
   | .binOp op _ x y _=>match ev L x with
    |some (.int .i64 a)=>match ev L y with
     |some (.int .i64 b)=>match op with
      | .lss=>some (.bool (decide (a<b)),[],hs)
      | .leq=>some (.bool (decide (a≤b)),[],hs)
      | .gtr=>some (.bool (decide (b<a)),[],hs)
      | .geq=>some (.bool (decide (b≤a)),[],hs)
      | .eql=>some (.bool (decide (a=b)),[],hs)
      | .neq=>some (.bool (!decide (a=b)),[],hs)
      | .add=>some (.int .i64 (a+b),[-9223372036854775808≤a+b,a+b≤9223372036854775807],hs)
      | .sub=>some (.int .i64 (a-b),[-9223372036854775808≤a-b,a-b≤9223372036854775807],hs)
      |_=>none
     |_=>none
    |_=>none
   | .load t x=>match ev L x with
    |some (.pointer (some ⟨b,o,none⟩))=>match M[hs.headD 0]? with
     |some (b',cs)=>match T.H5 t with
      |some (false,_)=>match cs[o]? with
       |some v=>some (v,[b'=b],hs.tail)
       |none=>none
      |some (true,n)=>match Nat.beq o 0 with
       |true=>match Nat.beq cs.length n with
        |true=>some (.agg cs.toArray,[b'=b],hs.tail)
        |false=>none
       |false=>none
      |none=>none
     |none=>none
    |_=>none
   | .call c=>match c with
    |{callee:= .builtin .len,args:=xs,argTypes:=ts}=>match xs.toList with
     |[x]=>match ts.toList with
      |[t]=>match ev L x with
       |some (.slice A n c)=>match Lx T.sl t with
        |true=>some (.int .i64 n,[],hs)
        |false=>none
       |_=>none
      |_=>none
     |_=>none
    |_=>none
   |_=>none
section
variable {E:fH} {T:Ds} {ops:Array Oper} {M:List (Nat×List Value)} {D:List Deferred} {L:List (Nat×Value)} {C:List ay} {hs hs':List Nat}
theorem wj {cs:List Value} {o:Nat} {v:Value} (h:cs[o]? =some v):(cs.drop o).take [v].length=[v]:=by
 obtain ⟨hl,rfl⟩:=aZ.1 h
 rw [List.drop_eq_getElem_cons hl]; rfl
theorem Tk {o:Oper} {v:Value} {S:List Prop} (hT:lX E.P T) (hM:MM C M) (h:pv T ops M L hs o.guard o.op=some (v,S,hs')) (hS:qf S):SD E ops o D L C v:=by
 obtain ⟨dst,op,ty,ps,af,g⟩:=o
 unfold pv at h
 simp only at h
 split at h
 ·rename_i hg
  cases h
  exact IB hg
 ·split at h
  ·cases h
  ·rename_i hg
   split at h
   ·split at h
    ·rename_i hx; cases h; exact ES hg hx
    ·cases h
   ·split at h
    ·rename_i hx; cases h; exact za hg hx
    ·cases h
   ·split at h
    ·rename_i hc
     split at h
     ·rename_i hx; cases h; exact zA hg hc hx
     ·cases h
    ·rename_i hc
     split at h
     ·rename_i hx; cases h; exact z4 hg hc hx
     ·cases h
    ·cases h
   ·split at h
    ·rename_i hx; cases h; exact IL hg hx
    ·cases h
   ·split at h
    ·rename_i vs hx
     split at h
     ·rename_i v' hv; cases h; exact xb (vs:=vs.toList) hg (by simpa using hx) hv
     ·cases h
    ·cases h
   ·split at h
    ·rename_i hx
     split at h
     ·rename_i hk; cases h; exact N3 hg hx (hT.foF hk) rfl
     ·cases h
    ·cases h
   ·split at h
    ·rename_i hx
     split at h
     ·rename_i hy
      split at h
      ·cases h; exact eQ hg hx hy qJ
      ·cases h; exact eQ hg hx hy Tw
      ·cases h; exact eQ hg hx hy Fy
      ·cases h; exact eQ hg hx hy FF
      ·cases h; exact eQ hg hx hy kf
      ·cases h; exact eQ hg hx hy s_
      ·cases h; exact eQ hg hx hy (oQ ⟨hS.1,hS.2.1⟩)
      ·cases h; exact eQ hg hx hy (xw ⟨hS.1,hS.2.1⟩)
      ·cases h
     ·cases h
    ·cases h
   ·split at h
    ·rename_i hx
     split at h
     ·rename_i b' cs hm
      have A:=aP hm
      split at h
      ·rename_i hk
       split at h
       ·rename_i hv
        cases h
        obtain rfl:=hS.1
        exact vU hg hx (hT.H5 hk) (hM _ A _ _ (wj hv))
       ·cases h
      ·rename_i n hk
       split at h
       ·rename_i ho
        split at h
        ·rename_i hn
         cases h
         obtain rfl:=hS.1
         have H:=Nat.eq_of_beq_eq_true ho
         subst H
         exact yk hg hx (hT.H5 hk) (hM _ A 0 cs sm) (Nat.eq_of_beq_eq_true hn)
        ·cases h
       ·cases h
      ·cases h
     ·cases h
    ·cases h
   ·split at h
    ·rename_i xs ts
     split at h
     ·rename_i x G
      split at h
      ·rename_i t F
       split at h
       ·rename_i hx
        split at h
        ·rename_i B
         cases h
         obtain ⟨e,he⟩:=hT.sl t (CW B)
         have AA:xs= #[x]:=by apply Array.ext'; simpa using G
         have J:ts= #[t]:=by apply Array.ext'; simpa using F
         subst AA J
         exact JA hg hx he
        ·cases h
       ·cases h
      ·cases h
     ·cases h
    ·cases h
   ·cases h
def pr (T:Ds) (n:Nat) (ops:Array Oper) (M:List (Nat×List Value)):Nat→List Nat→dG→List Oper→Option (dG×List Oper×List Prop)
 |0,_,L,rest=>some (L,rest,[])
 |k+1,hs,L,[]=>none
 |k+1,hs,L,o::rest=>match o.dst with
  |none=>none
  |some d=>match Nat.blt d n with
   |false=>none
   |true=>match pv T ops M L hs o.guard o.op with
    |none=>none
    |some (v,S,hs')=>match pr T n ops M k hs' ((d,v)::L) rest with
     |none=>none
     |some (L',rest',S')=>some (L',rest',S++S')
theorem xu: ∀ {S S':List Prop},qf (S++S')→qf S∧qf S'
 |[],S',h=>⟨trivial,h⟩
 |p::S,S',h=>⟨⟨h.1,(xu h.2).1⟩,(xu h.2).2⟩
/-- whatever is closed under single steps -/
theorem Is {J:List Oper→dG→Prop} (hT:lX E.P T) (hM:MM C M) (hJ: ∀ o rest L d v,SD E ops o D L C v→o.dst=some d→Nat.blt d E.n=true→J rest ((d,v)::L)→J (o::rest) L):
 ∀ (k:Nat) (hs:List Nat) (L:dG) (rest:List Oper) {L':dG} {rest':List Oper} {S:List Prop},pr T E.n ops M k hs L rest=some (L',rest',S)→qf S→J rest' L'→J rest L
 |0,hs,L,rest,L',rest',S,h,hS,hj=>by
  unfold pr at h
  cases h
  exact hj
 |k+1,hs,L,[],L',rest',S,h,hS,hj=>by unfold pr at h; cases h
 |k+1,hs,L,o::rest,L',rest',S,h,hS,hj=>by
  unfold pr at h
  split at h
  ·cases h
  ·rename_i d hd
   split at h
   ·cases h
   ·rename_i hn
    split at h
    ·cases h
    ·rename_i v S1 A hv
     split at h
     ·cases h
     ·rename_i L1 G S2 hr
      cases h
      obtain ⟨B,F⟩:=xu hS
      exact hJ o rest L d v (Tk hT hM hv B) hd hn (Is hT hM hJ k A _ rest hr F hj)
variable {Q:dv} {rest rest':List Oper} {L0 L':List (Nat×Value)} {S:List Prop} {F:List (Nat×Value)→Prop}
/-- a run of operations, one after the other -/
theorem rP (k:Nat) (hs:List Nat) (hM:MM C M) (j:RJ E ops Q rest' D L' C) (hT:lX E.P T:=by exact qK) (h:pr T E.n ops M k hs L rest=some (L0,rest',S):=by rfl) (hL:L0=L':=by (try dsimp only)<;>rfl) (hS:qf S:=by repeat' first|exact True.intro |refine kG ?_ ?_ |exact rfl|omega|(dsimp only; omega)):RJ E ops Q rest D L C:=by
 subst hL
 exact Is (J:=fun r L=>RJ E ops Q r D L C) hT hM (fun o rest L d v A B F G=>Rz A B F G) k hs L rest h hS j
theorem dP (k:Nat) (hs:List Nat) (hM:MM C M) (j:DJ E ops D C F rest' L') (hT:lX E.P T:=by exact qK) (h:pr T E.n ops M k hs L rest=some (L0,rest',S):=by rfl) (hL:L0=L':=by (try dsimp only)<;>rfl) (hS:qf S:=by repeat' first|exact True.intro |refine kG ?_ ?_ |exact rfl|omega|(dsimp only; omega)):DJ E ops D C F rest L:=by
 subst hL
 exact Is (J:=fun r L=>DJ E ops D C F r L) hT hM (fun o rest L d v A B G H=>Tm A B G H) k hs L rest h hS j
end
section
variable {P:Program} {r:Option Nat} {n:Nat} {B:BS} {w0:World} {ops:Array Oper} {M:List (Nat×List Value)} {D:List Deferred} {L L':List (Nat×Value)} {C:List ay} {Q:dv} {rest rest':List Oper} {S:List Prop} {F:List (Nat×Value)→Prop}
theorem dZ (k:Nat) (hs:List Nat) (hM:MM C M) (h:pr TT n ops M k hs L rest=some (L',rest',S)) (j:RJ ⟨P,r,n,B,w0⟩ ops Q rest' D L' C) (hS:qf S:=by repeat' first|exact True.intro |refine kG ?_ ?_ |exact rfl|omega|(dsimp only; omega)) (hT:lX P TT:=by exact qK):RJ ⟨P,r,n,B,w0⟩ ops Q rest D L C:=rP k hs hM j hT h rfl hS
theorem kp (k:Nat) (hs:List Nat) (hM:MM C M) (h:pr TT n ops M k hs L rest=some (L',rest',S)) (j:DJ ⟨P,r,n,B,w0⟩ ops D C F rest' L') (hS:qf S:=by repeat' first|exact True.intro |refine kG ?_ ?_ |exact rfl|omega|(dsimp only; omega)) (hT:lX P TT:=by exact qK):DJ ⟨P,r,n,B,w0⟩ ops D C F rest L:=dP k hs hM j hT h rfl hS
theorem bp (k:Nat) (h:pr TT n ops [] k [] L rest=some (L',rest',S)) (j:RJ ⟨P,r,n,B,w0⟩ ops Q rest' D L' C) (hS:qf S:=by repeat' first|exact True.intro |refine kG ?_ ?_ |exact rfl|omega|(dsimp only; omega)) (hT:lX P TT:=by exact qK):RJ ⟨P,r,n,B,w0⟩ ops Q rest D L C:=rP k [] I j hT h rfl hS
theorem kK (k:Nat) (h:pr TT n ops [] k [] L rest=some (L',rest',S)) (j:DJ ⟨P,r,n,B,w0⟩ ops D C F rest' L') (hS:qf S:=by repeat' first|exact True.intro |refine kG ?_ ?_ |exact rfl|omega|(dsimp only; omega)) (hT:lX P TT:=by exact qK):DJ ⟨P,r,n,B,w0⟩ ops D C F rest L:=dP k [] I j hT h rfl hS
end
end
section
open Go.RowKit
/-- parts of a context, reckoned to the end -/
def sR (C:List ay):List Nat→Option (List ay)
 |[]=>some []
 |i::is=>match C[i]? with
  |some A=>match sR C is with
   |some l=>some (A::l)
   |none=>none
  |none=>none
theorem mO {C:List ay}: ∀ {is:List Nat} {C':List ay},sR C is=some C'→kR C is=C'
 |[],C',h=>by cases h; rfl
 |i::is,C',h=>by
  unfold sR at h
  split at h
  ·rename_i A hA
   split at h
   ·rename_i l hl
    cases h
    show List.filterMap (C[·]?) (i::is)=A::l
    rw [List.filterMap_cons_some hA]
    exact congrArg _ (mO hl)
   ·cases h
  ·cases h
/-- a part of a context in place of the whole -/
theorem aK {S:BS} {w0:World} {C C':List ay} (is:List Nat) (hn:decide is.Nodup=true:=by rfl) (hC:kR C is=C':=by rfl): ∀ w,St S w0 C w→St S w0 C' w:=fun w h=>St.kR is hn hC h
theorem RP {S:BS} {w0:World} {C C':List ay} (is:List Nat) (hC:sR C is=some C') (hn:decide is.Nodup=true:=by rfl): ∀ w,St S w0 C w→St S w0 C' w:=fun w h=>St.kR is hn (mO hC) h
def NV (C:List ay) (i:Nat) (B:ay):Option (List ay):=match i,C with
 |0,_::C=>some (B::C)
 |i+1,A::C=>match NV C i B with
  |some l=>some (A::l)
  |none=>none
 |_,[]=>none
theorem Fe: ∀ {C:List ay} {i:Nat} {B:ay} {C':List ay},NV C i B=some C'→C.set i B=C'
 |[],0,B,C',h=>by cases h
 |[],i+1,B,C',h=>by cases h
 |A::C,0,B,C',h=>by cases h; rfl
 |A::C,i+1,B,C',h=>by
  unfold NV at h
  split at h
  ·rename_i l hl
   cases h
   exact congrArg _ (Fe hl)
  ·cases h
theorem rQ {E:fH} {K:Act→World→Prop} {D:iw} {L:dG} {C C':List ay} {A B:ay} (i:Nat) (hC:C[i]? =some A) (hh:(∀ w,A.holds w→B.holds w)∧(∀ b,B.fO b→A.fO b)∧ ∀ b,B.wf b→A.wf b) (hC':NV C i B=some C') (h:KJ E K D L C'):KJ E K D L C:=Jh i hC hh (Fe hC') h
/-- the operations of a region but these; marks of some places -/
def Up (n:Nat) (T:List Nat):List Nat:=(List.range n).filter fun i=> !T.contains i
def Vn (k:Nat) (t:List Nat):List Bool:=(List.range k).map fun i=>t.contains i
theorem dp {E:fH} {id:Nat} {ops:Array Oper} {Q:dv} {D:iw} {L:dG} {C:List ay} (hm:E.P.follows .mixedOrders=true) (T fe tb i1 i2:List Nat) {C' C1:List ay} {free:List Nat} {feb tbb:List Bool}
 (h1:sR C i1=some C') (h2:sR C i2=some C1) (hf:free=Up ops.size T) (hfe:feb=Vn free.length fe) (htb:tbb=Vn T.length tb)
 (h:qT E ops D C' C1 (fun L'=>TJ E ops D C' C1 (fun L C=>KJ E (Q .normal) D L C) tbb (fq ops T) L' C) feb (fq ops free) L)
 (hc:Mq ops free T feb tbb=true:=by kernel_rfl) (n1:decide i1.Nodup=true:=by rfl) (n2:decide i2.Nodup=true:=by rfl):WJ E (.region id ops true) Q D L C:=
 M0 hm free T feb tbb C' C1 hc (RP i1 h1 n1) (RP i2 h2 n2) h
end
section
open Go.RowKit
def wO (T:Ds) (M:List (Nat×List Value)) (L:dG):List ResultVar→List Nat→Option (List Value×List Prop)
 |[],_=>some ([],[])
 | .tmp t::rs,hs=>match L.lookup t with
  |some v=>match wO T M L rs hs with
   |some (vs,S)=>some (v::vs,S)
   |none=>none
  |none=>none
 | .cell a t::rs,hs=>match L.lookup a with
  |some (.pointer (some ⟨b,o,none⟩))=>match M[hs.headD 0]? with
   |some (b',cs)=>match T.H5 t with
    |some (false,_)=>match cs[o]? with
     |some v=>match wO T M L rs hs.tail with
      |some (vs,S)=>some (v::vs,(b'=b)::S)
      |none=>none
     |none=>none
    |some (true,n)=>match Nat.beq o 0 with
     |true=>match Nat.beq cs.length n with
      |true=>match wO T M L rs hs.tail with
       |some (vs,S)=>some (.agg cs.toArray::vs,(b'=b)::S)
       |none=>none
      |false=>none
     |false=>match wO T M L rs hs.tail with
      |some (vs,S)=>some (.agg ((cs.drop o).take n).toArray::vs,(b'=b)::(((cs.drop o).take n).length=n)::S)
      |none=>none
    |none=>none
   |none=>none
  |_=>none
theorem oE {P:Program} {T:Ds} {M:List (Nat×List Value)} {L:dG} {C:List ay} (hT:lX P T) (hM:MM C M): ∀ (rs:List ResultVar) (hs:List Nat) {vs:List Value} {S:List Prop},wO T M L rs hs=some (vs,S)→qf S→HH P L C rs vs
 |[],_,vs,S,h,hS=>by unfold wO at h; cases h; exact trivial
 | .tmp t::rs,hs,vs,S,h,hS=>by
  unfold wO at h
  split at h
  ·rename_i v hv
   split at h
   ·rename_i vs' S' hr
    cases h
    exact ⟨hv,oE hT hM rs hs hr hS⟩
   ·cases h
  ·cases h
 | .cell a t::rs,hs,vs,S,h,hS=>by
  unfold wO at h
  split at h
  ·rename_i b o hl
   split at h
   ·rename_i b' cs hm
    have A:=aP hm
    split at h
    ·rename_i hk
     split at h
     ·rename_i v hv
      split at h
      ·rename_i vs' S' hr
       cases h
       obtain ⟨rfl,hS⟩:=hS
       exact ⟨⟨_,hl,.inr ⟨_,hT.H5 hk,hM _ A _ _ (wj hv)⟩⟩,oE hT hM rs _ hr hS⟩
      ·cases h
     ·cases h
    ·rename_i n hk
     split at h
     ·rename_i ho
      split at h
      ·rename_i hn
       split at h
       ·rename_i vs' S' hr
        cases h
        obtain ⟨rfl,hS⟩:=hS
        have D:=Nat.eq_of_beq_eq_true ho
        subst D
        exact ⟨⟨_,hl,.inl ⟨_,cs,hT.H5 hk,hM _ A 0 cs sm,Nat.eq_of_beq_eq_true hn,U⟩⟩,oE hT hM rs _ hr hS⟩
       ·cases h
      ·cases h
     ·split at h
      ·rename_i vs' S' hr
       cases h
       obtain ⟨rfl,B,hS⟩:=hS
       exact ⟨⟨_,hl,.inl ⟨_,_,hT.H5 hk,hM _ A o _ (by rw [B]),B,U⟩⟩,oE hT hM rs _ hr hS⟩
      ·cases h
    ·cases h
   ·cases h
  ·cases h
section
variable {P:Program} {n:Nat} {fn:Func} {w0:World} {K:Act→World→Prop} {L:List (Nat×Value)} {C:List ay} {M:List (Nat×List Value)} {vs:List Value} {S:List Prop} {u x v:Value}
theorem Bf (hQ: ∀ D L C,LJ ⟨P,none,n,tW,w0⟩ fn (AV w0 v) D L C→KJ ⟨P,none,n,tW,w0⟩ K D L C) (hs:List Nat) (hM:MM C M) (h:wO TT M L fn.results.toList hs=some ([u],S)) (e:u=v) (hS:qf S:=by repeat' first|exact True.intro |refine kG rfl ?_) (hT:lX P TT:=by exact qK):KJ ⟨P,none,n,tW,w0⟩ K [] L C:=
 hQ _ _ _ (j9 (oE hT hM _ _ h hS) fun w hs=>BK e hs)
theorem ml (hQ: ∀ D L C,LJ ⟨P,none,n,tW,w0⟩ fn (AV w0 v) D L C→KJ ⟨P,none,n,tW,w0⟩ K D L C) (hs:List Nat) (hM:MM C M) (h:wO TT M L fn.results.toList hs=some (u::x::vs,S)) (e:Value.tuple (u::x::vs).toArray=v) (hS:qf S:=by repeat' first|exact True.intro |refine kG rfl ?_) (hT:lX P TT:=by exact qK):KJ ⟨P,none,n,tW,w0⟩ K [] L C:=
 hQ _ _ _ (j9 (oE hT hM _ _ h hS) fun w hs=>BK e hs)
theorem LX {α:Type} {V:α→Value} {p:α→Prop} {N:α→List ay} (hQ: ∀ D L C,LJ ⟨P,none,n,tW,w0⟩ fn (I_ w0 V p N) D L C→KJ ⟨P,none,n,tW,w0⟩ K D L C) (x:α) (is hs:List Nat) (hM:MM C M) (h:wO TT M L fn.results.toList hs=some (vs,S)) (hw:(N x).all (·.wr)=true) (hN:kR C is=N x) (hV:QG vs=V x) (hp:p x) (hn:decide is.Nodup=true:=by rfl) (hS:qf S:=by repeat' first|exact True.intro |refine kG rfl ?_) (hT:lX P TT:=by exact qK):KJ ⟨P,none,n,tW,w0⟩ K [] L C:=
 hQ _ _ _ (j9 (oE hT hM _ _ h hS) fun w hs=>Qf x is hV hp hn hN hw hs)
theorem LM {A:ay} {α:Type} {V:α→Value} {p:α→Prop} {A':α→ay} (hQ: ∀ D L C,LJ ⟨P,none,n,⟨A.wf,fun _=>True⟩,w0⟩ fn (MJ w0 A V p A') D L C→KJ ⟨P,none,n,⟨A.wf,fun _=>True⟩,w0⟩ K D L C) (x:α) (i:Nat) (hs:List Nat) (hM:MM C M) (h:wO TT M L fn.results.toList hs=some (vs,S)) (hw:(A' x).wr=true) (hC:C[i]? =some (A' x)) (hV:QG vs=V x) (hp:p x) (hS:qf S:=by repeat' exact True.intro) (hT:lX P TT:=by exact qK):KJ ⟨P,none,n,⟨A.wf,fun _=>True⟩,w0⟩ K [] L C:=
 hQ _ _ _ (j9 (oE hT hM _ _ h hS) fun w hs=>SU x i hV hp hC hw hs)
end
end
section
open Go.RowKit
def EK {α:Type _}:List α→List α→Option (List α)
 |[],m=>some m
 |a::l,m=>match EK l m with
  |some r=>some (a::r)
  |none=>none
theorem E0 {α:Type _}: ∀ {l m r:List α},EK l m=some r→l++m=r
 |[],m,r,h=>by cases h; rfl
 |a::l,m,r,h=>by
  unfold EK at h
  split at h
  ·rename_i r' hr
   cases h
   exact congrArg (a:: ·) (E0 hr)
  ·cases h
def TH (L:dG):List Nat→Option (dG)
 |[]=>some []
 |t::ts=>match L.lookup t with
  |some v=>match TH L ts with
   |some r=>some ((t,v)::r)
   |none=>none
  |none=>none
theorem Fg {L M:dG} (k:cR L M): ∀ {ts:List Nat} {r:dG},TH L ts=some r→cR L (r++M)
 |[],r,h=>by cases h; exact k
 |t::ts,r,h=>by
  unfold TH at h
  split at h
  ·rename_i v hv
   split at h
   ·rename_i r' hr
    cases h
    exact cR.cons hv (Fg k hr)
   ·cases h
  ·cases h
section
variable {E:fH} {Q:dv} {D:List Deferred} {L L0:List (Nat×Value)} {C C0:List ay} {ι:Type} {Li:ι→List (Nat×Value)} {Ci:ι→List ay}
theorem bP {c:Code} (kL kC:List Nat) (hL:TH L kL=some L0) (hC0:sR C kC=some C0) (S:ι→dG) (G:ι→List ay) (hLi: ∀ x,EK L0 (S x)=some (Li x)) (hCi: ∀ x,EK C0 (G x)=some (Ci x)) (μ:ι→Nat) (x0:ι)
 (h0:cR L (S x0)) (hC: ∀ w,St E.S E.w0 C w→St E.S E.w0 (Ci x0) w)
 (round: ∀ x (J:Act→World→Prop),(∀ y D' L' C',D'=D→μ y<μ x→cR L' (Li y)→(∀ w,St E.S E.w0 C' w→St E.S E.w0 (Ci y) w)→KJ E J D' L' C')→WJ E c (Exit.then J Q) D (Li x) (Ci x)):WJ E (.loop c) Q D L C:=
 P6 Li Ci μ x0 (E0 (hLi x0)▸Fg h0 hL) hC round
theorem oF {x y:Code} (kL kC:List Nat) (hL:TH L kL=some L0) (hC0:sR C kC=some C0) (S:ι→dG) (G:ι→List ay) (hLi: ∀ x,EK L0 (S x)=some (Li x)) (hCi: ∀ x,EK C0 (G x)=some (Ci x))
 (hy: ∀ z,WJ E y Q D (Li z) (Ci z)) (h: ∀ K:Act→World→Prop,(∀ z,KJ E K D (Li z) (Ci z))→WJ E x (Exit.then K Q) D L C):WJ E (.seq x y) Q D L C:=QF Li Ci hy h
end
end
section
open Go.RowKit
set_option linter.unusedSectionVars false
/-- what is asked of keys -/
structure vL (P:Program) (kt:Nat) {K:Type} (kV:K→Value):Prop where
 check: ∀ (e:Bool) (x:K) (w:World),(Instr.checkKey e 10000 kt (kV x)).run P w= .ok () w
 find: ∀ (x:K) (w:World) (es:List MapEntry),(∀ e∈es,∃ k,e.key=kV k)→
  ((Instr.findKey kt (kV x) es).run P w= .ok none w∧ ∀ e∈es,e.key≠kV x)∨ ∃ j e,(Instr.findKey kt (kV x) es).run P w= .ok (some (j,e.val)) w∧es[j]? =some e∧e.key=kV x
 bits: ∀ x,Instr.sameBits 10000 (kV x) (kV x)=true
 inj: ∀ x y,kV x=kV y→x=y
section
variable {K:Type} [DecidableEq K] {kV:K→Value}
def eD {β:Type} (l:List (K×β)) (x:K) (y:β):List (K×β):=if (l.lookup x).isSome then l.map (fun p=>if p.1=x then (x,y) else p) else l++[(x,y)]
def fz {β:Type} (l:List (K×β)) (x:K):List (K×β):=l.filter fun p=> !decide (p.1=x)
def cT {β γ:Type} (f:β→γ) (l:List (K×β)):List (K×γ):=l.map fun p=>(p.1,f p.2)
theorem nF {β γ:Type} (f:β→γ) (x:K): ∀ l:List (K×β),(cT f l).lookup x=(l.lookup x).map f
 |[]=>rfl
 |p::l=>by
  obtain ⟨k,v⟩:=p
  have ih:=nF f x l
  by_cases h:x=k
  ·subst h; simp [cT,List.lookup]
  ·have:(x==k)=false:=by simpa using h
   simp only [cT,List.map_cons,List.lookup,this] at ih ⊢
   exact ih
theorem gU {β γ:Type} (f:β→γ) (l:List (K×β)) (x:K) (y:β):cT f (eD l x y)=eD (cT f l) x (f y):=by
 unfold eD
 rw [nF,Option.isSome_map]
 split
 ·simp only [cT,List.map_map]
  refine List.map_congr_left fun p _=>?_
  simp only [Function.comp]
  split<;>rfl
 ·simp [cT]
theorem nY {β γ:Type} (f:β→γ) (l:List (K×β)) (x:K):cT f (fz l x)=fz (cT f l) x:=by
 unfold fz cT
 rw [List.filter_map]
 rfl
theorem iN {β:Type} {x:K}: ∀ {l:List (K×β)},l.lookup x=none↔ ∀ p∈l,p.1≠x
 |[]=>by simp
 |p::l=>by
  obtain ⟨k,v⟩:=p
  by_cases h:x=k
  ·subst h; simp [List.lookup]
  ·have hb:(x==k)=false:=by simpa using h
   simp only [List.lookup,hb,cm,forall_eq_or_imp]
   rw [iN (l:=l)]
   exact ⟨fun q=>⟨fun e=>h e.symm,q⟩,fun q=>q.2⟩
theorem lI {β:Type} {x:K} {y:β}: ∀ {l:List (K×β)},(l.map (·.1)).Nodup→((x,y)∈l↔l.lookup x=some y)
 |[],_=>by simp
 |p::l,hn=>by
  obtain ⟨k,v⟩:=p
  simp only [List.map_cons,List.nodup_cons] at hn
  by_cases h:x=k
  ·subst h
   simp only [List.lookup,beq_self_eq_true,cm,Prod.mk.injEq,true_and,Option.some.injEq]
   constructor
   ·rintro (e|e)
    ·exact e.symm
    ·exact absurd (db.2 ⟨_,e,U⟩) hn.1
   ·intro e; exact .inl e.symm
  ·have hb:(x==k)=false:=by simpa using h
   simp only [List.lookup,hb,cm,Prod.mk.injEq,h,false_and,false_or]
   exact lI hn.2
structure jC (kV:K→Value) (es:Array MapEntry) (c:Nat) (m:List (K×Value)):Prop where
 list:es.toList.map (fun (e:MapEntry)=>(e.key,e.val))=m.map (fun p=>(kV p.1,p.2))
 keys:(m.map (·.1)).Nodup
 PF: ∀ e∈es.toList,e.born<c
 born:(es.toList.map (·.born)).Nodup
def kx (kV:K→Value) (b:Nat) (m:List (K×Value)):ay where
 fO k:=k=b
 wf k:=k=b
 holds w:= ∃ es c,w.heap[b]? =some (.map es c)∧jC kV es c m
 wr:=true
 k9 _ h:=h
 whole _ _ h:=h
 lt w h k hk:=by obtain ⟨es,c,he,_⟩:=h; exact hk▸eB he
 pI w w' hk h:=by obtain ⟨es,c,he,hm⟩:=h; exact ⟨es,c,(hk b rfl).trans he,hm⟩
theorem jC.nil:jC kV #[] 0 []:=⟨rfl,List.nodup_nil,sm,List.nodup_nil⟩
theorem jC.size {es:Array MapEntry} {c:Nat} {m:List (K×Value)} (h:jC kV es c m):es.size=m.length:=by
 have:=congrArg List.length h.list
 simpa using this
theorem D7 {P:Program} {kt:Nat} (hk:vL P kt kV) (x:K): ∀ (es:List MapEntry) (m:List (K×Value)),es.map (fun (e:MapEntry)=>(e.key,e.val))=m.map (fun p=>(kV p.1,p.2))→
 ((∀ e∈es,e.key≠kV x)→m.lookup x=none)∧ ∀ (j:Nat) (e:MapEntry),es[j]? =some e→e.key=kV x→m[j]? =some (x,e.val):=by
 intro es m h
 refine ⟨fun hn=>iN.2 fun p hp e=>?_,fun j e he hx=>?_⟩
 ·have:(kV p.1,p.2)∈es.map (fun (e:MapEntry)=>(e.key,e.val)):=by rw [h]; exact db.2 ⟨p,hp,rfl⟩
  obtain ⟨z,hz,B⟩:=db.1 this
  simp only [Prod.mk.injEq] at B
  exact hn z hz (by rw [B.1,e])
 ·have A:(es.map (fun (e:MapEntry)=>(e.key,e.val)))[j]? =some (e.key,e.val):=by rw [fZ,he]; rfl
  rw [h,fZ] at A
  cases hm:m[j]? with
  |none=>simp [hm] at A
  |some p=>
   simp only [hm,Option.map_some,Option.some.injEq,Prod.mk.injEq] at A
   have:=hk.inj _ _ (A.1.trans hx)
   obtain ⟨k,v⟩:=p
   simp only at this A
   rw [this,A.2]
theorem pC {P:Program} {w:World} {kt:Nat} {x:K} {es:Array MapEntry} {c:Nat} {m:List (K×Value)} (hk:vL P kt kV) (h:jC kV es c m):
 ((Instr.findKey kt (kV x) es.toList).run P w= .ok none w∧m.lookup x=none)∨
 ∃ j v,(Instr.findKey kt (kV x) es.toList).run P w= .ok (some (j,v)) w∧m[j]? =some (x,v)∧m.lookup x=some v:=by
 obtain ⟨D,E⟩:=D7 hk x es.toList m h.list
 rcases hk.find x w es.toList (fun e he=>by
  have:(e.key,e.val)∈m.map (fun p=>(kV p.1,p.2)):=by rw [← h.list]; exact db.2 ⟨e,he,rfl⟩
  obtain ⟨p,_,hp⟩:=db.1 this
  simp only [Prod.mk.injEq] at hp
  exact ⟨p.1,hp.1.symm⟩) with ⟨A,B⟩|⟨j,e,A,B,C⟩
 ·exact .inl ⟨A,D B⟩
 ·have:=E j e B C
  exact .inr ⟨j,e.val,A,this,(lI h.keys).1 (aP this)⟩
theorem jn {P:Program} {w:World} {kt:Nat} {x:K} (hk:vL P kt kV) (e:Bool):(Instr.checkKey e 10000 kt (kV x)).run P w= .ok () w:=hk.check e x w
section
variable {E:fH} {ops:Array Oper} {Q:dv} {rest:List Oper} {D:List Deferred} {L:List (Nat×Value)} {C:List ay}
variable {dst:Option Tmp} {d:Nat} {ty:TypeId} {ps:String} {af:Array Edge} {g:Option (Nat×Bool)}
theorem mX {t:TypeId} (hg:ke ops L g=true) (hd:Nat.blt d E.n=true) (k: ∀ b,RJ E ops Q rest D ((d,.map (some b))::L) (kx kV b []::C)):RJ E ops Q (⟨some d,.makeMap t none,ty,ps,af,g⟩::rest) D L C:=by
 intro a w B hs
 have hd':d<E.n:=by rw [← Nat.blt_eq]; exact hd
 unfold tg
 rw [if_pos (eK B hg)]
 refine jg (v:= .map (some w.heap.size)) (w':=w.alloc (.map #[] 0)) sm ?_ ?_
 ·simp [execOp,Instr.makeMap,newObj,Sem.run]
 ·refine k _ _ _ (B.put hd' _) (hs.grow (dY.alloc no w _) (N:=[kx kV w.heap.size []]) ⟨fun A hA=>?_,fun A hA b hb=>?_,List.pairwise_singleton _ _⟩)
  ·simp at hA; subst hA; exact ⟨#[],0,heap_alloc_new w _,jC.nil⟩
  ·simp at hA; subst hA; exact Nat.le_of_eq (Eq.symm hb)
theorem jC.push {es:Array MapEntry} {c:Nat} {m:List (K×Value)} (h:jC kV es c m) {x:K} (hx:m.lookup x=none) (v:Value):jC kV (es.push {key:=kV x,val:=v,born:=c}) (c+1) (m++[(x,v)]):=by
 refine ⟨by simp [h.list],?_,?_,?_⟩
 ·rw [List.map_append,List.nodup_append]
  refine ⟨h.keys,sm,fun a ha b hb=>?_⟩
  simp at hb; subst hb
  obtain ⟨p,hp,rfl⟩:=db.1 ha
  exact iN.1 hx p hp
 ·intro e he
  simp only [Array.toList_push,gR,cH] at he
  rcases he with he|rfl
  ·exact Nat.lt_succ_of_lt (h.PF e he)
  ·exact Nat.lt_succ_self _
 ·simp only [Array.toList_push,List.map_append,List.map_cons,List.map_nil]
  rw [List.nodup_append]
  refine ⟨h.born,sm,fun a ha b hb=>?_⟩
  simp at hb; subst hb
  obtain ⟨p,hp,rfl⟩:=db.1 ha
  exact Nat.ne_of_lt (h.PF p hp)
theorem Nj {m:List (K×Value)} {j:Nat} {x:K} {v0 v:Value} (hn:(m.map (·.1)).Nodup) (hj:m[j]? =some (x,v0)):m.map (fun p=>if p.1=x then (x,v) else p)=m.set j (x,v):=by
 refine List.ext_getElem? fun i=>?_
 rw [fZ,List.getElem?_set]
 by_cases e:j=i
 ·subst e
  have hl:=(aZ.1 hj).1
  rw [hj]; simp [hl]
 ·rw [if_neg e]
  cases hi:m[i]? with
  |none=>rfl
  |some p=>
   simp only [Option.map_some]
   rw [if_neg]
   intro hp
   have B:(m.map (·.1))[i]? =some x:=by rw [fZ,hi]; simp [hp]
   have C:(m.map (·.1))[j]? =some x:=by rw [fZ,hj]; rfl
   have A:=(aZ.1 B).1
   exact e (((List.getElem?_inj A hn).1 (B.trans C.symm)).symm)
theorem jC.set {es:Array MapEntry} {c:Nat} {m:List (K×Value)} (h:jC kV es c m) {x:K} {j:Nat} {v0:Value} (hj:m[j]? =some (x,v0)) (hx:m.lookup x=some v0) (v:Value):
 jC kV (es.modify j fun e=>{e with key:=kV x,val:=v}) c (eD m x v):=by
 have C:eD m x v=m.set j (x,v):=by unfold eD; rw [hx]; simpa using Nj h.keys hj
 have hl:=(aZ.1 hj).1
 have E:=h.size
 have A:j<es.size:=by omega
 have B:(es.modify j fun e=>{e with key:=kV x,val:=v}).toList=es.toList.set j {(es[j]) with key:=kV x,val:=v}:=by
  refine List.ext_getElem? fun i=>?_
  rw [Array.getElem?_toList,Array.getElem?_modify,List.getElem?_set]
  by_cases e:j=i
  ·subst e; simp [A]
  ·simp [e]
 have D:(es.toList.set j {(es[j]) with key:=kV x,val:=v}).map (·.born)=es.toList.map (·.born):=by
  rw [List.map_set]
  refine List.ext_getElem? fun i=>?_
  rw [List.getElem?_set]
  by_cases e:j=i
  ·subst e; simp [A]
  ·rw [if_neg e]
 refine ⟨?_,?_,?_,?_⟩
 ·rw [B,C,List.map_set,List.map_set,h.list]
 ·rw [C,List.map_set]
  have:(m.map (·.1)).set j x=m.map (·.1):=by
   refine List.ext_getElem? fun i=>?_
   rw [List.getElem?_set]
   by_cases e:j=i
   ·subst e; simp [hl]; simpa using (congrArg Prod.fst ((aZ.1 hj).2)).symm
   ·rw [if_neg e]
  simp only [this]
  exact h.keys
 ·intro e he
  rw [B] at he
  have hb:e.born∈(es.toList.set j {(es[j]) with key:=kV x,val:=v}).map (·.born):=db.2 ⟨e,he,rfl⟩
  rw [D] at hb
  obtain ⟨e',he',hq⟩:=db.1 hb
  rw [← hq]; exact h.PF e' he'
 ·rw [B,D]; exact h.born
/-- m[x] = y -/
theorem jf {t kt et:TypeId} {xm xk xv:Operand} {b:Nat} {x:K} {v:Value} {m m':List (K×Value)} {C':List ay} (i:Nat) (hg:ke ops L g=true) (hm:ev L xm=some (.map (some b))) (hk:ev L xk=some (kV x)) (hv:ev L xv=some v)
 (ht:E.P.underlying t=some (.map kt et)) (hkt:vL E.P kt kV) (hC:C[i]? =some (kx kV b m)) (hm':eD m x v=m') (hC':C.set i (kx kV b m')=C') (k:RJ E ops Q rest D L C'):
 RJ E ops Q (⟨none,.mapUpdate t xm xk xv,ty,ps,af,g⟩::rest) D L C:=by
 subst hm' hC'
 intro a w A hs
 unfold tg
 rw [if_pos (eK A hg)]
 obtain ⟨es,c,he,hi⟩:=hs.holds _ (aP hC)
 have B:(getObj b).run E.P w= .ok (.map es c) w:=MapKept.run_getObj_map he
 rcases pC (P:=E.P) (w:=w) (x:=x) hkt hi with ⟨AA,F⟩|⟨j,N,AA,F,J⟩
 ·refine sN (w':={w with heap:=w.heap.setIfInBounds b (.map (es.push {key:=kV x,val:=v,born:=c}) (c+1))}) sm ?_ ?_
  ·simp [execOp,A.ev hm,A.ev hk,A.ev hv,Instr.mapUpdate,run_underlying ht,B,jn hkt,AA,MapKept.run_setObj_map _ he]
  ·refine k _ _ ⟨A.defers,A.size,A.at_⟩ (hs.As (b:=b) i hC U U (nN _) (fun _ h=>h) ⟨_,_,pU he,?_⟩)
   have:eD m x v=m++[(x,v)]:=by unfold eD; rw [F]; rfl
   rw [this]; exact hi.push F v
 ·have M:=hi.size
  have G:j<es.size:=by have:=(aZ.1 F).1; omega
  have H:(es[j]).key=kV x:=by
   have:=congrArg (fun l=>l[j]?) hi.list
   simp [G,F] at this
   exact this.1
  refine sN (w':={w with heap:=w.heap.setIfInBounds b (.map (es.modify j fun e=>{e with key:=kV x,val:=v}) c)}) sm ?_ ?_
  ·simp [execOp,A.ev hm,A.ev hk,A.ev hv,Instr.mapUpdate,run_underlying ht,B,jn hkt,AA,MapKept.run_setObj_map _ he,Instr.keyThatStays,G,H,hkt.bits x]
  ·exact k _ _ ⟨A.defers,A.size,A.at_⟩ (hs.As (b:=b) i hC U U (nN _) (fun _ h=>h) ⟨_,_,pU he,hi.set F J v⟩)
theorem jC.del {es:Array MapEntry} {c:Nat} {m:List (K×Value)} (h:jC kV es c m) {x:K} {j:Nat} {v0:Value} (hj:m[j]? =some (x,v0)):jC kV (es.eraseIdxIfInBounds j) c (fz m x):=by
 have hl:=(aZ.1 hj).1
 have D:=h.size
 have A:j<es.size:=by omega
 have B:(es.eraseIdxIfInBounds j).toList=es.toList.eraseIdx j:=by simp [Array.eraseIdxIfInBounds,A]
 have E:fz m x=m.eraseIdx j:=by
  have hn:=h.keys
  clear h D A B
  induction m generalizing j with
  |nil=>simp at hj
  |cons p m ih=>
   obtain ⟨k,v⟩:=p
   simp only [List.map_cons,List.nodup_cons] at hn
   cases j with
   |zero=>
    simp at hj
    obtain ⟨rfl,rfl⟩:=hj
    simp only [fz,List.eraseIdx_zero,List.tail_cons]
    rw [List.filter_cons_of_neg sm]
    refine List.filter_eq_self.2 fun p hp=>?_
    have:p.1≠k:=fun e=>hn.1 (db.2 ⟨p,hp,e⟩)
    simpa using this
   |succ j=>
    simp only [List.getElem?_cons_succ] at hj
    have C:k≠x:=fun e=>hn.1 (db.2 ⟨_,aP hj,e.symm⟩)
    simp only [fz,List.eraseIdx_cons_succ] at ih ⊢
    rw [List.filter_cons_of_pos (by simpa using C),ih hj (by simpa using (aZ.1 hj).1) hn.2]
 have sub:(es.eraseIdxIfInBounds j).toList.Sublist es.toList:=by rw [B]; exact List.eraseIdx_sublist _ _
 refine ⟨?_,?_,fun e he=>h.PF e (sub.subset he),h.born.sublist (sub.map _)⟩
 ·rw [B,E,ChangeMaps.map_eraseIdx,ChangeMaps.map_eraseIdx,h.list]
 ·rw [E]; exact h.keys.sublist ((List.eraseIdx_sublist _ _).map _)
theorem EE {m:List (K×Value)} {x:K} (h:m.lookup x=none):fz m x=m:=List.filter_eq_self.2 fun p hp=>by simpa using iN.1 h p hp
/-- y, ok := m[x] -/
theorem IC {t kt et:TypeId} {xm xk:Operand} {b:Nat} {x:K} {z:Value} {m:List (K×Value)} (hg:ke ops L g=true) (hm:ev L xm=some (.map (some b))) (hk:ev L xk=some (kV x))
 (ht:E.P.underlying t=some (.map kt et)) (hkt:vL E.P kt kV) (hz:tV E.P et=some z) (hC:g9 C (kx kV b m).holds):
 SD E ops ⟨dst,.lookup t xm xk true,ty,ps,af,g⟩ D L C (.tuple [(m.lookup x).getD z,.bool (m.lookup x).isSome].toArray):=
 eM hg sm fun a w A hs=>by
  obtain ⟨es,c,he,hi⟩:=hs.has hC
  have B:(getObj b).run E.P w= .ok (.map es c) w:=MapKept.run_getObj_map he
  rcases pC (P:=E.P) (w:=w) (x:=x) hkt hi with ⟨F,G⟩|⟨j,AA,F,G,H⟩
  ·simp [execOp,Instr.lookup,A.ev hm,A.ev hk,run_underlying ht,B,jn hkt,F,G,Jn hz]
  ·simp [execOp,Instr.lookup,A.ev hm,A.ev hk,run_underlying ht,B,jn hkt,F,H]
/-- m[x] -/
theorem GW {t kt et:TypeId} {xm xk:Operand} {b:Nat} {x:K} {z:Value} {m:List (K×Value)} (hg:ke ops L g=true) (hm:ev L xm=some (.map (some b))) (hk:ev L xk=some (kV x))
 (ht:E.P.underlying t=some (.map kt et)) (hkt:vL E.P kt kV) (hz:tV E.P et=some z) (hC:g9 C (kx kV b m).holds):
 SD E ops ⟨dst,.lookup t xm xk false,ty,ps,af,g⟩ D L C ((m.lookup x).getD z):=
 eM hg sm fun a w A hs=>by
  obtain ⟨es,c,he,hi⟩:=hs.has hC
  have B:(getObj b).run E.P w= .ok (.map es c) w:=MapKept.run_getObj_map he
  rcases pC (P:=E.P) (w:=w) (x:=x) hkt hi with ⟨F,G⟩|⟨j,AA,F,G,H⟩
  ·simp [execOp,Instr.lookup,A.ev hm,A.ev hk,run_underlying ht,B,jn hkt,F,G,Jn hz]
  ·simp [execOp,Instr.lookup,A.ev hm,A.ev hk,run_underlying ht,B,jn hkt,F,H]
theorem tM {β:Type} {t kt et:TypeId} {xm xk:Operand} {b:Nat} {x:K} {f:β→Value} {z:β} {l:List (K×β)} (hg:ke ops L g=true) (hm:ev L xm=some (.map (some b))) (hk:ev L xk=some (kV x))
 (ht:E.P.underlying t=some (.map kt et)) (hkt:vL E.P kt kV) (hz:tV E.P et=some (f z)) (hC:g9 C (kx kV b (cT f l)).holds):
 SD E ops ⟨dst,.lookup t xm xk true,ty,ps,af,g⟩ D L C (.tuple [f ((l.lookup x).getD z),.bool (l.lookup x).isSome].toArray):=by
 have:=IC (dst:=dst) (ty:=ty) (ps:=ps) (af:=af) (D:=D) hg hm hk ht hkt hz hC
 rw [nF] at this
 have A:((l.lookup x).map f).getD (f z)=f ((l.lookup x).getD z):=by cases l.lookup x<;>rfl
 rw [A,Option.isSome_map] at this
 exact this
theorem wE {β:Type} {t kt et:TypeId} {xm xk:Operand} {b:Nat} {x:K} {f:β→Value} {z:β} {l:List (K×β)} (hg:ke ops L g=true) (hm:ev L xm=some (.map (some b))) (hk:ev L xk=some (kV x))
 (ht:E.P.underlying t=some (.map kt et)) (hkt:vL E.P kt kV) (hz:tV E.P et=some (f z)) (hC:g9 C (kx kV b (cT f l)).holds):
 SD E ops ⟨dst,.lookup t xm xk false,ty,ps,af,g⟩ D L C (f ((l.lookup x).getD z)):=by
 have:=GW (dst:=dst) (ty:=ty) (ps:=ps) (af:=af) (D:=D) hg hm hk ht hkt hz hC
 rw [nF] at this
 have A:((l.lookup x).map f).getD (f z)=f ((l.lookup x).getD z):=by cases l.lookup x<;>rfl
 rw [A] at this
 exact this
end
theorem mW {β:Type} {x:K} {y:β} {l:List (K×β)} (h:(x,y)∈l):(fz l x).length<l.length:=by
 unfold fz
 exact List.length_filter_lt_length_iff_exists.2 ⟨_,h,sm⟩
theorem zx {β:Type} {x:K} {p:K×β} {l:List (K×β)}:p∈fz l x↔p∈l∧p.1≠x:=by simp [fz]
/-- an iterator over a map: what is left; what came last -/
def Ap (kV:K→Value) (r b:Nat) (m left:List (K×Value)) (cur:Option (K×Value)):ay where
 fO k:=k=r∨k=b
 wf k:=k=r∨k=b
 holds w:=r≠b∧ ∃ (es:Array MapEntry) (c since:Nat) (seen:Array Nat) (st:Nat),w.heap[b]? =some (.map es c)∧jC kV es c m∧w.heap[r]? =some (.mapIter (some b) since seen st)∧(∀ e∈es.toList,e.born<since)∧since≤st∧since≤c∧
  (leftOf es seen).toList.map (fun (e:MapEntry)=>(e.key,e.val))=left.map (fun p=>(kV p.1,p.2))∧
  ∀ p,cur=some p→ ∃ (e:MapEntry) (seen0:Array Nat),e∈es.toList∧seen=seen0.push e.born∧st=c∧e.key=kV p.1∧e.val=p.2
 wr:=true
 k9 _ h:=h
 whole _ _ h:=h
 lt w h k hk:=by
  obtain ⟨_,es,c,since,seen,st,h1,_,h2,_⟩:=h
  rcases hk with rfl|rfl
  ·exact eB h2
  ·exact eB h1
 pI w w' hk h:=by
  obtain ⟨hne,es,c,since,seen,st,h1,h2,h3,h4⟩:=h
  exact ⟨hne,es,c,since,seen,st,(hk b (.inr rfl)).trans h1,h2,(hk r (.inl rfl)).trans h3,h4⟩
theorem Bz {r b:Nat} {m left:List (K×Value)} {cur:Option (K×Value)}:(∀ w,(Ap kV r b m left cur).holds w→(Ap kV r b m left none).holds w)∧(∀ k,(Ap kV r b m left none).fO k→(Ap kV r b m left cur).fO k)∧ ∀ k,(Ap kV r b m left none).wf k→(Ap kV r b m left cur).wf k:=
 ⟨fun w h=>by
  obtain ⟨A,es,c,since,seen,st,B,C,D,E,F,h5',G,_⟩:=h
  exact ⟨A,es,c,since,seen,st,B,C,D,E,F,h5',G,fun p hp=>by cases hp⟩,fun _ h=>h,fun _ h=>h⟩
theorem Ll {r b:Nat} {m left:List (K×Value)} {cur:Option (K×Value)}:(∀ w,(Ap kV r b m left cur).holds w→(kx kV b m).holds w)∧(∀ k,(kx kV b m).fO k→(Ap kV r b m left cur).fO k)∧ ∀ k,(kx kV b m).wf k→(Ap kV r b m left cur).wf k:=
 ⟨fun w h=>by
  obtain ⟨C,es,c,since,seen,st,A,B,_⟩:=h
  exact ⟨es,c,A,B⟩,fun _ h=> .inr h,fun _ h=> .inr h⟩
theorem Bw {es:Array MapEntry} {c:Nat} {m:List (K×Value)} (hinj: ∀ x y,kV x=kV y→x=y) (hi:jC kV es c m) {x y:MapEntry} (hx:x∈es.toList) (hy:y∈es.toList) (e:x.key=y.key):x=y:=by
 have hk:(es.toList.map (·.key))=(m.map (·.1)).map kV:=by
  have:=congrArg (List.map Prod.fst) hi.list
  simpa [Function.comp_def] using this
 have h:(es.toList.map (·.key)).Nodup:=by
  rw [hk,List.nodup_iff_pairwise_ne,List.pairwise_map]
  exact hi.keys.imp (fun B he=>B (hinj _ _ he))
 obtain ⟨i,A⟩:=List.getElem?_of_mem hx
 obtain ⟨j,hj⟩:=List.getElem?_of_mem hy
 have C:(es.toList.map (·.key))[i]? =some x.key:=by rw [fZ,A]; rfl
 have D:(es.toList.map (·.key))[j]? =some x.key:=by rw [fZ,hj,e]; rfl
 have E:=(List.getElem?_inj (aZ.1 C).1 h).1 (C.trans D.symm)
 subst E
 exact Option.some.inj (A.symm.trans hj)
section
variable {E:fH} {ops:Array Oper} {Q:dv} {rest:List Oper} {D:List Deferred} {L:List (Nat×Value)} {C:List ay}
variable {dst:Option Tmp} {d:Nat} {ty:TypeId} {ps:String} {af:Array Edge} {g:Option (Nat×Bool)}
theorem zh {t kt et:TypeId} {xm:Operand} {b:Nat} {m:List (K×Value)} (i:Nat) (hg:ke ops L g=true) (hm:ev L xm=some (.map (some b))) (ht:E.P.underlying t=some (.map kt et)) (hC:C[i]? =some (kx kV b m)) (hd:Nat.blt d E.n=true)
 (k: ∀ r,RJ E ops Q rest D ((d,.pointer (some ⟨r,0,none⟩))::L) (C.set i (Ap kV r b m m none))):RJ E ops Q (⟨some d,.range t xm,ty,ps,af,g⟩::rest) D L C:=by
 intro a w A hs
 have hd':d<E.n:=by rw [← Nat.blt_eq]; exact hd
 unfold tg
 rw [if_pos (eK A hg)]
 obtain ⟨es,c,he,hi⟩:=hs.holds _ (aP hC)
 have F:b<w.heap.size:=eB he
 have B:(getObj b).run E.P w= .ok (.map es c) w:=MapKept.run_getObj_map he
 refine jg (v:= .pointer (some ⟨w.heap.size,0,none⟩)) (w':=w.alloc (.mapIter (some b) c #[] c)) sm ?_ ?_
 ·simp [execOp,Instr.range,A.ev hm,run_underlying ht,B,newObj,Sem.run]
 ·refine k _ _ _ (A.put hd' _) (hs.mv i hC ⟨⟨om,es,c,c,#[],c,?_,hi,heap_alloc_new w _,hi.PF,Nat.le_refl _,Nat.le_refl _,?_,fun p hp=>by cases hp⟩,dY.alloc _ w _,fun q hq=>?_,fun q hq=>?_⟩)
  ·rw [Below.heap_alloc w _ b F]; exact he
  ·have:leftOf es #[]=es:=by unfold leftOf; exact Array.filter_eq_self.2 sm
   rw [this]; exact hi.list
  ·rcases hq with rfl|rfl
   ·exact .inr (Nat.le_refl _)
   ·exact .inl U
  ·rcases hq with rfl|rfl
   ·exact .inr (Nat.le_refl _)
   ·exact .inl U
theorem xd {es:Array MapEntry} {c:Nat} {m left:List (K×Value)} {seen:Array Nat} (hinj: ∀ x y,kV x=kV y→x=y) (hi:jC kV es c m) (h:(leftOf es seen).toList.map (fun (e:MapEntry)=>(e.key,e.val))=left.map (fun p=>(kV p.1,p.2))):(left.map (·.1)).Nodup:=by
 have B:((leftOf es seen).toList.map (·.key)).Sublist (es.toList.map (·.key)):=by
  unfold leftOf; rw [Array.toList_filter]; exact List.filter_sublist.map _
 have D:(es.toList.map (·.key))=(m.map (·.1)).map kV:=by
  have:=congrArg (List.map Prod.fst) hi.list
  simpa [Function.comp_def] using this
 have E:((leftOf es seen).toList.map (·.key))=(left.map (·.1)).map kV:=by
  have:=congrArg (List.map Prod.fst) h
  simpa [Function.comp_def] using this
 rw [D,E] at B
 have F:((m.map (·.1)).map kV).Nodup:=by
  rw [List.nodup_iff_pairwise_ne,List.pairwise_map]
  exact hi.keys.imp (fun A he=>A (hinj _ _ he))
 have C:=F.sublist B
 rw [List.nodup_iff_pairwise_ne,List.pairwise_map] at C
 rw [List.nodup_iff_pairwise_ne]
 exact C.imp (fun A he=>A (by rw [he]))
theorem J_ (hinj: ∀ x y,kV x=kV y→x=y) {xi:Operand} {r b:Nat} {m left:List (K×Value)} {cur:Option (K×Value)} (i:Nat) (hg:ke ops L g=true) (hm:ev L xi=some (.pointer (some ⟨r,0,none⟩))) (hC:C[i]? =some (Ap kV r b m left cur)) (hd:Nat.blt d E.n=true)
 (k0:left=[]→RJ E ops Q rest D ((d,.tuple [.bool false].toArray)::L) C)
 (k1: ∀ x v,(x,v)∈left→(left.map (·.1)).Nodup→RJ E ops Q rest D ((d,.tuple [.bool true,kV x,v].toArray)::L) (C.set i (Ap kV r b m (fz left x) (some (x,v))))):
 RJ E ops Q (⟨some d,.next xi false,ty,ps,af,g⟩::rest) D L C:=by
 intro a w G hs
 have hd':d<E.n:=by rw [← Nat.blt_eq]; exact hd
 unfold tg
 rw [if_pos (eK G hg)]
 obtain ⟨R,es,c,since,seen,st,X,hi,Y,J,V,M,A,_⟩:=hs.holds _ (aP hC)
 rcases run_next_at (P:=E.P) w ty r b since st seen es c Y X J V with ⟨Z,hr⟩|⟨e,he,N,H,hr⟩
 ·refine jg (v:= .tuple #[.bool false]) (w':=w) sm ?_ ?_
  ·simp [execOp,G.ev hm,hr]
  ·refine k0 ?_ _ _ (G.put hd' _) hs
   have:(leftOf es seen).toList=[]:=by rw [← List.length_eq_zero_iff,Array.length_toList]; exact Z
   rw [this] at A
   exact List.map_eq_nil_iff.1 A.symm
 ·have O:(e.key,e.val)∈left.map (fun p=>(kV p.1,p.2)):=by rw [← A]; exact db.2 ⟨e,he,rfl⟩
  obtain ⟨p,hp,S⟩:=db.1 O
  obtain ⟨x,v⟩:=p
  simp only [Prod.mk.injEq] at S
  obtain ⟨hk,hv⟩:=S
  refine jg (v:= .tuple #[.bool true,e.key,e.val]) (w':=ChangeMaps.setBlock N r (.mapIter (some b) since (seen.push e.born) c)) sm ?_ ?_
  ·simp [execOp,G.ev hm,hr]
  ·rw [← hk,← hv]
   have AA:=xd hinj hi A
   have F:e∈es.toList:=by unfold leftOf at he; rw [Array.toList_filter] at he; exact (List.mem_filter.1 he).1
   have f:c=c:=rfl
   have B:N.heap=w.heap:=by rcases H with rfl|rfl<;>rfl
   refine k1 x v hp AA _ _ (G.put hd' _) (hs.mv i hC ⟨⟨R,es,c,since,seen.push e.born,c,?_,hi,?_,J,M,M,?_,fun q hq=>?_⟩,?_,fun q hq=> .inl hq,fun q hq=> .inl hq⟩)
   ·show (N.heap.setIfInBounds r _)[b]? =_
    rw [Array.getElem?_setIfInBounds_ne R,B]; exact X
   ·show (N.heap.setIfInBounds r _)[r]? =_
    rw [Array.getElem?_setIfInBounds_self_of_lt (by rw [B]; exact eB Y)]
   ·have T:leftOf es (seen.push e.born)=(leftOf es seen).filter (fun z=> !(z.born==e.born)):=by
     unfold leftOf
     rw [Array.filter_filter]
     congr 1
     funext z
     simp only [Array.contains_push,Bool.not_or]
     rw [Bool.and_comm]
    rw [T,Array.toList_filter]
    have key: ∀ (l:List MapEntry) (ll:List (K×Value)),(∀ z∈l,z∈es.toList)→l.map (fun (e:MapEntry)=>(e.key,e.val))=ll.map (fun p=>(kV p.1,p.2))→
     (l.filter (fun z=> !(z.born==e.born))).map (fun (e:MapEntry)=>(e.key,e.val))=(fz ll x).map (fun p=>(kV p.1,p.2)):=by
     intro l
     induction l with
     |nil=>intro ll _ h; cases ll with
      |nil=>rfl
      |cons p ll=>simp at h
     |cons z l ih=>
      intro ll hz h
      cases ll with
      |nil=>simp at h
      |cons p ll=>
       simp only [List.map_cons,List.cons.injEq,Prod.mk.injEq] at h
       have ih':=ih ll (fun y hy=>hz y (by simp [hy])) h.2
       have AB:(z.born=e.born)↔(p.1=x):=by
        constructor
        ·intro hb
         have:z=e:=Dp hi.born (hz z sm) F hb
         rw [this] at h
         have:=h.1.1.symm.trans hk.symm
         exact hinj _ _ this
        ·intro hx
         have W:z.key=e.key:=by rw [h.1.1,hx,hk]
         rw [Bw hinj hi (hz z sm) F W]
       unfold fz at ih' ⊢
       by_cases hx:p.1=x
       ·rw [List.filter_cons_of_neg (by simp [AB.2 hx]),List.filter_cons_of_neg (by simp [hx])]; exact ih'
       ·rw [List.filter_cons_of_pos (by simpa using fun hb=>hx (AB.1 hb)),List.filter_cons_of_pos (by simpa using hx)]
        simp only [List.map_cons,h.1.1,h.1.2,ih']
    exact key _ _ (fun z hz=>by unfold leftOf at hz; rw [Array.toList_filter] at hz; exact (List.mem_filter.1 hz).1) A
   ·cases hq
    exact ⟨e,seen,F,U,U,hk.symm,hv.symm⟩
   ·refine ⟨?_,?_,?_,?_,fun q hq hn=>?_⟩
    ·rcases H with rfl|rfl<;>rfl
    ·rcases H with rfl|rfl<;>rfl
    ·rcases H with rfl|rfl<;>rfl
    ·show w.heap.size≤(N.heap.setIfInBounds r _).size
     simp [B]
    ·show (N.heap.setIfInBounds r _)[q]? =_
     rw [Array.getElem?_setIfInBounds_ne (fun e=>hn (.inl e.symm)),B]
theorem yO {xi:Operand} {r b:Nat} {m left:List (K×Value)} {x:K} {v:Value} (i:Nat) (hg:ke ops L g=true) (hm:ev L xi=some (.pointer (some ⟨r,0,none⟩))) (hC:C[i]? =some (Ap kV r b m left (some (x,v)))):
 SD E ops ⟨dst,.entry xi,ty,ps,af,g⟩ D L C (.tuple [kV x,v].toArray):=
 eM hg sm fun a w F hs=>by
  obtain ⟨N,es,c,since,seen,st,J,hi,M,H,O,AA,G,B⟩:=hs.holds _ (aP hC)
  obtain ⟨e,A,he,rfl,rfl,hk,hv⟩:=B _ rfl
  have:=run_entry_at (P:=E.P) w r b since A es st e M J he hi.born
  simp [execOp,F.ev hm,this,hk,hv]
theorem yo (hinj: ∀ x y,kV x=kV y→x=y) {β:Type} {f:β→Value} {xi:Operand} {r b:Nat} {m:List (K×Value)} {ll:List (K×β)} {cur:Option (K×Value)} (i:Nat) (hg:ke ops L g=true) (hm:ev L xi=some (.pointer (some ⟨r,0,none⟩))) (hC:C[i]? =some (Ap kV r b m (cT f ll) cur)) (hd:Nat.blt d E.n=true)
 (k0:ll=[]→RJ E ops Q rest D ((d,.tuple [.bool false].toArray)::L) C)
 (k1: ∀ x y,(x,y)∈ll→(ll.map (·.1)).Nodup→RJ E ops Q rest D ((d,.tuple [.bool true,kV x,f y].toArray)::L) (C.set i (Ap kV r b m (cT f (fz ll x)) (some (x,f y))))):
 RJ E ops Q (⟨some d,.next xi false,ty,ps,af,g⟩::rest) D L C:=by
 refine J_ hinj i hg hm hC hd (fun h=>k0 (List.map_eq_nil_iff.1 h)) (fun x v B hn=>?_)
 obtain ⟨p,hp,A⟩:=db.1 B
 simp only [Prod.mk.injEq] at A
 obtain ⟨rfl,rfl⟩:=A
 have:=k1 p.1 p.2 hp (by simpa [cT,Function.comp_def] using hn)
 rwa [nY] at this
end
end
end
section
structure cp where
 Start:Int
 gL:Int
 qO:List Int
 z6:List (List (Int×ai))
 cU:Int
 ew:Int
 Ve:Int
def cp.n (w:cp):Nat:=w.qO.length
def gE (s:Int):aQ:=if s<0 then ⟨0,1⟩ else ⟨1,0⟩
def dR (a b:aQ):aQ:=⟨a.right+b.right,a.fB+b.fB⟩
def wX (w:cp) (b:Nat):List (Int×ai):=(w.z6[b]?).getD []
def jZ (w:cp) (b:Nat):List (Int×ai):=(-1,⟨w.Start,w.gL⟩)::wX w b
def cY (w:cp) (b:Nat):Int:=(w.qO[b]?).getD 0
def nj (w:cp) (b:Nat) (p:aQ×Int) (o:Int×ai):Option (aQ×Int):=if max (p.2+cY w b) o.2.Lo≤min o.2.Hi w.gL then some (dR p.1 (gE o.1),max (p.2+cY w b) o.2.Lo) else none
def pW (w:cp):Nat→List (aQ×Int)
 |0=>[(⟨0,0⟩,w.Start)]
 |b+1=>(pW w b).flatMap fun p=>(jZ w b).filterMap (nj w b p)
def pO (w:cp) (b:Nat) (p:aQ×Int) (o:Int×ai):Option (aQ×Int):=if o.2.Lo≤min p.2 o.2.Hi then some (dR p.1 (gE o.1),min p.2 o.2.Hi-cY w b) else none
def NW (w:cp):Nat→List (aQ×Int)
 |0=>[(⟨0,0⟩,w.gL)]
 |k+1=>(⟨0,0⟩,w.gL)::(NW w k).flatMap fun p=>(jZ w (w.n-(k+1))).filterMap (pO w (w.n-(k+1)) p)
def back (w:cp) (b:Nat):List (aQ×Int):=NW w (w.n-b)
def nm (w:cp) (t:aQ):Bool:=decide (t.fB≤w.cU∧w.Ve-t.right≤w.ew)
theorem kD {w:cp} {b:Nat} {q:aQ×Int}:q∈pW w (b+1)↔ ∃ p∈pW w b,∃ o∈jZ w b,nj w b p o=some q:=by
 simp only [pW,List.mem_flatMap,List.mem_filterMap]
theorem vk {w:cp} {b:Nat} (h:w.n≤b):back w b=[(⟨0,0⟩,w.gL)]:=by
 unfold back; rw [Nat.sub_eq_zero_of_le h]; rfl
theorem pd {w:cp} {b:Nat} (h:b<w.n) {q:aQ×Int}:q∈back w b↔q=(⟨0,0⟩,w.gL)∨ ∃ p∈back w (b+1),∃ o∈jZ w b,pO w b p o=some q:=by
 unfold back
 have e:w.n-b=(w.n-(b+1))+1:=by omega
 rw [e]
 simp only [NW,cm,List.mem_flatMap,List.mem_filterMap]
 rw [show w.n-(w.n-(b+1)+1)=b by omega]
def vd (m c:List (aQ×Int)):Prop:=(∀ t v,m.lookup t=some v→(t,v)∈c)∧ ∀ t y,(t,y)∈c→ ∃ v,m.lookup t=some v∧v≤y
def wD (m c:List (aQ×Int)):Prop:=(∀ t v,m.lookup t=some v→(t,v)∈c)∧ ∀ t y,(t,y)∈c→ ∃ v,m.lookup t=some v∧y≤v
def wm (m c:List (aQ×Int)):Prop:= ∀ t v,m.lookup t=some v→(t,v)∈c
theorem l0 {K β:Type} [DecidableEq K] {m:List (K×β)} {x t:K} {y:β}:(eD m x y).lookup t=if t=x then some y else m.lookup t:=by
 unfold eD
 by_cases hx:(m.lookup x).isSome
 ·rw [if_pos hx]
  have key: ∀ l:List (K×β),(l.lookup x).isSome∨True→(l.map (fun p=>if p.1=x then (x,y) else p)).lookup t=if t=x then (if (l.lookup x).isSome then some y else none) else l.lookup t:=by
   intro l _
   induction l with
   |nil=>simp
   |cons p l ih=>
    obtain ⟨k,v⟩:=p
    have ih:=ih (.inr trivial)
    by_cases hk:k=x
    ·subst hk
     by_cases ht:t=k
     ·subst ht; simp [List.lookup]
     ·have:(t==k)=false:=by simpa using ht
      simp only [List.map_cons,if_true,List.lookup,this,ih,if_neg ht]
    ·have hk':(x==k)=false:=by simpa using fun e=>hk e.symm
     by_cases ht:t=k
     ·subst ht; simp [List.lookup,hk]
     ·have A:(t==k)=false:=by simpa using ht
      simp only [List.map_cons,if_neg hk,List.lookup,A,ih,hk']
  rw [key m (.inr trivial)]
  by_cases ht:t=x
  ·subst ht
   rw [if_pos rfl,if_pos rfl,if_pos hx]
  ·rw [if_neg ht,if_neg ht]
 ·rw [if_neg hx]
  have hn:m.lookup x=none:=by cases h0:m.lookup x with
   |none=>rfl
   |some v=>exact absurd (by rw [h0]; rfl) hx
  by_cases ht:t=x
  ·subst ht
   rw [if_pos rfl]
   have:=iN.1 hn
   clear hn hx
   induction m with
   |nil=>simp
   |cons p m ih=>
    obtain ⟨k,v⟩:=p
    have hk:(t==k)=false:=by simpa using fun e=>this (k,v) sm e.symm
    simp only [List.cons_append,List.lookup,hk]
    exact ih (fun q hq=>this q (dH _ hq))
  ·rw [if_neg ht]
   clear hn hx
   induction m with
   |nil=>
    have:(t==x)=false:=by simpa using ht
    simp [List.lookup,this]
   |cons p m ih=>
    obtain ⟨k,v⟩:=p
    by_cases hk:t=k
    ·subst hk; simp [List.lookup]
    ·have:(t==k)=false:=by simpa using hk
     simp only [List.cons_append,List.lookup,this]
     exact ih
/-- what a map is after a try -/
def pT (m:List (aQ×Int)) (q:aQ×Int):List (aQ×Int):=match m.lookup q.1 with
 |none=>eD m q.1 q.2
 |some v=>if q.2<v then eD m q.1 q.2 else m
def pg (m:List (aQ×Int)) (q:aQ×Int):List (aQ×Int):=match m.lookup q.1 with
 |none=>eD m q.1 q.2
 |some v=>if v<q.2 then eD m q.1 q.2 else m
theorem xA {m:List (aQ×Int)} {q:aQ×Int} {t:aQ}:(pT m q).lookup t=if t=q.1 then some (match m.lookup q.1 with |none=>q.2|some v=>min q.2 v) else m.lookup t:=by
 unfold pT
 cases h:m.lookup q.1 with
 |none=>simp only; rw [l0]
 |some v=>
  simp only
  split
  ·rename_i A
   rw [l0,Int.min_eq_left om]
  ·rename_i A
   split
   ·rename_i e; subst e; rw [h,Int.min_eq_right om]
   ·rfl
theorem xn {m:List (aQ×Int)} {q:aQ×Int} {t:aQ}:(pg m q).lookup t=if t=q.1 then some (match m.lookup q.1 with |none=>q.2|some v=>max q.2 v) else m.lookup t:=by
 unfold pg
 cases h:m.lookup q.1 with
 |none=>simp only; rw [l0]
 |some v=>
  simp only
  split
  ·rename_i A
   rw [l0,Int.max_eq_left om]
  ·rename_i A
   split
   ·rename_i e; subst e; rw [h,Int.max_eq_right om]
   ·rfl
def yd (m m':List (aQ×Int)):Prop:= ∀ t v,m.lookup t=some v→ ∃ v',m'.lookup t=some v'∧v'≤v
def xV (m m':List (aQ×Int)):Prop:= ∀ t v,m.lookup t=some v→ ∃ v',m'.lookup t=some v'∧v≤v'
theorem yd.refl (m:List (aQ×Int)):yd m m:=fun t v h=>⟨v,h,om⟩
theorem xV.refl (m:List (aQ×Int)):xV m m:=fun t v h=>⟨v,h,om⟩
theorem wq {m:List (aQ×Int)} {q:aQ×Int}:yd m (pT m q):=fun t v h=>by
 rw [xA]
 split
 ·rename_i e; subst e; rw [h]; exact ⟨_,rfl,by simp only; omega⟩
 ·exact ⟨v,h,om⟩
theorem rR {m:List (aQ×Int)} {q:aQ×Int}:xV m (pg m q):=fun t v h=>by
 rw [xn]
 split
 ·rename_i e; subst e; rw [h]; exact ⟨_,rfl,by simp only; omega⟩
 ·exact ⟨v,h,om⟩
theorem HP {m c:List (aQ×Int)} {q:aQ×Int} (h:wm m c) (hq:q∈c):wm (pT m q) c:=fun t v hv=>by
 rw [xA] at hv
 split at hv
 ·rename_i e
  subst e
  cases hm:m.lookup q.1 with
  |none=>simp only [hm,Option.some.injEq] at hv; subst hv; exact hq
  |some x=>
   simp only [hm,Option.some.injEq] at hv; subst hv
   rcases Int.lt_or_le q.2 x with A|A
   ·rw [Int.min_eq_left om]; exact hq
   ·rw [Int.min_eq_right om]; exact h _ _ hm
 ·exact h t v hv
theorem GQ {m c:List (aQ×Int)} {q:aQ×Int} (h:wm m c) (hq:q∈c):wm (pg m q) c:=fun t v hv=>by
 rw [xn] at hv
 split at hv
 ·rename_i e
  subst e
  cases hm:m.lookup q.1 with
  |none=>simp only [hm,Option.some.injEq] at hv; subst hv; exact hq
  |some x=>
   simp only [hm,Option.some.injEq] at hv; subst hv
   rcases Int.lt_or_le q.2 x with A|A
   ·rw [Int.max_eq_right om]; exact h _ _ hm
   ·rw [Int.max_eq_left om]; exact hq
 ·exact h t v hv
theorem Gj {m:List (aQ×Int)} {q:aQ×Int}: ∃ v,(pT m q).lookup q.1=some v∧v≤q.2:=by
 rw [xA,if_pos rfl]
 refine ⟨_,U,?_⟩
 cases m.lookup q.1<;>simp only <;>omega
theorem Hw {m:List (aQ×Int)} {q:aQ×Int}: ∃ v,(pg m q).lookup q.1=some v∧q.2≤v:=by
 rw [xn,if_pos rfl]
 refine ⟨_,U,?_⟩
 cases m.lookup q.1<;>simp only <;>omega
/-- all that comes of one entry, by some options, is held -/
def jI (w:cp) (b:Nat) (m:List (aQ×Int)) (p:aQ×Int) (os:List (Int×ai)):Prop:= ∀ o∈os,∀ q,nj w b p o=some q→ ∃ v,m.lookup q.1=some v∧v≤q.2
def jE (w:cp) (b:Nat) (m:List (aQ×Int)) (p:aQ×Int) (os:List (Int×ai)):Prop:= ∀ o∈os,∀ q,pO w b p o=some q→ ∃ v,m.lookup q.1=some v∧q.2≤v
theorem jI.lower {w:cp} {b:Nat} {m m':List (aQ×Int)} {p:aQ×Int} {os:List (Int×ai)} (h:jI w b m p os) (hl:yd m m'):jI w b m' p os:=fun o ho q hq=>by
 obtain ⟨v,A,C⟩:=h o ho q hq
 obtain ⟨v',B,D⟩:=hl _ _ A
 exact ⟨v',B,om⟩
theorem jE.upper {w:cp} {b:Nat} {m m':List (aQ×Int)} {p:aQ×Int} {os:List (Int×ai)} (h:jE w b m p os) (hl:xV m m'):jE w b m' p os:=fun o ho q hq=>by
 obtain ⟨v,A,C⟩:=h o ho q hq
 obtain ⟨v',B,D⟩:=hl _ _ A
 exact ⟨v',B,om⟩
theorem jI.sub {w:cp} {b:Nat} {m:List (aQ×Int)} {p:aQ×Int} {os os':List (Int×ai)} (h:jI w b m p os) (hs: ∀ o∈os',o∈os):jI w b m p os':=fun o ho=>h o (hs o ho)
theorem jE.sub {w:cp} {b:Nat} {m:List (aQ×Int)} {p:aQ×Int} {os os':List (Int×ai)} (h:jE w b m p os) (hs: ∀ o∈os',o∈os):jE w b m p os':=fun o ho=>h o (hs o ho)
theorem jI.add {w:cp} {b:Nat} {m m':List (aQ×Int)} {p:aQ×Int} {os:List (Int×ai)} {o:Int×ai} (h:jI w b m p os) (hl:yd m m') (hn: ∀ q,nj w b p o=some q→ ∃ v,m'.lookup q.1=some v∧v≤q.2):jI w b m' p (os++[o]):=fun o' ho q hq=>by
 rcases gR.1 ho with ho|ho
 ·exact h.lower hl o' ho q hq
 ·simp only [cH] at ho; subst ho; exact hn q hq
theorem jE.add {w:cp} {b:Nat} {m m':List (aQ×Int)} {p:aQ×Int} {os:List (Int×ai)} {o:Int×ai} (h:jE w b m p os) (hl:xV m m') (hn: ∀ q,pO w b p o=some q→ ∃ v,m'.lookup q.1=some v∧q.2≤v):jE w b m' p (os++[o]):=fun o' ho q hq=>by
 rcases gR.1 ho with ho|ho
 ·exact h.upper hl o' ho q hq
 ·simp only [cH] at ho; subst ho; exact hn q hq
theorem fR {m:List (aQ×Int)} (hn:(m.map (·.1)).Nodup) {t:aQ} {v:Int}:(t,v)∈m↔m.lookup t=some v:=lI hn
theorem pQ {z t:aQ} {x v:Int}:List.lookup t [(z,x)]=some v↔t=z∧v=x:=by
 by_cases e:t=z
 ·subst e; simp [List.lookup,eq_comm]
 ·have:(t==z)=false:=by simpa using e
  simp [List.lookup,this,e]
theorem He {w:cp}:vd [(⟨0,0⟩,w.Start)] (pW w 0):=by
 refine ⟨fun t v h=>?_,fun t y h=>?_⟩
 ·obtain ⟨rfl,rfl⟩:=pQ.1 h
  simp [pW]
 ·simp only [pW,cH,Prod.mk.injEq] at h
  obtain ⟨rfl,rfl⟩:=h
  exact ⟨w.Start,pQ.2 ⟨U,U⟩,Int.le_refl _⟩
theorem I4 {w:cp} {b:Nat} {mb m:List (aQ×Int)} (hn:(mb.map (·.1)).Nodup) (h:vd mb (pW w b)) (hs:wm m (pW w (b+1))) (hd: ∀ p∈mb,jI w b m p (jZ w b)):vd m (pW w (b+1)):=⟨hs,fun t y hy=>by
 obtain ⟨p,hp,o,ho,e⟩:=kD.1 hy
 obtain ⟨v,B,E⟩:=h.2 p.1 p.2 hp
 unfold nj at e
 split at e
 ·rename_i D
  simp only [Option.some.injEq,Prod.mk.injEq] at e
  obtain ⟨v',A,C⟩:=hd (p.1,v) ((fR hn).2 B) o ho (dR p.1 (gE o.1),max (v+cY w b) o.2.Lo) (by unfold nj; rw [if_pos (by simp only; omega)])
  simp only at A C
  rw [e.1] at A
  exact ⟨v',A,om⟩
 ·cases e⟩
theorem JO {w:cp} {b:Nat} (hb:w.n≤b):wD [(⟨0,0⟩,w.gL)] (back w b):=by
 rw [vk hb]
 refine ⟨fun t v h=>?_,fun t y h=>?_⟩
 ·obtain ⟨rfl,rfl⟩:=pQ.1 h
  simp
 ·simp only [cH,Prod.mk.injEq] at h
  obtain ⟨rfl,rfl⟩:=h
  exact ⟨w.gL,pQ.2 ⟨U,U⟩,Int.le_refl _⟩
theorem IN {w:cp} {b:Nat} (hb:b<w.n) {mb m:List (aQ×Int)} (hn:(mb.map (·.1)).Nodup) (h:wD mb (back w (b+1))) (hs:wm m (back w b)) (h0: ∃ v,m.lookup ⟨0,0⟩=some v∧w.gL≤v) (hd: ∀ p∈mb,jE w b m p (jZ w b)):wD m (back w b):=⟨hs,fun t y hy=>by
 rcases (pd hb).1 hy with e|⟨p,hp,o,ho,e⟩
 ·simp only [Prod.mk.injEq] at e
  obtain ⟨rfl,rfl⟩:=e
  exact h0
 obtain ⟨v,B,E⟩:=h.2 p.1 p.2 hp
 unfold pO at e
 split at e
 ·rename_i D
  simp only [Option.some.injEq,Prod.mk.injEq] at e
  obtain ⟨v',A,C⟩:=hd (p.1,v) ((fR hn).2 B) o ho (dR p.1 (gE o.1),min v o.2.Hi-cY w b) (by unfold pO; rw [if_pos (by simp only; omega)])
  simp only at A C
  rw [e.1] at A
  exact ⟨v',A,om⟩
 ·cases e⟩
end
section
def lJ (w:cp) (b:Nat) (p u:aQ×Int) (o:Int×ai):ai:=⟨max (p.2+cY w b) o.2.Lo,min u.2 o.2.Hi⟩
def zS (p u:aQ×Int) (o:Int×ai):aQ:=dR (dR p.1 u.1) (gE o.1)
def m_ (w:cp) (b:Nat) (p u:aQ×Int) (o:Int×ai):Option (Int×ai):=if (lJ w b p u o).Lo≤(lJ w b p u o).Hi∧nm w (zS p u o)=true then some (o.1,lJ w b p u o) else none
def qQ (w:cp) (b:Nat) (mf mb:List (aQ×Int)):List (Int×ai):=(jZ w b).flatMap fun o=>mf.flatMap fun p=>mb.filterMap fun u=>m_ w b p u o
def s9 (w:cp) (b:Nat):List (Int×ai):=qQ w b (pW w b) (back w (b+1))
theorem jz {w:cp} {b:Nat} {mf mb:List (aQ×Int)} {q:Int×ai}:q∈qQ w b mf mb↔ ∃ o∈jZ w b,∃ p∈mf,∃ u∈mb,m_ w b p u o=some q:=by
 simp only [qQ,List.mem_flatMap,List.mem_filterMap]
theorem lp {w:cp} {b:Nat} {p u:aQ×Int} {o q:Int×ai}:m_ w b p u o=some q↔(lJ w b p u o).Lo≤(lJ w b p u o).Hi∧nm w (zS p u o)=true∧q=(o.1,lJ w b p u o):=by
 unfold m_
 split
 ·rename_i h
  simp only [Option.some.injEq]
  exact ⟨fun e=>⟨h.1,h.2,e.symm⟩,fun e=>e.2.2.symm⟩
 ·rename_i h
  simp only [reduceCtorEq,false_iff]
  exact fun e=>h ⟨e.1,e.2.1⟩
theorem oS {w:cp} {b:Nat} {mf mb:List (aQ×Int)} {q:Int×ai} (h:q∈qQ w b mf mb):q.2.Lo≤q.2.Hi:=by
 obtain ⟨o,_,p,_,u,_,e⟩:=jz.1 h
 obtain ⟨A,_,rfl⟩:=lp.1 e
 exact A
/-- what the maps tell is what all ways tell -/
theorem NK {w:cp} {b:Nat} {mf mb:List (aQ×Int)} (hf:vd mf (pW w b)) (hb:wD mb (back w (b+1))) (nf:(mf.map (·.1)).Nodup) (nb:(mb.map (·.1)).Nodup) {q:Int×ai} (h:q∈qQ w b mf mb):q∈s9 w b:=by
 obtain ⟨o,ho,p,hp,u,hu,e⟩:=jz.1 h
 exact jz.2 ⟨o,ho,p,hf.1 _ _ ((fR nf).1 hp),u,hb.1 _ _ ((fR nb).1 hu),e⟩
theorem KD {w:cp} {b:Nat} {mf mb:List (aQ×Int)} (hf:vd mf (pW w b)) (hb:wD mb (back w (b+1))) (nf:(mf.map (·.1)).Nodup) (nb:(mb.map (·.1)).Nodup) {q:Int×ai} (h:q∈s9 w b): ∃ q'∈qQ w b mf mb,q'.1=q.1∧q'.2.Lo≤q.2.Lo∧q.2.Hi≤q'.2.Hi:=by
 obtain ⟨o,ho,p,hp,u,hu,e⟩:=jz.1 h
 obtain ⟨A,B,rfl⟩:=lp.1 e
 obtain ⟨v,hv,C⟩:=hf.2 p.1 p.2 hp
 obtain ⟨y,hy,D⟩:=hb.2 u.1 u.2 hu
 simp only [lJ] at A
 refine ⟨(o.1,lJ w b (p.1,v) (u.1,y) o),jz.2 ⟨o,ho,(p.1,v),(fR nf).2 hv,(u.1,y),(fR nb).2 hy,lp.2 ⟨?_,B,U⟩⟩,U,?_,?_⟩
 ·simp only [lJ]; omega
 ·simp only [lJ]; omega
 ·simp only [lJ]; omega
def ny:ai:=⟨1,0⟩
def m0 (h x:ai):ai:=if h=ny then x else ⟨min x.Lo h.Lo,max x.Hi h.Hi⟩
def yI (l:List (Int×ai)):ai:=l.foldl (fun h q=>m0 h q.2) ny
structure oZ (l:List (Int×ai)) (h:ai):Prop where
 le:h.Lo≤h.Hi
 lo: ∃ x∈l,x.2.Lo=h.Lo
 hi: ∃ x∈l,x.2.Hi=h.Hi
 all: ∀ x∈l,h.Lo≤x.2.Lo∧x.2.Hi≤h.Hi
def kO (l:List (Int×ai)) (h:ai):Prop:=(l=[]∧h=ny)∨oZ l h
theorem oZ.ne {l:List (Int×ai)} {h:ai} (hh:oZ l h):h≠ny:=fun e=>by
 have:=hh.le; rw [e] at this; simp [ny] at this
theorem C8:kO [] ny:= .inl ⟨rfl,rfl⟩
theorem vx {l:List (Int×ai)} {h:ai} {q:Int×ai} (hh:kO l h) (hq:q.2.Lo≤q.2.Hi):kO (l++[q]) (m0 h q.2):=by
 right
 rcases hh with ⟨rfl,rfl⟩|hh
 ·unfold m0
  rw [if_pos rfl]
  exact ⟨hq,⟨q,sm,rfl⟩,⟨q,sm,rfl⟩,fun x hx=>by simp at hx; subst hx; exact ⟨Int.le_refl _,Int.le_refl _⟩⟩
 ·unfold m0
  rw [if_neg hh.ne]
  have A:=hh.le
  obtain ⟨a,ha,ea⟩:=hh.lo
  obtain ⟨c,hc,ec⟩:=hh.hi
  refine ⟨by simp only; omega,?_,?_,fun x hx=>?_⟩
  ·rcases Int.lt_or_le q.2.Lo h.Lo with p|p
   ·exact ⟨q,sm,by simp only; omega⟩
   ·exact ⟨a,by simp [ha],by simp only; omega⟩
  ·rcases Int.lt_or_le h.Hi q.2.Hi with p|p
   ·exact ⟨q,sm,by simp only; omega⟩
   ·exact ⟨c,by simp [hc],by simp only; omega⟩
  ·rcases gR.1 hx with hx|hx
   ·have:=hh.all x hx; simp only; omega
   ·simp at hx; subst hx; simp only; omega
theorem vC {l:List (Int×ai)} (hl: ∀ q∈l,q.2.Lo≤q.2.Hi):kO l (yI l):=by
 have key: ∀ (r d:List (Int×ai)) (h:ai),(∀ q∈r,q.2.Lo≤q.2.Hi)→kO d h→kO (d++r) (r.foldl (fun h q=>m0 h q.2) h):=by
  intro r
  induction r with
  |nil=>intro d h _ hd; simpa using hd
  |cons q r ih=>
   intro d h hr hd
   have:=ih (d++[q]) (m0 h q.2) (fun x hx=>hr x (dH _ hx)) (vx hd (hr q sm))
   simpa using this
 have:=key l [] ny hl C8
 rw [List.nil_append] at this
 exact this
def Eu (a b:List (Int×ai)):Prop:= ∀ x∈b,∃ y∈a,y.2.Lo≤x.2.Lo∧x.2.Hi≤y.2.Hi
theorem Nq {a b:List (Int×ai)} {h k:ai} (ha:kO a h) (hb:kO b k) (hab:Eu a b) (hba:Eu b a):h=k:=by
 rcases ha with ⟨rfl,rfl⟩|ha
 ·rcases hb with ⟨rfl,rfl⟩|hb
  ·rfl
  ·obtain ⟨x,hx,_⟩:=hb.lo
   obtain ⟨y,hy,_⟩:=hab x hx
   cases hy
 ·rcases hb with ⟨rfl,rfl⟩|hb
  ·obtain ⟨x,hx,_⟩:=ha.lo
   obtain ⟨y,hy,_⟩:=hba x hx
   cases hy
  ·have le: ∀ {a b:List (Int×ai)} {h k:ai},oZ a h→oZ b k→Eu a b→h.Lo≤k.Lo∧k.Hi≤h.Hi:=fun {a b h k} ha hb hab=>by
    obtain ⟨x,hx,ex⟩:=hb.lo
    obtain ⟨z,hz,ez⟩:=hb.hi
    obtain ⟨y,hy,ey⟩:=hab x hx
    obtain ⟨y',hy',ey'⟩:=hab z hz
    have A:=ha.all y hy
    have B:=ha.all y' hy'
    omega
   have A:=le ha hb hab
   have B:=le hb ha hba
   rw [ai.ext_iff]; omega
theorem z_ {w:cp} {b:Nat} {mf mb:List (aQ×Int)} {l:List (Int×ai)} {h:ai} (hf:vd mf (pW w b)) (hb:wD mb (back w (b+1))) (nf:(mf.map (·.1)).Nodup) (nb:(mb.map (·.1)).Nodup)
 (hl: ∀ q∈l,q∈qQ w b mf mb) (hl2: ∀ q∈qQ w b mf mb,q∈l) (hh:kO l h):h=yI (s9 w b):=
 Nq hh (vC fun q hq=>oS hq) (fun x hx=>by
  obtain ⟨q,hq,_,A,B⟩:=KD hf hb nf nb hx
  exact ⟨q,hl2 q hq,A,B⟩) (fun x hx=>⟨x,NK hf hb nf nb (hl x hx),Int.le_refl _,Int.le_refl _⟩)
def lh (w:cp) (m:List (aQ×Int)):Bool:=m.any fun p=>nm w p.1
theorem CF {w:cp} {b:Nat} {m:List (aQ×Int)} (h:vd m (pW w b)) (nf:(m.map (·.1)).Nodup):lh w m=lh w (pW w b):=by
 unfold lh
 rw [Bool.eq_iff_iff,List.any_eq_true,List.any_eq_true]
 constructor
 ·rintro ⟨p,hp,A⟩
  exact ⟨p,h.1 _ _ ((fR nf).1 hp),A⟩
 ·rintro ⟨p,hp,A⟩
  obtain ⟨v,hv,_⟩:=h.2 p.1 p.2 hp
  exact ⟨(p.1,v),(fR nf).2 hv,A⟩
def iY (w:cp) (k:Nat):List Int:=((List.range k).filter fun i=>lh w (pW w i)).map fun (i:Nat)=>(i:Int)
def l6 (w:cp):List Int:=iY w (w.n+1)
theorem x3 {w:cp} {k:Nat} (h:lh w (pW w k)=true):iY w (k+1)=iY w k++[(k:Int)]:=by simp [iY,List.range_succ,h]
theorem zW {w:cp} {k:Nat} (h:lh w (pW w k)=false):iY w (k+1)=iY w k:=by simp [iY,List.range_succ,h]
theorem n9 {w:cp} {k:Nat}:(iY w k).length≤k:=by
 unfold iY
 rw [List.length_map]
 exact Nat.le_trans (List.length_filter_le _ _) sm
end
section
open Go.RowKit
theorem GG {P:Program} {t:Nat} {k:IntKind} (hu:P.underlying t=some (.int k)) (e:Bool) (n:Nat) (v:Value) (w:World):(Instr.checkKey e (n+1) t v).run P w= .ok () w:=by
 unfold Instr.checkKey
 simp only [Sem.run_bind,run_underlying hu,Result.andThen]
 cases v<;>rfl
theorem AX {P:Program} {kt:Nat} {l:List (Nat×Nat)} (hl:fL P kt=some l) (e:Bool) (n:Nat) (cs:Array Value) (w:World)
 (hf: ∀ p∈l,(∃ v,(part p.1 cs p.2).run P w= .ok v w)∧ ∃ k,P.underlying p.1=some (.int k)):(Instr.checkKey e (n+2) kt (.agg cs)).run P w= .ok () w:=by
 unfold fL at hl
 cases hu:P.underlying kt with
 |none=>simp [hu] at hl
 |some d=>
  cases d<;>simp [hu] at hl
  rename_i fs
  obtain ⟨hn,hl⟩:=hl
  rw [show n+2=(n+1)+1 from rfl,Instr.checkKey]
  simp only [Sem.run_bind,run_underlying hu,Result.andThen_ok]
  rw [← Array.forIn_toList]
  have A: ∀ f∈fs.toList,(∃ v,(part f.type cs f.offset).run P w= .ok v w)∧ ∃ k,P.underlying f.type=some (.int k):=fun f hf'=>hf (f.type,f.offset) (by rw [← hl]; exact db.2 ⟨f,hf',rfl⟩)
  have B: ∀ f∈fs.toList,f.name≠"_":=fun f hf'=>by
   obtain ⟨i,hi,rfl⟩:=List.getElem_of_mem hf'
   exact hn.1.1 i (by simpa using hi)
  clear hl hn hf
  generalize fs.toList=L at A B
  induction L with
  |nil=>simp
  |cons f L ih=>
   obtain ⟨⟨v,hv⟩,k,hk⟩:=A f sm
   have C:=B f sm
   simp only [List.forIn_cons,Sem.run_bind,C,ne_eq,not_false_eq_true,if_true,Result.andThen_ok,hv,GG hk,Sem.run_pure]
   exact ih (fun y hy=>A y (by simp [hy])) (fun y hy=>B y (by simp [hy]))
theorem CJ {P:Program} {kt:Nat} {K:Type} [DecidableEq K] {kV:K→Value} (hw: ∀ (k:Value) (es:List MapEntry) (w:World),(Instr.findKey kt k es).run P w=(Instr.findAsking kt k es).run P w)
 (heq: ∀ x y w,(Op.equal kt (kV x) (kV y)).run P w= .ok (decide (x=y)) w) (inj: ∀ x y,kV x=kV y→x=y) (x:K) (w:World) (es:List MapEntry) (hk: ∀ e∈es,∃ k,e.key=kV k):
 ((Instr.findKey kt (kV x) es).run P w= .ok none w∧ ∀ e∈es,e.key≠kV x)∨ ∃ j e,(Instr.findKey kt (kV x) es).run P w= .ok (some (j,e.val)) w∧es[j]? =some e∧e.key=kV x:=by
 have key: ∀ (es:List MapEntry) (i:Nat),(∀ e∈es,∃ k,e.key=kV k)→((Instr.findAsking kt (kV x) es i).run P w= .ok none w∧ ∀ e∈es,e.key≠kV x)∨ ∃ j e,(Instr.findAsking kt (kV x) es i).run P w= .ok (some (i+j,e.val)) w∧es[j]? =some e∧e.key=kV x:=by
  intro es
  induction es with
  |nil=>intro i _; exact .inl ⟨by simp [Instr.findAsking],sm⟩
  |cons e es ih=>
   intro i B
   obtain ⟨k,A⟩:=B e sm
   by_cases h:x=k
   ·refine .inr ⟨0,e,?_,U,by rw [A,h]⟩
    subst h
    simp [Instr.findAsking,A,heq]
   ·rcases ih (i+1) (fun y hy=>B y (by simp [hy])) with ⟨C,D⟩|⟨j,e',C,D,E⟩
    ·refine .inl ⟨by simp [Instr.findAsking,A,heq,h,C],fun y hy=>?_⟩
     rcases cm.1 hy with rfl|hy
     ·rw [A]; exact fun q=>h (inj _ _ q).symm
     ·exact D y hy
    ·exact .inr ⟨j+1,e',by simp [Instr.findAsking,A,heq,h,C]; omega,by simpa using D,E⟩
 rw [hw]
 rcases key es 0 hk with h|⟨j,e,C,D,E⟩
 ·exact .inl h
 ·exact .inr ⟨j,e,by simpa using C,D,E⟩
theorem DP {P:Program} {kt:Nat} {l:List (Nat×Nat)} (hl:fL P kt=some l) (k:Value) (es:List MapEntry) (w:World):(Instr.findKey kt k es).run P w=(Instr.findAsking kt k es).run P w:=by
 refine run_findKey_eq w ?_ k es
 unfold fL at hl
 cases hu:P.underlying kt with
 |none=>simp [hu] at hl
 |some d=>cases d<;>simp [hu] at hl ⊢
theorem Mk {P:Program} {kt:Nat} {K:Type} [DecidableEq K] {kV:K→Value} {l:List (Nat×Nat)} (hl:fL P kt=some l) (heq: ∀ x y w,(Op.equal kt (kV x) (kV y)).run P w= .ok (decide (x=y)) w) (inj: ∀ x y,kV x=kV y→x=y)
 (hb: ∀ x,Instr.sameBits 10000 (kV x) (kV x)=true) (hp: ∀ x w,∃ cs,kV x= .agg cs∧ ∀ p∈l,(∃ v,(part p.1 cs p.2).run P w= .ok v w)∧ ∃ k,P.underlying p.1=some (.int k)):vL P kt kV:=
 ⟨fun e x w=>by obtain ⟨cs,A,B⟩:=hp x w; rw [A]; exact AX hl e 9998 cs w B,fun x w es=>CJ (DP hl) heq inj x w es,hb,inj⟩
end
section
open Go.RowKit
set_option linter.unusedSectionVars false
theorem iX {P:Program} {kt:Nat} (hk:P.underlying kt=some (.int .i64)):vL P kt (Value.int .i64):=by
 refine ⟨fun e x w=>HF hk e,fun x w es A=>?_,fun x=>by simp [Instr.sameBits],fun x y h=>by injection h⟩
 have key: ∀ (es:List MapEntry) (i:Nat),(∀ e∈es,∃ k:Int,e.key= .int .i64 k)→(Instr.findNow (.int .i64) (.int .i64 x) es i=some none∧ ∀ e∈es,e.key≠ .int .i64 x)∨ ∃ j e,Instr.findNow (.int .i64) (.int .i64 x) es i=some (some (i+j,e.val))∧es[j]? =some e∧e.key= .int .i64 x:=by
  intro es
  induction es with
  |nil=>intro i _; exact .inl ⟨rfl,sm⟩
  |cons e es ih=>
   intro i A
   obtain ⟨k,B⟩:=A e sm
   by_cases h:x=k
   ·subst h
    exact .inr ⟨0,e,by simp [Instr.findNow,Instr.sameNow,B],U,B⟩
   ·have hb:(x==k)=false:=by simpa using h
    rcases ih (i+1) (fun y hy=>A y (by simp [hy])) with ⟨C,D⟩|⟨j,e',C,D,E⟩
    ·refine .inl ⟨by simp [Instr.findNow,Instr.sameNow,B,hb,C],fun y hy=>?_⟩
     rcases cm.1 hy with rfl|hy
     ·rw [B]; intro q; injection q with _ q; exact h q.symm
     ·exact D y hy
    ·refine .inr ⟨j+1,e',?_,by simpa using D,E⟩
     simp only [Instr.findNow,Instr.sameNow,B,hb,if_true,C]
     simp; omega
 rcases key es 0 A with ⟨C,D⟩|⟨j,e,C,D,E⟩
 ·exact .inl ⟨MapKept.run_findKey hk C,D⟩
 ·exact .inr ⟨j,e,MapKept.run_findKey hk (by simpa using C),D,E⟩
theorem St.MK {S:BS} {w0 w w':World} {C:List ay} {A N:ay} (h:St S w0 C w) (i:Nat) (hA:C[i]? =some A) (k:dY no w w') (hN:N.holds w') (hf: ∀ b,N.fO b→w.heap.size≤b∨A.fO b∧ ¬ A.wf b∧ ¬ N.wf b):St S w0 (N::C) w':=by
 have h':=h.same k
 have G:=aP hA
 have hi:=(aZ.1 hA).1
 have B:C[i]=A:=(aZ.1 hA).2
 refine ⟨h'.keeps,fun X hX=>?_,List.Pairwise.cons (fun X hX b hb hb'=>?_) h'.sep,fun X hX b hb=>?_,fun X hX b hb=>?_⟩
 ·rcases cm.1 hX with rfl|hX
  ·exact hN
  ·exact h'.holds X hX
 ·rcases hf b hb with E|⟨E,AA,H⟩
  ·have:=X.lt w (h.holds X hX) b hb'; omega
  ·refine ⟨H,?_⟩
   obtain ⟨j,hj,D⟩:=List.mem_iff_getElem.1 hX
   by_cases e:j=i
   ·subst e; rw [← D,B]; exact AA
   ·rcases Nat.lt_or_gt_of_ne e with F|F
    ·have:=eZ.1 h.sep j i hj hi F b (by rw [D]; exact hb') (by rw [B]; exact E)
     rw [← D]; exact this.1
    ·have:=eZ.1 h.sep i j hi hj F b (by rw [B]; exact E) (by rw [D]; exact hb')
     rw [← D]; exact this.2
 ·rcases cm.1 hX with rfl|hX
  ·rcases hf b (X.k9 b hb) with E|⟨_,_,H⟩
   ·exact .inl (Nat.le_trans h.keeps.size E)
   ·exact absurd hb H
  ·exact h'.own X hX b hb
 ·rcases cm.1 hX with rfl|hX
  ·rcases hf b hb with E|⟨E,_,_⟩
   ·exact .inl (Nat.le_trans h.keeps.size E)
   ·exact h.seen A G b E
  ·exact h'.seen X hX b hb
section
variable {K:Type} [DecidableEq K] {kV:K→Value}
/-- an iterator over a map that is read alone -/
def Dr (kV:K→Value) (r b:Nat) (m left:List (K×Value)) (cur:Option (K×Value)):ay where
 fO k:=k=r∨k=b
 wf k:=k=r
 holds w:=r≠b∧ ∃ (es:Array MapEntry) (c since:Nat) (seen:Array Nat) (st:Nat),w.heap[b]? =some (.map es c)∧jC kV es c m∧w.heap[r]? =some (.mapIter (some b) since seen st)∧(∀ e∈es.toList,e.born<since)∧since≤st∧since≤c∧
  (leftOf es seen).toList.map (fun (e:MapEntry)=>(e.key,e.val))=left.map (fun p=>(kV p.1,p.2))∧
  ∀ p,cur=some p→ ∃ (e:MapEntry) (seen0:Array Nat),e∈es.toList∧seen=seen0.push e.born∧st=c∧e.key=kV p.1∧e.val=p.2
 wr:=false
 k9 _ h:= .inl h
 whole h:=by cases h
 lt w h k hk:=by
  obtain ⟨_,es,c,since,seen,st,h1,_,h2,_⟩:=h
  rcases hk with rfl|rfl
  ·exact eB h2
  ·exact eB h1
 pI w w' hk h:=by
  obtain ⟨hne,es,c,since,seen,st,h1,h2,h3,h4⟩:=h
  exact ⟨hne,es,c,since,seen,st,(hk b (.inr rfl)).trans h1,h2,(hk r (.inl rfl)).trans h3,h4⟩
theorem pH {r b:Nat} {m left:List (K×Value)} {cur:Option (K×Value)}:(∀ w,(Dr kV r b m left cur).holds w→(Dr kV r b m left none).holds w)∧(∀ k,(Dr kV r b m left none).fO k→(Dr kV r b m left cur).fO k)∧ ∀ k,(Dr kV r b m left none).wf k→(Dr kV r b m left cur).wf k:=
 ⟨fun w h=>by
  obtain ⟨A,es,c,since,seen,st,B,C,D,E,F,h5',G,_⟩:=h
  exact ⟨A,es,c,since,seen,st,B,C,D,E,F,h5',G,fun p hp=>by cases hp⟩,fun _ h=>h,fun _ h=>h⟩
section
variable {E:fH} {ops:Array Oper} {Q:dv} {rest:List Oper} {D:List Deferred} {L:List (Nat×Value)} {C:List ay}
variable {dst:Option Tmp} {d:Nat} {ty:TypeId} {ps:String} {af:Array Edge} {g:Option (Nat×Bool)}
theorem qx {t kt et:TypeId} {xm:Operand} {b:Nat} {m:List (K×Value)} {A:ay} (i:Nat) (hg:ke ops L g=true) (hm:ev L xm=some (.map (some b))) (ht:E.P.underlying t=some (.map kt et)) (hA:C[i]? =some A) (hAf:A.fO b∧ ¬ A.wf b) (hC:g9 C (kx kV b m).holds) (hd:Nat.blt d E.n=true)
 (k: ∀ r,RJ E ops Q rest D ((d,.pointer (some ⟨r,0,none⟩))::L) (Dr kV r b m m none::C)):RJ E ops Q (⟨some d,.range t xm,ty,ps,af,g⟩::rest) D L C:=by
 intro a w B hs
 have hd':d<E.n:=by rw [← Nat.blt_eq]; exact hd
 unfold tg
 rw [if_pos (eK B hg)]
 obtain ⟨es,c,he,hi⟩:=hs.has hC
 have G:b<w.heap.size:=eB he
 have F:(getObj b).run E.P w= .ok (.map es c) w:=MapKept.run_getObj_map he
 refine jg (v:= .pointer (some ⟨w.heap.size,0,none⟩)) (w':=w.alloc (.mapIter (some b) c #[] c)) sm ?_ ?_
 ·simp [execOp,Instr.range,B.ev hm,run_underlying ht,F,newObj,Sem.run]
 ·refine k _ _ _ (B.put hd' _) (hs.MK i hA (dY.alloc no w _) ⟨om,es,c,c,#[],c,?_,hi,heap_alloc_new w _,hi.PF,Nat.le_refl _,Nat.le_refl _,?_,fun p hp=>by cases hp⟩ (fun q hq=>?_))
  ·rw [Below.heap_alloc w _ b G]; exact he
  ·have:leftOf es #[]=es:=by unfold leftOf; exact Array.filter_eq_self.2 sm
   rw [this]; exact hi.list
  ·rcases hq with rfl|rfl
   ·exact .inl (Nat.le_refl _)
   ·refine .inr ⟨hAf.1,hAf.2,fun (e:q=w.heap.size)=>by omega⟩
theorem GI (hinj: ∀ x y,kV x=kV y→x=y) {xi:Operand} {r b:Nat} {m left:List (K×Value)} {cur:Option (K×Value)} (i:Nat) (hg:ke ops L g=true) (hm:ev L xi=some (.pointer (some ⟨r,0,none⟩))) (hC:C[i]? =some (Dr kV r b m left cur)) (hd:Nat.blt d E.n=true)
 (k0:left=[]→RJ E ops Q rest D ((d,.tuple [.bool false].toArray)::L) C)
 (k1: ∀ x v,(x,v)∈left→(left.map (·.1)).Nodup→RJ E ops Q rest D ((d,.tuple [.bool true,kV x,v].toArray)::L) (C.set i (Dr kV r b m (fz left x) (some (x,v))))):
 RJ E ops Q (⟨some d,.next xi false,ty,ps,af,g⟩::rest) D L C:=by
 intro a w G hs
 have hd':d<E.n:=by rw [← Nat.blt_eq]; exact hd
 unfold tg
 rw [if_pos (eK G hg)]
 obtain ⟨R,es,c,since,seen,st,X,hi,Y,J,V,M,A,_⟩:=hs.holds _ (aP hC)
 rcases run_next_at (P:=E.P) w ty r b since st seen es c Y X J V with ⟨Z,hr⟩|⟨e,he,N,H,hr⟩
 ·refine jg (v:= .tuple #[.bool false]) (w':=w) sm ?_ ?_
  ·simp [execOp,G.ev hm,hr]
  ·refine k0 ?_ _ _ (G.put hd' _) hs
   have:(leftOf es seen).toList=[]:=by rw [← List.length_eq_zero_iff,Array.length_toList]; exact Z
   rw [this] at A
   exact List.map_eq_nil_iff.1 A.symm
 ·have O:(e.key,e.val)∈left.map (fun p=>(kV p.1,p.2)):=by rw [← A]; exact db.2 ⟨e,he,rfl⟩
  obtain ⟨p,hp,S⟩:=db.1 O
  obtain ⟨x,v⟩:=p
  simp only [Prod.mk.injEq] at S
  obtain ⟨hk,hv⟩:=S
  refine jg (v:= .tuple #[.bool true,e.key,e.val]) (w':=ChangeMaps.setBlock N r (.mapIter (some b) since (seen.push e.born) c)) sm ?_ ?_
  ·simp [execOp,G.ev hm,hr]
  ·rw [← hk,← hv]
   have AA:=xd hinj hi A
   have F:e∈es.toList:=by unfold leftOf at he; rw [Array.toList_filter] at he; exact (List.mem_filter.1 he).1
   have f:c=c:=rfl
   have B:N.heap=w.heap:=by rcases H with rfl|rfl<;>rfl
   refine k1 x v hp AA _ _ (G.put hd' _) (hs.mv i hC ⟨⟨R,es,c,since,seen.push e.born,c,?_,hi,?_,J,M,M,?_,fun q hq=>?_⟩,?_,fun q hq=> .inl hq,fun q hq=> .inl hq⟩)
   ·show (N.heap.setIfInBounds r _)[b]? =_
    rw [Array.getElem?_setIfInBounds_ne R,B]; exact X
   ·show (N.heap.setIfInBounds r _)[r]? =_
    rw [Array.getElem?_setIfInBounds_self_of_lt (by rw [B]; exact eB Y)]
   ·have T:leftOf es (seen.push e.born)=(leftOf es seen).filter (fun z=> !(z.born==e.born)):=by
     unfold leftOf
     rw [Array.filter_filter]
     congr 1
     funext z
     simp only [Array.contains_push,Bool.not_or]
     rw [Bool.and_comm]
    rw [T,Array.toList_filter]
    have key: ∀ (l:List MapEntry) (ll:List (K×Value)),(∀ z∈l,z∈es.toList)→l.map (fun (e:MapEntry)=>(e.key,e.val))=ll.map (fun p=>(kV p.1,p.2))→
     (l.filter (fun z=> !(z.born==e.born))).map (fun (e:MapEntry)=>(e.key,e.val))=(fz ll x).map (fun p=>(kV p.1,p.2)):=by
     intro l
     induction l with
     |nil=>intro ll _ h; cases ll with
      |nil=>rfl
      |cons p ll=>simp at h
     |cons z l ih=>
      intro ll hz h
      cases ll with
      |nil=>simp at h
      |cons p ll=>
       simp only [List.map_cons,List.cons.injEq,Prod.mk.injEq] at h
       have ih':=ih ll (fun y hy=>hz y (by simp [hy])) h.2
       have AB:(z.born=e.born)↔(p.1=x):=by
        constructor
        ·intro hb
         have:z=e:=Dp hi.born (hz z sm) F hb
         rw [this] at h
         have:=h.1.1.symm.trans hk.symm
         exact hinj _ _ this
        ·intro hx
         have W:z.key=e.key:=by rw [h.1.1,hx,hk]
         rw [Bw hinj hi (hz z sm) F W]
       unfold fz at ih' ⊢
       by_cases hx:p.1=x
       ·rw [List.filter_cons_of_neg (by simp [AB.2 hx]),List.filter_cons_of_neg (by simp [hx])]; exact ih'
       ·rw [List.filter_cons_of_pos (by simpa using fun hb=>hx (AB.1 hb)),List.filter_cons_of_pos (by simpa using hx)]
        simp only [List.map_cons,h.1.1,h.1.2,ih']
    exact key _ _ (fun z hz=>by unfold leftOf at hz; rw [Array.toList_filter] at hz; exact (List.mem_filter.1 hz).1) A
   ·cases hq
    exact ⟨e,seen,F,U,U,hk.symm,hv.symm⟩
   ·refine ⟨?_,?_,?_,?_,fun q hq hn=>?_⟩
    ·rcases H with rfl|rfl<;>rfl
    ·rcases H with rfl|rfl<;>rfl
    ·rcases H with rfl|rfl<;>rfl
    ·show w.heap.size≤(N.heap.setIfInBounds r _).size
     simp [B]
    ·show (N.heap.setIfInBounds r _)[q]? =_
     rw [Array.getElem?_setIfInBounds_ne (fun e=>hn e.symm),B]
theorem oy {xi:Operand} {r b:Nat} {m left:List (K×Value)} {x:K} {v:Value} (i:Nat) (hg:ke ops L g=true) (hm:ev L xi=some (.pointer (some ⟨r,0,none⟩))) (hC:C[i]? =some (Dr kV r b m left (some (x,v)))):
 SD E ops ⟨dst,.entry xi,ty,ps,af,g⟩ D L C (.tuple [kV x,v].toArray):=
 eM hg sm fun a w F hs=>by
  obtain ⟨N,es,c,since,seen,st,J,hi,M,H,O,AA,G,B⟩:=hs.holds _ (aP hC)
  obtain ⟨e,A,he,rfl,rfl,hk,hv⟩:=B _ rfl
  have:=run_entry_at (P:=E.P) w r b since A es st e M J he hi.born
  simp [execOp,F.ev hm,this,hk,hv]
theorem oP (hinj: ∀ x y,kV x=kV y→x=y) {β:Type} {f:β→Value} {xi:Operand} {r b:Nat} {m:List (K×Value)} {ll:List (K×β)} {cur:Option (K×Value)} (i:Nat) (hg:ke ops L g=true) (hm:ev L xi=some (.pointer (some ⟨r,0,none⟩))) (hC:C[i]? =some (Dr kV r b m (cT f ll) cur)) (hd:Nat.blt d E.n=true)
 (k0:ll=[]→RJ E ops Q rest D ((d,.tuple [.bool false].toArray)::L) C)
 (k1: ∀ x y,(x,y)∈ll→(ll.map (·.1)).Nodup→RJ E ops Q rest D ((d,.tuple [.bool true,kV x,f y].toArray)::L) (C.set i (Dr kV r b m (cT f (fz ll x)) (some (x,f y))))):
 RJ E ops Q (⟨some d,.next xi false,ty,ps,af,g⟩::rest) D L C:=by
 refine GI hinj i hg hm hC hd (fun h=>k0 (List.map_eq_nil_iff.1 h)) (fun x v B hn=>?_)
 obtain ⟨p,hp,A⟩:=db.1 B
 simp only [Prod.mk.injEq] at A
 obtain ⟨rfl,rfl⟩:=A
 have:=k1 p.1 p.2 hp (by simpa [cT,Function.comp_def] using hn)
 rwa [nY] at this
theorem zf {t kt et:TypeId} {xm xk xv:Operand} {b:Nat} {x:K} {v:Value} {m m':List (K×Value)} {C':List ay} (i:Nat) (hg:ke ops L g=true) (hm:ev L xm=some (.map (some b))) (hk:ev L xk=some (kV x)) (hv:ev L xv=some v)
 (ht:E.P.underlying t=some (.map kt et)) (hkt:vL E.P kt kV) (hC:C[i]? =some (kx kV b m)) (hm':eD m x v=m') (hC':C.set i (kx kV b m')=C') (k:RJ E ops Q rest D L C'):
 RJ E ops Q (⟨none,.insert t xm xk xv,ty,ps,af,g⟩::rest) D L C:=by
 subst hm' hC'
 intro a w A hs
 unfold tg
 rw [if_pos (eK A hg)]
 obtain ⟨es,c,he,hi⟩:=hs.holds _ (aP hC)
 have B:(getObj b).run E.P w= .ok (.map es c) w:=MapKept.run_getObj_map he
 rcases pC (P:=E.P) (w:=w) (x:=x) hkt hi with ⟨AA,F⟩|⟨j,N,AA,F,J⟩
 ·refine sN (w':={w with heap:=w.heap.setIfInBounds b (.map (es.push {key:=kV x,val:=v,born:=c}) (c+1))}) sm ?_ ?_
  ·simp [execOp,A.ev hm,A.ev hk,A.ev hv,Instr.mapUpdate,run_underlying ht,B,jn hkt,AA,MapKept.run_setObj_map _ he]
  ·refine k _ _ ⟨A.defers,A.size,A.at_⟩ (hs.As (b:=b) i hC U U (nN _) (fun _ h=>h) ⟨_,_,pU he,?_⟩)
   have:eD m x v=m++[(x,v)]:=by unfold eD; rw [F]; rfl
   rw [this]; exact hi.push F v
 ·have M:=hi.size
  have G:j<es.size:=by have:=(aZ.1 F).1; omega
  have H:(es[j]).key=kV x:=by
   have:=congrArg (fun l=>l[j]?) hi.list
   simp [G,F] at this
   exact this.1
  refine sN (w':={w with heap:=w.heap.setIfInBounds b (.map (es.modify j fun e=>{e with key:=kV x,val:=v}) c)}) sm ?_ ?_
  ·simp [execOp,A.ev hm,A.ev hk,A.ev hv,Instr.mapUpdate,run_underlying ht,B,jn hkt,AA,MapKept.run_setObj_map _ he,Instr.keyThatStays,G,H,hkt.bits x]
  ·exact k _ _ ⟨A.defers,A.size,A.at_⟩ (hs.As (b:=b) i hC U U (nN _) (fun _ h=>h) ⟨_,_,pU he,hi.set F J v⟩)
end
end
end
section
open Go.RowKit
def UT {σ:Type} (w0:World) (P:Program) (l:Nat) (step:σ→List Value→σ→Prop) (J:σ→ay→Prop) (Z:ay→Prop):Prop:=
 ∀ k x k' A w,step k x k'→J k A→w0.heap.size≤w.heap.size→A.holds w→YieldAt (Fw none) 0 P l x.toArray w fun e w'=>
  (e= .returned (.bool true)∧ ∃ B,J k' B∧Mv A B w w')∨(e= .returned (.bool false)∧ ∃ B,Z B∧Mv A B w w')
def CZ {σ:Type} (J:σ→ay→Prop) (Z:ay→Prop) (fin:σ→Prop) (A0:ay) (w0:World) (e:Ending) (w':World):Prop:=
 ∃ v,e= .returned v∧((∃ s B,fin s∧J s B∧Mv A0 B w0 w')∨ ∃ B,Z B∧Mv A0 B w0 w')
structure MG {σ:Type} (P:Program) (f:FuncId) (fi ca:List Value) (Cp:List ay) (s0:σ) (step:σ→List Value→σ→Prop) (fin:σ→Prop):Prop where
 go:sP P f=true
 run: ∀ (l:Nat) (J:σ→ay→Prop) (Z:ay→Prop) (A0:ay) (w:World),UT w P l step J Z→J s0 A0→A0.holds w→(∀ A∈Cp,A.holds w)→(∀ A∈Cp,Dn A0 A.ro)→
  Calls P f (fi++Value.func (.yield l) #[] #[]::ca).toArray w (CZ J Z fin A0 w)
theorem PY {σ:Type} {J:σ→ay→Prop} {Z:ay→Prop} {n:σ} {fin:σ→Prop} {A0 B:ay} {w0 w:World} {C:List ay} {v:Value} (i:Nat) (hC:C[i]? =some B) (hfin:fin n) (hJ:J n B) (hF:Fo A0 w0 B) (hs:St ⟨A0.wf,fun _=>True⟩ w0 C w):CZ J Z fin A0 w0 (.returned v) w:=
 ⟨v,rfl,.inl ⟨n,B,hfin,hJ,hs.holds B (aP hC),hs.keeps,fun b hb=>(hs.own B (aP hC) b hb).symm,hF⟩⟩
theorem Fv {σ:Type} {J:σ→ay→Prop} {Z:ay→Prop} {fin:σ→Prop} {A0 B:ay} {w0 w:World} {C:List ay} {v:Value} (i:Nat) (hC:C[i]? =some B) (hJ:Z B) (hF:Fo A0 w0 B) (hs:St ⟨A0.wf,fun _=>True⟩ w0 C w):CZ J Z fin A0 w0 (.returned v) w:=
 ⟨v,rfl,.inr ⟨B,hJ,hs.holds B (aP hC),hs.keeps,fun b hb=>(hs.own B (aP hC) b hb).symm,hF⟩⟩
theorem Fl {σ:Type} {P:Program} {f:FuncId} {fn:Func} {c:Code} {fi ca:List Value} {Cp:List ay} {s0:σ} {step:σ→List Value→σ→Prop} {fin:σ→Prop} (hgo:sP P f=true) (hf:P.funcs[f]? =some fn) (hb:fn.body=some c) (hn:Nat.ble (fi.length+ca.length+1) fn.ntmps=true)
 (h: ∀ (l:Nat) (J:σ→ay→Prop) (Z:ay→Prop) (A0:ay) (w0:World) (Q:dv),UT w0 P l step J Z→J s0 A0→Fo A0 w0 A0→
  (∀ D L C,LJ ⟨P,none,fn.ntmps,⟨A0.wf,fun _=>True⟩,w0⟩ fn (CZ J Z fin A0 w0) D L C→KJ ⟨P,none,fn.ntmps,⟨A0.wf,fun _=>True⟩,w0⟩ (Q .ret) D L C)→
  (∀ D L C,LJ ⟨P,none,fn.ntmps,⟨A0.wf,fun _=>True⟩,w0⟩ fn (CZ J Z fin A0 w0) D L C→KJ ⟨P,none,fn.ntmps,⟨A0.wf,fun _=>True⟩,w0⟩ (Q .normal) D L C)→
  WJ ⟨P,none,fn.ntmps,⟨A0.wf,fun _=>True⟩,w0⟩ c Q [] (Ox (fi++Value.func (.yield l) #[] #[]::ca)) (A0::Cp.map ay.ro)):MG P f fi ca Cp s0 step fin:=by
 refine ⟨hgo,fun l J Z A0 w hY hJ hA F E=>?_⟩
 refine A_ hf hb (by simpa [Nat.add_assoc] using hn) (h l J Z A0 w · hY hJ (fun b hb=> .inl hb)) ?_
 have G:=rL F
 refine ⟨dY.refl _ _,fun A hA'=>?_,List.Pairwise.cons (fun B hB=>?_) G.sep,fun A hA' b hb=>?_,fun _ _ _ _=> .inr trivial⟩
 ·rcases cm.1 hA' with rfl|hA'
  ·exact hA
  ·exact G.holds A hA'
 ·obtain ⟨B',hB',rfl⟩:=db.1 hB
  exact E B' hB'
 ·rcases cm.1 hA' with rfl|hA'
  ·exact .inr hb
  ·obtain ⟨B',hB',rfl⟩:=db.1 hA'
   exact hb.elim
section
variable {E:fH} {ops:Array Oper} {Q:dv} {rest:List Oper} {D:List Deferred} {L:List (Nat×Value)} {C:List ay}
variable {d:Nat} {ty:TypeId} {ps:String} {af:Array Edge} {g:Option (Nat×Bool)}
/-- a call of yield -/
theorem yQ {σ:Type} {fop:Operand} {xs:Array Operand} {ts:Array TypeId} {l:Nat} {k k':σ} {vs:List Value} {step:σ→List Value→σ→Prop} {J:σ→ay→Prop} {Z:ay→Prop} {A0 A:ay} {w1:World} (i:Nat) (hw1:w1.heap.size≤E.w0.heap.size) (hY:UT w1 E.P l step J Z) (hJ:J k A) (hF:Fo A0 w1 A) (hg:ke ops L g=true) (hf:ev L fop=some (.func (.yield l) #[] #[]))
 (hx:evs L xs.toList=some vs) (hk:step k vs k') (hC:C[i]? =some A) (hd:Nat.blt d E.n=true)
 (k1: ∀ B,J k' B→Fo A0 w1 B→RJ E ops Q rest D ((d,.bool true)::L) (C.set i B))
 (k2: ∀ B,Z B→Fo A0 w1 B→RJ E ops Q rest D ((d,.bool false)::L) (C.set i B)):
 RJ E ops Q (⟨some d,.call {callee:= .value fop,args:=xs,argTypes:=ts},ty,ps,af,g⟩::rest) D L C:=by
 intro a w F hs
 have hd':d<E.n:=by rw [← Nat.blt_eq]; exact hd
 unfold tg
 rw [if_pos (eK F hg)]
 have K:xs.map a.eval=vs.toArray:=by
  have:=F.evs hx
  apply Array.ext'
  simp [this]
 obtain ⟨fn,tmps,assign,body,hy,hr⟩:=hY k vs k' A w hk hJ (Nat.le_trans hw1 hs.keeps.size) (hs.holds A (aP hC))
 have H:(execOp a.eval ⟨some d,.call {callee:= .value fop,args:=xs,argTypes:=ts},ty,ps,af,g⟩).run E.P w= .ok (.round l fn tmps assign body) w:=by
  simp [execOp,resolve,F.ev hf,Deferred.ofValue,invoke,K,hy]
 refine ⟨fun _ _=>trivial,?_⟩
 rw [Oper.semAt_eq _ _ _ sm,H]
 refine ⟨fun h=>by simp at h,?_⟩
 have G: ∀ (B:ay) (w':World),Mv A B w w'→Fo A0 w1 B:=fun B w' m b hb=>by
  rcases m.fO b hb with AA|AA
  ·exact hF b AA
  ·exact .inr (Nat.le_trans hw1 (Nat.le_trans hs.keeps.size AA))
 have hr':RoundIn (Fw E.r) 0 E.P l fn tmps assign body w _:=hr
 refine hr'.mono fun e w' he=>?_
 rcases he with ⟨rfl,B,hB,m⟩|⟨rfl,B,hB,m⟩
 ·exact k1 B hB (G B w' m) _ _ (F.put hd' _) (hs.mv i hC m)
 ·exact k2 B hB (G B w' m) _ _ (F.put hd' _) (hs.mv i hC m)
end
theorem vh {σ:Type} {E:fH} {Q:dv} {D:iw} {L L0:dG} {C F:List ay} {g:Operand} {ps:Array Tmp} {assign body:Code} {f:FuncId} {fi ca:List Value} {Cp:List ay} {s0:σ} {step:σ→List Value→σ→Prop} {fin_:σ→Prop} {ι κ:Type}
 (inv:σ→ι→Prop) (Ci:σ→ι→List ay) (invx:Code→κ→Prop) (Cx:Code→κ→List ay) (isJ isF:List Nat) (y0:ι)
 (hr:E.r=none) (hg:ev L g=some (.func (.func f) fi.toArray ca.toArray)) (hs:MG E.P f fi ca Cp s0 step fin_)
 (hnd:decide (isJ++isF).Nodup=true) (hJ:kR C isJ=Ci s0 y0) (hF:kR C isF=F) (h0:inv s0 y0) (hCp: ∀ A∈Cp,∃ B∈F,Kf B A)
 (hps: ∀ k x k',step k x k'→x.length=ps.size) (hpn:ps.toList.all (fun t=>Nat.blt t E.n)=true) (hL:cR L L0)
 (round: ∀ (k:σ) (x:List Value) (k':σ) (y:ι) (l:Nat) (ra rb:Loop) (S:BS) (w0:World) (K:Act→World→Prop) (Qr:dv),E.w0.heap.size≤w0.heap.size→step k x k'→inv k y→
  (∀ L' C',WJ ⟨E.P,some l,E.n,S,w0⟩ body Qr [] L' (ju l (.loop rb)::C')→KJ ⟨E.P,some l,E.n,S,w0⟩ K [] L' (ju l (.loop ra)::C'))→
  (∀ y' L' C',inv k' y'→(∀ w,St S w0 C' w→St S w0 (ju l (.loop rb)::Ci k' y') w)→KJ ⟨E.P,some l,E.n,S,w0⟩ (Qr .normal) [] L' C')→
  (∀ id z L' C',invx (.exit id) z→(∀ w,St S w0 C' w→St S w0 (ju l (.loop rb)::Cx (.exit id) z) w)→KJ ⟨E.P,some l,E.n,S,w0⟩ (Qr (.exit id)) [] L' C')→
  (∀ z L' C',invx .ret z→(∀ w,St S w0 C' w→St S w0 (ju l (.loop rb)::Cx .ret z) w)→KJ ⟨E.P,some l,E.n,S,w0⟩ (Qr .ret) [] L' C')→
  WJ ⟨E.P,some l,E.n,S,w0⟩ assign (Exit.then K (fun _ _ _=>False)) [] (yY ps.toList x L0) (ju l (.loop ra)::Ci k y))
 (fin: ∀ r s y,fin_ s→inv s y→KJ E (Q .normal) (j0 r::D) L0 (ju r (.deferred (some []))::(F++Ci s y)))
 (finx: ∀ r id z,invx (.exit id) z→KJ E (Q (.exit id)) (j0 r::D) L0 (ju r (.deferred (some []))::(F++Cx (.exit id) z)))
 (finr: ∀ r z,invx .ret z→KJ E (Q .ret) (j0 r::D) L0 (ju r (.deferred (some []))::(F++Cx .ret z))):WJ E (.rangeFunc g ps assign body) Q D L C:=by
 intro a w hf q
 refine wpIn_rangeFunc fun fn _=>?_
 show ∃ l j0 w₁ d w₁' f args w₂,(Instr.enterLoop fn a.tmps ps assign body E.r).run E.P w= .ok (l,j0) w₁∧_
 rw [hr]
 obtain ⟨rec,G⟩: ∃ rec:LoopState→Option Code→Loop,rec=fun st pe=>{state:=st,pending:=pe,fn,tmps:=a.tmps,params:=ps,assign,body,defers:=w.heap.size}:=⟨_,rfl⟩
 obtain ⟨W1,R⟩: ∃ W1,(w.alloc (.deferred (some []))).alloc (.loop (rec .ready none))=W1:=⟨_,rfl⟩
 have A1:a.eval g= .func (.func f) fi.toArray ca.toArray:=hf.ev hg
 have p:(Instr.enterLoop fn a.tmps ps assign body none).run E.P w= .ok (w.heap.size+1,[j0 w.heap.size]) W1:=by
  rw [← R,G]; exact run_enterLoop_outer _ _ _ _ _
 -- the state with the record and the block
 have u:St E.S E.w0 ((ju (w.heap.size+1) (.loop (rec .ready none))::Ci s0 y0)++(ju w.heap.size (.deferred (some []))::F)) W1:=by
  have X:St E.S E.w0 (Ci s0 y0++F) w:=St.kR (isJ++isF) hnd (by have X:=hJ; have j:=hF; unfold Go.Proofs.YtkaenmjhfajbkaaGreatDoor.kR at X j ⊢; rw [List.filterMap_append,X,j]) q
  have hn:LG w W1 [ju (w.heap.size+1) (.loop (rec .ready none)),ju w.heap.size (.deferred (some []))]:=by
   refine ⟨fun A hA=>?_,fun A hA b hb=>?_,?_⟩
   ·rcases cm.1 hA with rfl|hA
    ·show W1.heap[w.heap.size+1]? =_
     rw [← R]; have:=World.alloc_heap_new (w.alloc (.deferred (some []))) (.loop (rec .ready none)); rwa [World.size_alloc] at this
    ·simp only [cH] at hA; subst hA
     show W1.heap[w.heap.size]? =_
     rw [← R]; exact (Below.heap_alloc _ _ _ sm).trans (World.alloc_heap_new w _)
   ·rcases cm.1 hA with rfl|hA
    ·have:b=w.heap.size+1:=hb
     omega
    ·simp only [cH] at hA; subst hA
     have:b=w.heap.size:=hb
     omega
   ·refine List.Pairwise.cons (fun B hB b X j=>?_) (List.pairwise_singleton _ _)
    simp only [cH] at hB; subst hB
    have V:b=w.heap.size+1:=X
    have O:b=w.heap.size:=j
    omega
  have hk:dY no w W1:=by rw [← R]; exact (dY.alloc no w _).trans (dY.alloc no _ _)
  have j:=X.grow hk hn
  refine j.perm ?_
  simp only [List.cons_append,List.nil_append]
  exact List.Perm.cons _ (List.perm_middle.symm)
 have Y:=u.tied
 obtain ⟨H,A6⟩:=List.pairwise_cons.1 Y.sep
 have AO:=Y.holds _ (cr ..)
 let J:σ→ay→Prop:=fun k A=> ∃ y,inv k y∧A=bQ (ju (w.heap.size+1) (.loop (rec .ready none))::Ci k y)
 let Z:ay→Prop:=fun A=> ∃ c z,(c= .ret∨ ∃ id,c= .exit id)∧invx c z∧A=bQ (ju (w.heap.size+1) (.loop (rec .done (some c)))::Cx c z)
 refine ⟨w.heap.size+1,[j0 w.heap.size],W1,{target:= .fn (.func f) ca.toArray,args:=fi.toArray++ #[.func (.yield (w.heap.size+1)) #[] #[]]},W1,f,
  (fi++Value.func (.yield (w.heap.size+1)) #[] #[]::ca).toArray,W1,p,?_,fun _ _=>trivial,?_,fun h=>by simp at h,?_⟩
 ·simp only [resolve,A1]
  simp [Deferred.ofValue,Act.eval]
 ·have:fi.toArray++ #[Value.func (.yield (w.heap.size+1)) #[] #[]]++ca.toArray=(fi++Value.func (.yield (w.heap.size+1)) #[] #[]::ca).toArray:=by simp
  simp [invoke,nE hs.go]
 ·refine (pw E.r (hs.run (w.heap.size+1) J Z _ W1 ?_ ⟨y0,h0,U⟩ AO ?_ ?_)).mono ?_
  ·-- a round
   rintro k x k' A W hx ⟨y,hy,rfl⟩ A0 hA
   have hl:W.heap[w.heap.size+1]? =some (.loop (rec .ready none)):=hA.1 _ (cr ..)
   have AC:=run_yield (P:=E.P) (args:=x.toArray) hl (by rw [G]; simpa using hps k x k' hx)
   rw [G] at AC
   refine ⟨fn,_,assign,body,AC,roundIn_of_wpIn trivial ?_⟩
   let A:ay:=bQ (ju (w.heap.size+1) (.loop (rec .ready none))::Ci k y)
   have A2:Fr E.n [] (yY ps.toList x L0) {tmps:=(ps.zip x.toArray).foldl (fun tmps (t,a)=>tmps.setIfInBounds t a) a.tmps,defers:=[]}:=by
    have X:=D_ ps.toList x L0 a.tmps (fun t ht=>by have:=c_.1 hpn t ht; rwa [Nat.blt_eq] at this) ⟨rfl,hf.size,fun t v hv=>hf.at_ t v (hL t v hv)⟩
    rw [← Array.foldl_toList]
    simpa using X
   have o: ∀ (c:Option Code) (b:Bool),({rec .busy none with state:=if b then .ready else .done,pending:=c}:Loop)=rec (if b then .ready else .done) c:=fun c b=>by rw [G]
   have T: ∀ (c:Option Code) (N:World) (C':List ay) (S:BS),St S W (ju (w.heap.size+1) (.loop (rec .busy none))::C') N→
    ∃ M,(Instr.endRound (w.heap.size+1) c).run E.P N= .ok (.bool c.isNone) M∧St S W (ju (w.heap.size+1) (.loop (rec (if c.isNone then .ready else .done) c))::C') M:=fun c N C' S H=>by
    have AB:N.heap[w.heap.size+1]? =some (.loop (rec .busy none)):=H.holds _ (cr ..)
    refine ⟨_,run_endRound c AB,?_⟩
    have:=H.As (b:=w.heap.size+1) (A':=ju (w.heap.size+1) (.loop (rec (if c.isNone then .ready else .done) c))) 0 rfl rfl rfl (ij _) (fun _ h=>h) (World.putObj_heap_same (eB AB))
    rw [o]
    exact this
   refine round k x k' y (w.heap.size+1) (rec .ready none) (rec .busy none) ⟨A.wf,A.fO⟩ W _ (roundPost E.P (w.heap.size+1) (fun e w'=>(e= .returned (.bool true)∧ ∃ B,J k' B∧Mv A B W w')∨(e= .returned (.bool false)∧ ∃ B,Z B∧Mv A B W w'))) (Nat.le_trans (Nat.le_trans q.keeps.size (by rw [← R]; simp; omega)) A0) hx hy ?_ ?_ ?_ ?_ _ _ A2 (St.Ac hA)
   ·intro L' C' hW a1 N i H
    have AB:N.heap[w.heap.size+1]? =some (.loop (rec .ready none)):=H.holds _ (cr ..)
    refine ⟨_,run_beginRound AB (by rw [G]),hW _ _ i ?_⟩
    have:=H.As (b:=w.heap.size+1) (A':=ju (w.heap.size+1) (.loop (rec .busy none))) 0 rfl rfl rfl (ij _) (fun _ h=>h) (World.putObj_heap_same (eB AB))
    have e:({rec .ready none with state:= .busy}:Loop)=rec .busy none:=by rw [G]
    rw [e]; exact this
   ·intro y' L' C' hy' hC' a1 N i H
    obtain ⟨M,V,O⟩:=T none N _ _ (hC' _ H)
    exact ⟨_,M,V,.inl ⟨U,_,⟨y',hy',U⟩,Mv.of O⟩⟩
   ·intro id z L' C' hz hC' a1 N i H
    obtain ⟨M,V,O⟩:=T (some (.exit id)) N _ _ (hC' _ H)
    exact ⟨_,M,V,.inr ⟨U,_,⟨_,z,.inr ⟨id,U⟩,hz,U⟩,Mv.of O⟩⟩
   ·intro z L' C' hz hC' a1 N i H
    obtain ⟨M,V,O⟩:=T (some .ret) N _ _ (hC' _ H)
    exact ⟨_,M,V,.inr ⟨U,_,⟨_,z,.inl U,hz,U⟩,Mv.of O⟩⟩
  ·intro A hA
   obtain ⟨B,hB,hc⟩:=hCp A hA
   exact hc.holds _ (Y.holds B (dH _ (dH _ hB)))
  ·intro A hA b hb hb'
   obtain ⟨B,hB,hc⟩:=hCp A hA
   exact ⟨(H B (dH _ hB) b hb (hc.fO b hb')).1,fun h=>h⟩
  ·rintro e w' ⟨v,rfl,hh⟩
   have AA:Fr E.n (j0 w.heap.size::D) L0 {a with defers:=[j0 w.heap.size]++a.defers}:=⟨by simp [hf.defers],hf.size,fun t v hv=>hf.at_ t v (hL t v hv)⟩
   have hleave: ∀ (st:LoopState) (c:Option Code) (C':List ay),st≠ .busy→Mv (bQ (ju (w.heap.size+1) (.loop (rec .ready none))::Ci s0 y0)) (bQ (ju (w.heap.size+1) (.loop (rec st c))::C')) W1 w'→
    ∃ M,(Instr.endLoop (w.heap.size+1)).run E.P w'= .ok c M∧St E.S E.w0 (ju w.heap.size (.deferred (some []))::(F++C')) M:=fun st c C' A4 m=>by
    have X:=(Y.mv 0 rfl m).iM
    have h1':St E.S E.w0 ((ju (w.heap.size+1) (.loop (rec st c))::C')++(ju w.heap.size (.deferred (some []))::F)) w':=X
    have AB:w'.heap[w.heap.size+1]? =some (.loop (rec st c)):=h1'.holds (ju (w.heap.size+1) (.loop (rec st c))) sm
    refine ⟨_,by have:=run_endLoop (P:=E.P) AB (by rw [G]; exact A4); rw [this,G],?_⟩
    have j:=h1'.As (b:=w.heap.size+1) (A':=ju (w.heap.size+1) (.loop {rec st c with state:= .exhausted})) 0 rfl rfl rfl (ij _) (fun _ h=>h) (World.putObj_heap_same (eB AB))
    have h3:St E.S E.w0 (C'++(ju w.heap.size (.deferred (some []))::F)) _:=j.take (List.sublist_cons_self _ _)
    rw [G] at h3
    refine h3.perm ?_
    exact (List.perm_append_comm).trans sm
   rcases hh with ⟨s,B,A3,⟨y,hy,rfl⟩,m⟩|⟨B,⟨c,z,hc,hz,rfl⟩,m⟩
   ·obtain ⟨M,V,O⟩:=hleave .ready none _ sm m
    exact ⟨none,M,V,fin w.heap.size s y A3 hy _ _ AA O⟩
   ·obtain ⟨M,V,O⟩:=hleave .done (some c) _ sm m
    refine ⟨some c,M,V,?_⟩
    rcases hc with rfl|⟨id,rfl⟩
    ·exact wpIn_ret (finr w.heap.size z hz _ _ AA O)
    ·exact wpIn_exit (finx w.heap.size id z hz _ _ AA O)
end
section
open Go.RowKit
/-- where a row lies, and its capacity -/
abbrev RA:=OA×Nat
/-- what is asked of memory by all elements -/
def bK {M A:Type} (f:M→A→List ay):List M→List A→List ay
 |m::ms,a::asl=>f m a++bK f ms asl
 |_,_=>[]
theorem bB {M A:Type} {f:M→A→List ay}: ∀ {ms:List M} {asl:List A} {k:Nat} {m:M} {a:A} {X:ay},ms[k]? =some m→asl[k]? =some a→X∈f m a→X∈bK f ms asl
 |[],_,k,m,a,X,h,_,_=>by simp at h
 |_::_,[],k,m,a,X,_,h,_=>by simp at h
 |x::ms,y::asl,0,m,a,X,h,h2,hX=>by
  simp at h h2; subst h h2
  exact List.mem_append_left _ hX
 |x::ms,y::asl,k+1,m,a,X,h,h2,hX=>List.mem_append_right _ (bB (ms:=ms) (asl:=asl) (k:=k) (by simpa using h) (by simpa using h2) hX)
theorem ku {M A:Type} {f:M→A→List ay}: ∀ {ms:List M} {asl:List A} {X:ay},X∈bK f ms asl→ ∃ (k:Nat) (m:M) (a:A),ms[k]? =some m∧asl[k]? =some a∧X∈f m a
 |[],_,X,h=>by cases h
 |_::_,[],X,h=>by cases h
 |x::ms,y::asl,X,h=>by
  rcases gR.1 h with h|h
  ·exact ⟨0,x,y,U,U,h⟩
  ·obtain ⟨k,m,a,B,C,D⟩:=ku h
   exact ⟨k+1,m,a,by simpa using B,by simpa using C,D⟩
theorem jJ {M A:Type} {f:M→A→List ay}: ∀ {ms:List M} {asl:List A} {ns:List M} {bs:List A},ms.length=asl.length→bK f (ms++ns) (asl++bs)=bK f ms asl++bK f ns bs
 |[],[],ns,bs,_=>rfl
 |[],_::_,ns,bs,h=>by simp at h
 |_::_,[],ns,bs,h=>by simp at h
 |x::ms,y::asl,ns,bs,h=>by
  simp only [List.cons_append,bK,List.append_assoc]
  rw [jJ (by simpa using h)]
theorem cG {M A β:Type} {f:M→A→β} {ms:List M} {asl:List A} {k:Nat} {m:M} {a:A} (h:ms[k]? =some m) (h2:asl[k]? =some a):(List.zipWith f ms asl)[k]? =some (f m a):=by
 rw [List.getElem?_zipWith,h,h2]
theorem cd {C L:List ay} {A:ay} (i:Nat) (hC:C[i]? =some (iK L).ro) (hm:A∈L):g9 C A.holds:=fun w hw=>hw _ (aP hC) A hm
theorem eP {M A:Type} {f g:M→A→List ay} {ms:List M} {asl:List A} {C:List ay} (i:Nat) (hC:C[i]? =some (bQ (bK g ms asl))) (h: ∀ m a w,(∀ X∈g m a,X.holds w)→ ∀ X∈f m a,X.holds w):g9 C (iK (bK f ms asl)).holds:=fun w hw X hX=>by
 have hb:=hw _ (aP hC)
 obtain ⟨k,m,a,B,D,E⟩:=ku hX
 exact h m a w (fun Y hY=>hb.1 Y (bB B D hY)) X E
/-- a row that is part of another one -/
theorem LO {C:List ay} {A:OA} {n k sz:Nat} {es:List (List Value)} (hR:g9 C (rd A n sz es).holds) (hk:k≤n):g9 C (rd A k sz (es.take k)).holds:=fun w hw=>by
 obtain ⟨D,E,F⟩:=hR w hw
 refine ⟨by rw [List.length_take,D]; omega,fun x hx=>E x (List.mem_of_mem_take hx),fun hp=>?_⟩
 have G:0<k:=Nat.pos_of_mul_pos_right hp
 have hs:0<sz:=Nat.pos_of_mul_pos_left hp
 obtain ⟨ad,hA,B⟩:=F (Nat.mul_pos om hs)
 refine ⟨ad,hA,fun i e j v he hv=>B i e j v ?_ hv⟩
 rw [List.getElem?_take] at he
 split at he
 ·exact he
 ·cases he
section
variable {E:fH} {ops:Array Oper} {Q:dv} {rest:List Oper} {D:List Deferred} {L:List (Nat×Value)} {C:List ay}
variable {d:Nat} {ty:TypeId} {ps:String} {af:Array Edge} {g:Option (Nat×Bool)}
/-- an element of a slice that is the head of a row -/
theorem VD (k:Nat) {x ix:Operand} {A:OA} {n n' c sz e t:Nat} {es:List (List Value)} {j:Int} (h:bF E.n ops L d g x ix=some (.slice A n' c,.int .i64 j)) (hR:g9 C (rd A n sz es).holds)
 (ht:tE E.P t=some (e,sz)) (hz:0<sz) (hj:j=(k:Int)) (hk:k<n') (hn:n'≤n):SE E ops ⟨some d,.indexAddr t x ix,ty,ps,af,g⟩ D L C (.pointer (my A (k*sz))) d:=IA k h (LO hR hn) ht hz hj hk
end
theorem St.tie {S:BS} {w0 w:World} {C:List ay} {A:ay} {L L':List ay} (h:St S w0 (A::bQ L::C) w) (e:L++[A]=L'):St S w0 (bQ L'::C) w:=by
 subst e
 have B:St S w0 (bQ L::A::C) w:=h.perm (List.Perm.swap _ _ _)
 have D:St S w0 (L++(A::C)) w:=B.iM
 have E:St S w0 ((L++[A])++C) w:=by simpa using D
 exact E.tied
theorem St.Pp {S:BS} {w0 w:World} {C:List ay} (h:St S w0 C w):St S w0 (bQ []::C) w:=St.tied (C1:=[]) h
section
variable {E:fH} {Q:dv} {D:List Deferred} {L:List (Nat×Value)} {C:List ay}
theorem lx {c:Code} (h:WJ E c Q D L (bQ []::C)):WJ E c Q D L C:=fun a w hf hs=>h a w hf hs.Pp
theorem yl {ops:Array Oper} {rest:List Oper} (h:RJ E ops Q rest D L (bQ []::C)):RJ E ops Q rest D L C:=fun a w hf hs=>h a w hf hs.Pp
theorem yE {K:Act→World→Prop} {C1:List ay} {A:ay} {X X':List ay} (i j:Nat) (hn:decide (j::i::(List.range C.length).filter fun k=>k != i&&k != j).Nodup=true) (hC:kR C (j::i::(List.range C.length).filter fun k=>k != i&&k != j)=A::bQ X::C1) (e:X++[A]=X')
 (h:KJ E K D L (bQ X'::C1)):KJ E K D L C:=fun a w hf hs=>h a w hf ((St.kR _ hn hC hs).tie e)
theorem S7 {ops:Array Oper} {rest:List Oper} {C1:List ay} {A:ay} {X X':List ay} (i j:Nat) (hn:decide (j::i::(List.range C.length).filter fun k=>k != i&&k != j).Nodup=true) (hC:kR C (j::i::(List.range C.length).filter fun k=>k != i&&k != j)=A::bQ X::C1) (e:X++[A]=X')
 (h:RJ E ops Q rest D L (bQ X'::C1)):RJ E ops Q rest D L C:=fun a w hf hs=>h a w hf ((St.kR _ hn hC hs).tie e)
end
end
section
open Go.RowKit
abbrev j8:ai→Value:=fun s=>vA (ai.cells s)
abbrev eL:aQ→Value:=fun s=>vA (aQ.cells s)
abbrev TM:=List (Int×ai)
abbrev FM:=List (aQ×Int)
def gK {α:Type} (m:α) (b:Nat):List Value:=[Value.map (some b)]
def qq (m:TM) (b:Nat):List ay:=[kx iV b (cT j8 m)]
def nv (m:FM) (b:Nat):List ay:=[kx eL b (cT iV m)]
theorem l4 {M A:Type} {f:M→A→List ay}: ∀ (m:M) (a:A) (w:World),(∀ X∈f m a,X.holds w)→ ∀ X∈f m a,X.holds w:=fun _ _ _ h=>h
/-- untied -/
theorem ET {E:fH} {ops:Array Oper} {Q:dv} {rest:List Oper} {D:iw} {L:dG} {C X C1:List ay} (i:Nat) (hn:decide (i::(List.range C.length).filter fun k=>k != i).Nodup=true) (hC:kR C (i::(List.range C.length).filter fun k=>k != i)=bQ X::C1)
 (h:RJ E ops Q rest D L (X++C1)):RJ E ops Q rest D L C:=fun a w hf hs=>h a w hf (St.iM (St.kR _ hn hC hs))
end
section
def cV (ln:bW) (rd:de) (e:List Int) (tms:List TM):cp:=⟨rd.Start,rd.gL,e,tms,ln.cU,ln.ew,(rd.aa.n:Int)⟩
def OL (o:Int×ai):List Value:=[.int .i64 o.1,.agg (ai.cells o.2).toArray]
structure Hs (w:cp):Prop where
 n:w.n≤6
 times:w.z6.length=w.n
 now:0≤w.Start∧w.Start≤w.gL∧w.gL≤86400000
 least: ∀ x∈w.qO,1≤x∧x≤500000000
 EZ: ∀ t∈w.z6,∀ p∈t,(0≤p.1∧p.1≤10)∧0≤p.2.Lo∧p.2.Lo≤p.2.Hi∧p.2.Hi≤86400000
theorem Hs.opt {w:cp} (h:Hs w) {b:Nat} {o:Int×ai} (ho:o∈jZ w b):(-1≤o.1∧o.1≤10)∧0≤o.2.Lo∧o.2.Lo≤o.2.Hi∧o.2.Hi≤86400000:=by
 unfold jZ wX at ho
 rcases cm.1 ho with rfl|ho
 ·have:=h.now; simp only; omega
 ·cases ht:w.z6[b]? with
  |none=>simp [ht] at ho
  |some t=>
   rw [ht] at ho
   have:=h.EZ t (aP ht) o ho
   omega
theorem Hs.cY {w:cp} (h:Hs w) (b:Nat):0≤cY w b∧cY w b≤500000000:=by
 unfold Go.Proofs.YtkaenmjhfajbkaaGreatDoor.cY
 cases ht:w.qO[b]? with
 |none=>simp
 |some x=>have:=h.least x (aP ht); simp only [Option.getD_some]; omega
theorem vM (s:Int):(0≤(gE s).right∧0≤(gE s).fB)∧(gE s).right+(gE s).fB=1:=by unfold gE; split<;>simp
theorem Jz {w:cp} (h:Hs w): ∀ (b:Nat) p,p∈pW w b→(0≤p.2∧p.2≤86400000)∧(0≤p.1.right∧0≤p.1.fB)∧p.1.right+p.1.fB=(b:Int):=by
 intro b
 induction b with
 |zero=>
  intro p hp
  simp only [pW,cH] at hp
  subst hp
  have:=h.now; simp only; omega
 |succ b ih=>
  intro q hq
  obtain ⟨p,hp,o,ho,e⟩:=kD.1 hq
  have A:=ih p hp
  have B:=h.opt ho
  have C:=h.cY b
  have D:=h.now
  have E:=vM o.1
  unfold nj at e
  split at e
  ·simp only [Option.some.injEq] at e
   subst e
   simp only [dR]
   omega
  ·cases e
theorem Sr {w:cp} (h:Hs w): ∀ (k:Nat) p,p∈NW w k→(-(500000000*(k:Int))≤p.2∧p.2≤86400000)∧(0≤p.1.right∧0≤p.1.fB)∧p.1.right+p.1.fB≤(k:Int):=by
 intro k
 induction k with
 |zero=>
  intro p hp
  simp only [NW,cH] at hp
  subst hp
  have:=h.now; simp only; omega
 |succ k ih=>
  intro q hq
  simp only [NW,cm,List.mem_flatMap,List.mem_filterMap] at hq
  rcases hq with rfl|⟨p,hp,o,ho,e⟩
  ·have:=h.now; simp only; omega
  ·have A:=ih p hp
   have B:=h.opt ho
   have C:=h.cY (w.n-(k+1))
   have D:=h.now
   have E:=vM o.1
   unfold pO at e
   split at e
   ·simp only [Option.some.injEq] at e
    subst e
    simp only [dR]
    omega
   ·cases e
theorem Lu {w:cp} (h:Hs w) {b:Nat} {p:aQ×Int} (hp:p∈back w b):(-3000000000≤p.2∧p.2≤86400000)∧(0≤p.1.right∧0≤p.1.fB)∧p.1.right+p.1.fB≤6:=by
 have:=Sr h _ _ hp
 have:=h.n
 omega
theorem ye {w:cp} {b:Nat} {t:TM} (ht:w.z6[b]? =some t) {o:Int×ai}:o∈jZ w b↔o=(-1,⟨w.Start,w.gL⟩)∨o∈t:=by
 unfold jZ wX; rw [ht]; simp
theorem mI {K β:Type} [DecidableEq K] {l:List (K×β)} {x:K} {y:β} (hn:(l.map (·.1)).Nodup) (hm:(x,y)∈l) {o:K×β} (h:o∈l):o∈fz l x∨o=(x,y):=by
 by_cases e:o.1=x
 ·right
  obtain ⟨k,v⟩:=o
  simp only at e
  subst e
  have B:=(lI hn).1 h
  have A:=(lI hn).1 hm
  rw [B] at A
  cases A; rfl
 ·exact .inl (zx.2 ⟨h,e⟩)
theorem Hd {K β:Type} [DecidableEq K] {t l ys:List (K×β)} {x:K} {y:β} (hn:(l.map (·.1)).Nodup) (hm:(x,y)∈l) (h: ∀ o∈t,o∈l∨o∈ys): ∀ o∈t,o∈fz l x∨o∈ys++[(x,y)]:=fun o ho=>by
 rcases h o ho with h|h
 ·rcases mI hn hm h with h|h
  ·exact .inl h
  ·exact .inr (by simp [h])
 ·exact .inr (by simp [h])
theorem mY {K β:Type} [DecidableEq K] {t l:List (K×β)} {x:K} (h: ∀ o∈l,o∈t): ∀ o∈fz l x,o∈t:=fun o ho=>h o (zx.1 ho).1
theorem JS {w:cp} {m left:List (aQ×Int)} (h: ∀ p∈m,p∈left∨nm w p.1=false) (h0:left=[]):lh w m=false:=by
 unfold lh
 rw [List.any_eq_false]
 intro p hp
 rcases h p hp with q|q
 ·rw [h0] at q; cases q
 ·simp [q]
theorem Mj {w:cp} {m:List (aQ×Int)} {p:aQ×Int} (hp:p∈m) (h:nm w p.1=true):lh w m=true:=List.any_eq_true.2 ⟨p,hp,h⟩
theorem Jj {w:cp} {m left:List (aQ×Int)} {t:aQ} {v:Int} (hn:(left.map (·.1)).Nodup) (hm:(t,v)∈left) (h: ∀ p∈m,p∈left∨nm w p.1=false) (hf:nm w t=false): ∀ p∈m,p∈fz left t∨nm w p.1=false:=fun p hp=>by
 rcases h p hp with q|q
 ·rcases mI hn hm q with q|q
  ·exact .inl q
  ·right; rw [q]; exact hf
 ·exact .inr q
/-- what the maps of a watch are -/
structure wh (w:cp) (fs:List (List (aQ×Int))):Prop where
 len:fs.length=w.n+1
 min: ∀ (b:Nat) m,fs[b]? =some m→vd m (pW w b)
 keys: ∀ (b:Nat) m,fs[b]? =some m→(m.map (·.1)).Nodup
structure tw (w:cp) (bs:List (List (aQ×Int))):Prop where
 len:bs.length=w.n+1
 max: ∀ (b:Nat) m,bs[b]? =some m→wD m (back w b)
 keys: ∀ (b:Nat) m,bs[b]? =some m→(m.map (·.1)).Nodup
theorem wh.mem {w:cp} {fs:List (List (aQ×Int))} (h:wh w fs) {b:Nat} {m:List (aQ×Int)} (hm:fs[b]? =some m) {p:aQ×Int} (hp:p∈m):p∈pW w b:=(h.min b m hm).1 _ _ ((fR (h.keys b m hm)).1 hp)
theorem tw.mem {w:cp} {fs:List (List (aQ×Int))} (h:tw w fs) {b:Nat} {m:List (aQ×Int)} (hm:fs[b]? =some m) {p:aQ×Int} (hp:p∈m):p∈back w b:=(h.max b m hm).1 _ _ ((fR (h.keys b m hm)).1 hp)
theorem GS {w:cp} {b:Nat} {t l ys:List (Int×ai)} (ht:w.z6[b]? =some t) (h: ∀ o∈t,o∈l∨o∈ys) (h0:l=[]) (hs:(-1,(⟨w.Start,w.gL⟩:ai))∈ys): ∀ o∈jZ w b,o∈ys:=fun o ho=>by
 rcases (ye ht).1 ho with rfl|ho
 ·exact hs
 ·rcases h o ho with q|q
  ·rw [h0] at q; cases q
  ·exact q
end
section
/-- by these options all is yielded -/
def mg (w:cp) (b:Nat) (mf mb:List (aQ×Int)) (os ys:List (Int×ai)):Prop:= ∀ o∈os,∀ p∈mf,∀ u∈mb,∀ q,m_ w b p u o=some q→q∈ys
def oo (w:cp) (b:Nat) (mf mb:List (aQ×Int)) (o:Int×ai) (left:List (aQ×Int)) (ys:List (Int×ai)):Prop:= ∀ p∈mf,p∈left∨ ∀ u∈mb,∀ q,m_ w b p u o=some q→q∈ys
def oj (w:cp) (b:Nat) (mb:List (aQ×Int)) (o:Int×ai) (p:aQ×Int) (left:List (aQ×Int)) (ys:List (Int×ai)):Prop:= ∀ u∈mb,u∈left∨ ∀ q,m_ w b p u o=some q→q∈ys
variable {w:cp} {b:Nat} {mf mb left:List (aQ×Int)} {o x:Int×ai} {os ys:List (Int×ai)} {p u:aQ×Int}
theorem mg.nil:mg w b mf mb [] ys:=fun o ho=>by cases ho
theorem mg.app (h:mg w b mf mb os ys):mg w b mf mb os (ys++[x]):=fun o ho p hp u hu q e=>List.mem_append_left _ (h o ho p hp u hu q e)
theorem oo.app (h:oo w b mf mb o left ys):oo w b mf mb o left (ys++[x]):=fun p hp=>(h p hp).imp id fun h u hu q e=>List.mem_append_left _ (h u hu q e)
theorem oo.start:oo w b mf mb o mf ys:=fun p hp=> .inl hp
theorem oj.start:oj w b mb o p mb ys:=fun p hp=> .inl hp
theorem oj.skip {t:aQ} {v:Int} (hn:(left.map (·.1)).Nodup) (hm:(t,v)∈left) (h:oj w b mb o p left ys) (he:m_ w b p (t,v) o=none):oj w b mb o p (fz left t) ys:=fun u hu=>by
 rcases h u hu with q|q
 ·rcases mI hn hm q with q|q
  ·exact .inl q
  ·right; intro z hz; rw [q,he] at hz; cases hz
 ·exact .inr q
theorem oj.U0 {t:aQ} {v:Int} (hn:(left.map (·.1)).Nodup) (hm:(t,v)∈left) (h:oj w b mb o p left ys) (he:m_ w b p (t,v) o=some x):oj w b mb o p (fz left t) (ys++[x]):=fun u hu=>by
 rcases h u hu with q|q
 ·rcases mI hn hm q with q|q
  ·exact .inl q
  ·right; intro z hz; rw [q,he] at hz; cases hz; simp
 ·right; intro z hz; exact List.mem_append_left _ (q z hz)
theorem oo.next {t:aQ} {v:Int} {l2:List (aQ×Int)} (hn:(left.map (·.1)).Nodup) (hm:(t,v)∈left) (h:oo w b mf mb o left ys) (hq:oj w b mb o (t,v) l2 ys) (h0:l2=[]):oo w b mf mb o (fz left t) ys:=fun p hp=>by
 rcases h p hp with q|q
 ·rcases mI hn hm q with q|q
  ·exact .inl q
  ·right; intro u hu z hz; subst q
   rcases hq u hu with q|q
   ·rw [h0] at q; cases q
   ·exact q z hz
 ·exact .inr q
theorem mg.next (h:mg w b mf mb os ys) (hp:oo w b mf mb o left ys) (h0:left=[]):mg w b mf mb (os++[o]) ys:=fun o' ho p hp' u hu q e=>by
 rcases gR.1 ho with ho|ho
 ·exact h o' ho p hp' u hu q e
 ·simp only [cH] at ho; subst ho
  rcases hp p hp' with z|z
  ·rw [h0] at z; cases z
  ·exact z u hu q e
theorem mg.fin (h:mg w b mf mb os ys) (ho: ∀ o∈jZ w b,o∈os): ∀ q∈qQ w b mf mb,q∈ys:=fun q hq=>by
 obtain ⟨o,A,p,B,u,C,e⟩:=jz.1 hq
 exact h o (ho o A) p B u C q e
theorem Hq (h:max (p.2+cY w b) o.2.Lo≤min u.2 o.2.Hi) (h2:nm w (dR (dR p.1 u.1) (gE o.1))=true):m_ w b p u o=some (o.1,⟨max (p.2+cY w b) o.2.Lo,min u.2 o.2.Hi⟩):=by
 unfold m_ lJ zS; rw [if_pos ⟨h,h2⟩]
theorem IG (h: ¬ max (p.2+cY w b) o.2.Lo≤min u.2 o.2.Hi):m_ w b p u o=none:=by
 unfold m_ lJ; rw [if_neg (fun q=>h q.1)]
theorem HT (h2:nm w (dR (dR p.1 u.1) (gE o.1))=false):m_ w b p u o=none:=by
 unfold m_ zS; rw [if_neg (fun q=>by rw [h2] at q; exact absurd q.2 dc)]
theorem ob {v:Int} (h:w.qO[b]? =some v):cY w b=v:=by unfold cY; rw [h]; rfl
theorem BG {t q:aQ} {v z y:Int} (hy:w.qO[b]? =some y) (h:max (v+y) o.2.Lo≤min z o.2.Hi) (h2:nm w (dR (dR t q) (gE o.1))=true):m_ w b (t,v) (q,z) o=some (o.1,⟨max (v+y) o.2.Lo,min z o.2.Hi⟩):=by
 have e:=ob hy
 subst e
 exact Hq h h2
theorem HI {t q:aQ} {v z y:Int} (hy:w.qO[b]? =some y) (h: ¬ max (v+y) o.2.Lo≤min z o.2.Hi):m_ w b (t,v) (q,z) o=none:=by
 have e:=ob hy
 subst e
 exact IG h
theorem oO {m:List (aQ×Int)} {k:aQ} {y:Int} (h:(m.map (·.1)).Nodup):((eD m k y).map (·.1)).Nodup:=by
 unfold eD
 by_cases hx:(m.lookup k).isSome
 ·rw [if_pos hx,List.map_map]
  have e:m.map ((fun p=>p.1)∘fun p=>if p.1=k then (k,y) else p)=m.map (·.1):=by
   apply List.map_congr_left
   intro p _
   simp only [Function.comp]
   split
   ·rename_i e; exact e.symm
   ·rfl
  rw [e]; exact h
 ·rw [if_neg hx,List.map_append,List.nodup_append]
  refine ⟨h,sm,?_⟩
  intro a ha c hc
  simp only [List.map_cons,List.map_nil,cH] at hc
  rw [hc]
  obtain ⟨p,hp,rfl⟩:=db.1 ha
  have hn:m.lookup k=none:=by cases h0:m.lookup k with
   |none=>rfl
   |some v=>exact absurd (by rw [h0]; rfl) hx
  exact iN.1 hn p hp
theorem BX {m:List (aQ×Int)} {q:aQ×Int} (h:(m.map (·.1)).Nodup):((pT m q).map (·.1)).Nodup:=by
 unfold pT; split
 ·exact oO h
 ·split
  ·exact oO h
  ·exact h
theorem Cr {m:List (aQ×Int)} {q:aQ×Int} (h:(m.map (·.1)).Nodup):((pg m q).map (·.1)).Nodup:=by
 unfold pg; split
 ·exact oO h
 ·split
  ·exact oO h
  ·exact h
/-- a map of the first times, on its way -/
structure yu (w:cp) (b:Nat) (m:List (aQ×Int)):Prop where
 snd:wm m (pW w (b+1))
 keys:(m.map (·.1)).Nodup
structure wM (w:cp) (b:Nat) (m:List (aQ×Int)):Prop where
 snd:wm m (back w b)
 keys:(m.map (·.1)).Nodup
 zero: ∃ v,m.lookup ⟨0,0⟩=some v∧w.gL≤v
theorem Le (h:max (p.2+cY w b) o.2.Lo≤min o.2.Hi w.gL):nj w b p o=some (dR p.1 (gE o.1),max (p.2+cY w b) o.2.Lo):=by unfold nj; rw [if_pos h]
theorem L6 (h: ¬ max (p.2+cY w b) o.2.Lo≤min o.2.Hi w.gL):nj w b p o=none:=by unfold nj; rw [if_neg h]
theorem Jk (h:o.2.Lo≤min p.2 o.2.Hi):pO w b p o=some (dR p.1 (gE o.1),min p.2 o.2.Hi-cY w b):=by unfold pO; rw [if_pos h]
theorem Mx (h: ¬ o.2.Lo≤min p.2 o.2.Hi):pO w b p o=none:=by unfold pO; rw [if_neg h]
theorem yu.start:yu w b []:=⟨fun t v h=>by simp at h,List.nodup_nil⟩
theorem yu.add {m:List (aQ×Int)} {q:aQ×Int} (h:yu w b m) (hp:p∈pW w b) (ho:o∈jZ w b) (he:nj w b p o=some q):yu w b (pT m q):=⟨HP h.snd (kD.2 ⟨p,hp,o,ho,he⟩),BX h.keys⟩
theorem wM.start (hb:b<w.n):wM w b [(⟨0,0⟩,w.gL)]:=⟨fun t v h=>by
 obtain ⟨rfl,rfl⟩:=pQ.1 h
 exact (pd hb).2 (.inl U),sm,w.gL,pQ.2 ⟨U,U⟩,Int.le_refl _⟩
theorem wM.add {m:List (aQ×Int)} {q:aQ×Int} (hb:b<w.n) (h:wM w b m) (hp:p∈back w (b+1)) (ho:o∈jZ w b) (he:pO w b p o=some q):wM w b (pg m q):=⟨GQ h.snd ((pd hb).2 (.inr ⟨p,hp,o,ho,he⟩)),Cr h.keys,by
 obtain ⟨v,A,C⟩:=h.zero
 obtain ⟨v',B,D⟩:=rR (q:=q) _ _ A
 exact ⟨v',B,om⟩⟩
theorem jI.none_ {m:List (aQ×Int)} (h:jI w b m p os) (he:nj w b p o=none):jI w b m p (os++[o]):=h.add (yd.refl _) fun q hq=>by rw [he] at hq; cases hq
theorem jI.I2 {m:List (aQ×Int)} {q:aQ×Int} (h:jI w b m p os) (he:nj w b p o=some q):jI w b (pT m q) p (os++[o]):=h.add wq fun q' hq=>by rw [he] at hq; cases hq; exact Gj
theorem jE.none_ {m:List (aQ×Int)} (h:jE w b m p os) (he:pO w b p o=none):jE w b m p (os++[o]):=h.add (xV.refl _) fun q hq=>by rw [he] at hq; cases hq
theorem jE.I2 {m:List (aQ×Int)} {q:aQ×Int} (h:jE w b m p os) (he:pO w b p o=some q):jE w b (pg m q) p (os++[o]):=h.add rR fun q' hq=>by rw [he] at hq; cases hq; exact Hw
/-- what of a map of the beam before is used already -/
def kq (w:cp) (b:Nat) (mb m left:List (aQ×Int)):Prop:= ∀ p∈mb,p∈left∨jI w b m p (jZ w b)
def jV (w:cp) (b:Nat) (mb m left:List (aQ×Int)):Prop:= ∀ p∈mb,p∈left∨jE w b m p (jZ w b)
theorem kq.start {m:List (aQ×Int)}:kq w b mb m mb:=fun p hp=> .inl hp
theorem jV.start {m:List (aQ×Int)}:jV w b mb m mb:=fun p hp=> .inl hp
theorem kq.lower {m m':List (aQ×Int)} (h:kq w b mb m left) (hl:yd m m'):kq w b mb m' left:=fun p hp=>(h p hp).imp id fun h=>h.lower hl
theorem jV.upper {m m':List (aQ×Int)} (h:jV w b mb m left) (hl:xV m m'):jV w b mb m' left:=fun p hp=>(h p hp).imp id fun h=>h.upper hl
theorem kq.next {m:List (aQ×Int)} {t:aQ} {v:Int} (hn:(left.map (·.1)).Nodup) (hm:(t,v)∈left) (h:kq w b mb m left) (hd:jI w b m (t,v) os) (ho: ∀ o∈jZ w b,o∈os):kq w b mb m (fz left t):=fun p hp=>by
 rcases h p hp with q|q
 ·rcases mI hn hm q with q|q
  ·exact .inl q
  ·right; rw [q]; exact hd.sub ho
 ·exact .inr q
theorem jV.next {m:List (aQ×Int)} {t:aQ} {v:Int} (hn:(left.map (·.1)).Nodup) (hm:(t,v)∈left) (h:jV w b mb m left) (hd:jE w b m (t,v) os) (ho: ∀ o∈jZ w b,o∈os):jV w b mb m (fz left t):=fun p hp=>by
 rcases h p hp with q|q
 ·rcases mI hn hm q with q|q
  ·exact .inl q
  ·right; rw [q]; exact hd.sub ho
 ·exact .inr q
theorem kq.fin {m:List (aQ×Int)} (h:kq w b mb m left) (h0:left=[]): ∀ p∈mb,jI w b m p (jZ w b):=fun p hp=>by
 rcases h p hp with q|q
 ·rw [h0] at q; cases q
 ·exact q
theorem jV.fin {m:List (aQ×Int)} (h:jV w b mb m left) (h0:left=[]): ∀ p∈mb,jE w b m p (jZ w b):=fun p hp=>by
 rcases h p hp with q|q
 ·rw [h0] at q; cases q
 ·exact q
end
section
def mZ (a b:ai):ai:=⟨a.Lo+b.Lo,a.Hi+b.Hi⟩
def h_:ai:=⟨0,0⟩
def kW (a:ai) (l:List ai):ai:=l.foldl mZ a
def l_ (z:ai):Prop:=(-1000000000≤z.Lo∧z.Lo≤1000000000)∧ -1000000000≤z.Hi∧z.Hi≤1000000000
theorem zM {a:ai} {l:List ai} {i:Nat} {z:ai} (h:l[i]? =some z):kW a (l.take (i+1))=mZ (kW a (l.take i)) z:=by
 rw [List.take_add_one,h]; unfold kW; simp
theorem Pd {a:ai} {l:List ai} (ha:l_ a) (hl: ∀ z∈l,l_ z): ∀ i:Nat,(-1000000000-1000000000*(i:Int)≤(kW a (l.take i)).Lo∧(kW a (l.take i)).Lo≤1000000000+1000000000*(i:Int))∧ -1000000000-1000000000*(i:Int)≤(kW a (l.take i)).Hi∧(kW a (l.take i)).Hi≤1000000000+1000000000*(i:Int):=by
 intro i
 induction i with
 |zero=>unfold l_ at ha; simp [kW]; omega
 |succ i ih=>
  cases h:l[i]? with
  |none=>rw [List.take_add_one,h]; simp only [Option.toList_none,List.append_nil]; omega
  |some z=>
   have hz:=hl z (aP h)
   unfold l_ at hz
   rw [zM h]
   simp only [mZ]
   omega
theorem I0 {a:ai} {l:List ai} {i:Nat} (h:l.length≤i):kW a (l.take i)=kW a l:=by rw [List.take_of_length_le h]
theorem oa {a z:ai}:vA (ai.cells (kW a [z]))=vA (ai.cells (mZ a z)):=rfl
theorem BB {a y z:ai}:vA (ai.cells (kW a [y,z]))=vA (ai.cells (mZ (mZ a y) z)):=rfl
/-- how long the run is from one mark, over so many stretches; by how much it falls -/
def eV (ts:List aD) (f:Nat):Nat→ai
 |0=>h_
 |k+1=>match ts[f+k]? with
  |some x=>mZ (eV ts f k) x.jT
  |none=>eV ts f k
def gT (ts:List aD) (f:Nat):Nat→ai
 |0=>h_
 |k+1=>match ts[f+k]? with
  |some x=>mZ (gT ts f k) x.kN
  |none=>gT ts f k
theorem qm {ts:List aD} {f k:Nat} {x:aD} (h:ts[f+k]? =some x):eV ts f (k+1)=mZ (eV ts f k) x.jT:=by simp [eV,h]
theorem qc {ts:List aD} {f k:Nat} {x:aD} (h:ts[f+k]? =some x):gT ts f (k+1)=mZ (gT ts f k) x.kN:=by simp [gT,h]
theorem mR {ts:List aD} (ht: ∀ x∈ts,bY x) (f:Nat): ∀ k:Nat,(0≤(eV ts f k).Lo∧(eV ts f k).Lo≤(eV ts f k).Hi)∧(eV ts f k).Hi≤30000*(k:Int):=by
 intro k
 induction k with
 |zero=>simp [eV,h_]
 |succ k ih=>
  simp only [eV]
  cases h:ts[f+k]? with
  |none=>simp only; omega
  |some x=>
   have hx:=(ht x (aP h)).2.1
   simp only [eu] at hx
   simp only [mZ]
   omega
theorem F6 {ts:List aD} (ht: ∀ x∈ts,bY x) (f:Nat): ∀ k:Nat,(0≤(gT ts f k).Lo∧(gT ts f k).Lo≤(gT ts f k).Hi)∧(gT ts f k).Hi≤5000*(k:Int):=by
 intro k
 induction k with
 |zero=>simp [gT,h_]
 |succ k ih=>
  simp only [gT]
  cases h:ts[f+k]? with
  |none=>simp only; omega
  |some x=>
   have hx:=(ht x (aP h)).2.2.1
   simp only [eu] at hx
   simp only [mZ]
   omega
theorem q7 {ts:List aD} (ht: ∀ x∈ts,bY x) {f k:Nat} (hk:k≤13):l_ (eV ts f k):=by
 have:=mR ht f k; unfold l_; omega
theorem yz {ts:List aD} (ht: ∀ x∈ts,bY x) {f k:Nat} (hk:k≤13):l_ (gT ts f k):=by
 have:=F6 ht f k; unfold l_; omega
theorem vq {x:aD} (h:bY x):l_ x.jT:=by have:=h.2.1; simp only [eu] at this; unfold l_; omega
theorem vV {x:aD} (h:bY x):l_ x.kN:=by have:=h.2.2.1; simp only [eu] at this; unfold l_; omega
theorem zZ {ts:List aD} (h: ¬ (if dB ts=true then (0:Int) else 10)=0):dB ts=false∧(if dB ts=true then (0:Int) else 10)=10:=by
 cases ht:dB ts with
 |true=>rw [ht] at h; exact absurd rfl h
 |false=>exact ⟨rfl,rfl⟩
theorem DQ {ts:List aD} (h:(if dB ts=true then (0:Int) else 10)=0):dB ts=true:=by
 cases ht:dB ts with
 |true=>rfl
 |false=>rw [ht] at h; exact absurd h dc
/-- what the iterator of marks yields -/
def uY (ts:List aD) (f:Nat):List (List Value):=(List.range (ts.length-f+1)).map fun (k:Nat)=>[.agg (eV ts f k).cells.toArray,.agg (gT ts f k).cells.toArray]
theorem uV {ts:List aD} {f:Nat}:(uY ts f).length=ts.length-f+1:=by simp [uY]
theorem zF {ts:List aD} {f k:Nat} (h:k≤ts.length-f):(uY ts f)[k]? =some [.agg (eV ts f k).cells.toArray,.agg (gT ts f k).cells.toArray]:=by
 simp [uY,List.getElem?_range (show k<ts.length-f+1 by omega)]
theorem GF {ts:List aD} {f k:Nat} {x:List Value} (h:(uY ts f)[k]? =some x):k≤ts.length-f∧x=[.agg (eV ts f k).cells.toArray,.agg (gT ts f k).cells.toArray]:=by
 have hi:k<ts.length-f+1:=by
  have:=(aZ.1 h).1
  simpa [uY] using this
 rw [zF om] at h
 exact ⟨om,(Option.some.inj h).symm⟩
theorem D8 {ts:List aD} {f:Nat}: ∀ x∈uY ts f,x.length=2:=fun x hx=>by
 obtain ⟨k,_,rfl⟩:=db.1 hx; rfl
end
section
def fU (ts:List aD) (s:dg):Prop:=(0≤s.bw∧s.bw<(ts.length:Int))∧ ∃ x,ts[s.bw.toNat]? =some x∧eu s.l9 0 (x.jT.Lo-1)
noncomputable instance (ts:List aD) (s:dg):Decidable (fU ts s):=Classical.propDecidable _
theorem Bv {ts:List aD} {s:dg} {x:aD} (h:0≤s.bw∧s.bw<(ts.length:Int)) (hx:ts[s.bw.toNat]? =some x):fU ts s↔eu s.l9 0 (x.jT.Lo-1):=
 ⟨fun A=>by obtain ⟨y,hy,B⟩:=A.2; rw [hx] at hy; cases hy; exact B,fun A=>⟨h,x,hx,A⟩⟩
theorem Cb {ts:List aD} {s:dg} (h: ¬ (0≤s.bw∧s.bw<(ts.length:Int))): ¬ fU ts s:=fun A=>h A.1
theorem Ag {ts:List aD} {s:dg} (ht: ∀ x∈ts,bY x) (h:fU ts s):(0≤s.l9.Lo∧s.l9.Lo≤s.l9.Hi)∧s.l9.Hi≤30000:=by
 obtain ⟨x,hx,A⟩:=h.2
 have:=(ht x (aP hx)).2.1
 simp only [eu] at A this
 omega
theorem EH {ts:List aD} {a:dg}:vB (decide (∀ s∈[a],fU ts s))=vB (decide (fU ts a)):=congrArg _ (gS.2 sm)
theorem DX {ts:List aD} {a b:dg}:vB (decide (∀ s∈[a,b],fU ts s))=vB (decide (fU ts a∧fU ts b)):=congrArg _ (gS.2 sm)
def oJ (z:ai):ai:=⟨-z.Hi,-z.Lo⟩
def LF (ts:List aD) (s:dg):ai:=mZ (eV ts 0 s.bw.toNat) s.l9
noncomputable def Gf (ts:List aD) (s:dg):Int:=if dB ts=true then (if fU ts s then 0 else 12) else 10
noncomputable def O3 (ts:List aD) (s:dg):ai:=if Gf ts s=0 then LF ts s else h_
theorem KA {ts:List aD} {s:dg} (h:dB ts=false):Gf ts s=10∧O3 ts s=h_:=by
 have e:Gf ts s=10:=by unfold Gf; rw [h]; rfl
 exact ⟨e,by unfold O3; rw [e]; rfl⟩
theorem Lm {ts:List aD} {s:dg} (h:dB ts=true) (h2: ¬ fU ts s):Gf ts s=12∧O3 ts s=h_:=by
 have e:Gf ts s=12:=by unfold Gf; rw [if_pos h,if_neg h2]
 exact ⟨e,by unfold O3; rw [e]; rfl⟩
theorem x5 {ts:List aD} {s:dg} (h:dB ts=true) (h2:fU ts s):Gf ts s=0∧O3 ts s=LF ts s:=by
 have e:Gf ts s=0:=by unfold Gf; rw [if_pos h,if_pos h2]
 exact ⟨e,if_pos e⟩
theorem E7 {ts:List aD} {s:dg} (h:dB ts=true):Gf ts s=0↔fU ts s:=by
 unfold Gf; rw [if_pos h]; split<;>simp [*]
def xG (ts:List aD) (a b:dg):ai:=eV ts (min a.bw b.bw).toNat (max a.bw b.bw-min a.bw b.bw).toNat
def kl (ts:List aD) (a b:dg):ai:=mZ (mZ (if b.bw<a.bw then oJ (xG ts a b) else xG ts a b) b.l9) (oJ a.l9)
noncomputable def mx (ts:List aD) (a b:dg):Int:=if dB ts=true then (if fU ts a∧fU ts b then 0 else 12) else 10
noncomputable def lv (ts:List aD) (a b:dg):ai:=if mx ts a b=0 then kl ts a b else h_
theorem vZ {ts:List aD} {a b:dg} (h:dB ts=false):mx ts a b=10∧lv ts a b=h_:=by
 have e:mx ts a b=10:=by unfold mx; rw [h]; rfl
 exact ⟨e,by unfold lv; rw [e]; rfl⟩
theorem pJ {ts:List aD} {a b:dg} (h:dB ts=true) (h2: ¬ (fU ts a∧fU ts b)):mx ts a b=12∧lv ts a b=h_:=by
 have e:mx ts a b=12:=by unfold mx; rw [if_pos h,if_neg h2]
 exact ⟨e,by unfold lv; rw [e]; rfl⟩
theorem lW {ts:List aD} {a b:dg} (h:dB ts=true) (h2:fU ts a∧fU ts b):mx ts a b=0∧lv ts a b=kl ts a b:=by
 have e:mx ts a b=0:=by unfold mx; rw [if_pos h,if_pos h2]
 exact ⟨e,if_pos e⟩
theorem Af {z:ai} (h:l_ z):l_ (oJ z):=by unfold l_ oJ at *; simp only; omega
theorem rf {ts:List aD} {s:dg} (ht: ∀ x∈ts,bY x) (h:fU ts s):l_ s.l9:=by have:=Ag ht h; unfold l_; omega
theorem O9 {ts:List aD} {a b:dg} (ht: ∀ x∈ts,bY x) (hl:ts.length≤12) (ha:fU ts a) (hb:fU ts b):(0≤(xG ts a b).Lo∧(xG ts a b).Lo≤(xG ts a b).Hi)∧(xG ts a b).Hi≤360000:=by
 have h:=mR ht (min a.bw b.bw).toNat (max a.bw b.bw-min a.bw b.bw).toNat
 have A:=ha.1
 have B:=hb.1
 unfold xG
 omega
theorem x8 {ts:List aD} {a b:dg} (ht: ∀ x∈ts,bY x) (hl:ts.length≤12) (ha:fU ts a) (hb:fU ts b):(-400000≤(kl ts a b).Lo∧(kl ts a b).Lo≤(kl ts a b).Hi)∧(kl ts a b).Hi≤400000:=by
 have h:=O9 ht hl ha hb
 have A:=Ag ht ha
 have B:=Ag ht hb
 unfold kl mZ oJ
 split<;>simp only <;>omega
theorem Sk {ts:List aD} {s:dg} (ht: ∀ x∈ts,bY x) (hl:ts.length≤12) (h:fU ts s):(0≤(LF ts s).Lo∧(LF ts s).Lo≤(LF ts s).Hi)∧(LF ts s).Hi≤400000:=by
 have A:=mR ht 0 s.bw.toNat
 have B:=Ag ht h
 have C:=h.1
 unfold LF mZ
 simp only; omega
theorem Ht {α:Type} {p:Nat→α→Bool} {l:List α}:((l.zipIdx.filter fun q=>p q.2 q.1).map fun q=>(q.2:Int))=[]↔ ∀ (i:Nat) x,l[i]? =some x→p i x=false:=by
 rw [List.map_eq_nil_iff,List.filter_eq_nil_iff]
 constructor
 ·intro h i x hx
  have:=h (x,i) (by rw [List.mem_zipIdx_iff_getElem?]; simpa using hx)
  simpa using this
 ·rintro h ⟨x,i⟩ hm
  rw [List.mem_zipIdx_iff_getElem?] at hm
  simpa using h i x (by simpa using hm)
/-- the places of a list at which something is so -/
def tD {α:Type} (p:Nat→α→Bool) (l:List α) (n:Nat):List Int:=(((l.take n).zipIdx.filter fun q=>p q.2 q.1).map fun q=>(q.2:Int))
theorem Il {α:Type} {p:Nat→α→Bool} {l:List α} {i:Nat} {x:α} (hx:l[i]? =some x) (h:p i x=true):tD p l (i+1)=tD p l i++[(i:Int)]:=by
 have hi:=(aZ.1 hx).1
 unfold tD
 rw [List.take_add_one,hx,List.zipIdx_append,List.filter_append,List.map_append]
 simp [Nat.min_eq_left (Nat.le_of_lt hi),h]
theorem ND {α:Type} {p:Nat→α→Bool} {l:List α} {i:Nat} {x:α} (hx:l[i]? =some x) (h:p i x=false):tD p l (i+1)=tD p l i:=by
 have hi:=(aZ.1 hx).1
 unfold tD
 rw [List.take_add_one,hx,List.zipIdx_append,List.filter_append,List.map_append]
 simp [Nat.min_eq_left (Nat.le_of_lt hi),h]
theorem Cu {α:Type} {p:Nat→α→Bool} {l:List α} {n:Nat}:(tD p l n).length≤n:=by
 unfold tD
 rw [List.length_map]
 refine Nat.le_trans (List.length_filter_le _ _) ?_
 rw [List.length_zipIdx,List.length_take]; omega
def Kl {α:Type} (p:Nat→α→Bool) (l:List α):List Int:=tD p l l.length
theorem NA {α:Type} {p:Nat→α→Bool} {l:List α} {n:Nat} (h:n=l.length):tD p l n=Kl p l:=by rw [h]; rfl
theorem GM {α:Type} {p:Nat→α→Bool} {l:List α}:(Kl p l).length=0↔ ∀ (i:Nat) x,l[i]? =some x→p i x=false:=by
 unfold Kl tD
 rw [List.length_eq_zero_iff,List.take_length]
 exact Ht
end
section
theorem ze (p:Int→Bool) (n:Nat): ∃ r:Int,r=((List.range n).findIdx fun (k:Nat)=>p (k:Int):Nat):=⟨_,rfl⟩
noncomputable def gI (p:Int→Bool) (n:Nat):Int:=Classical.choose (ze p n)
theorem tN (p:Int→Bool) (n:Nat):gI p n=((List.range n).findIdx fun (k:Nat)=>p (k:Int):Nat):=Classical.choose_spec (ze p n)
theorem jm {p:Int→Bool} {n:Nat}:0≤gI p n∧gI p n≤n:=by
 rw [tN]
 have:=List.findIdx_le_length (xs:=List.range n) (p:=fun (k:Nat)=>p (k:Int))
 rw [List.length_range] at this
 omega
theorem z9 {p:Int→Bool} {n:Nat} {x:Int} (h0:0≤x) (h:x<gI p n):p x=false:=by
 have hb:=jm (p:=p) (n:=n)
 rw [tN] at h
 have B:x.toNat<(List.range n).findIdx fun (k:Nat)=>p (k:Int):=by omega
 have A:=List.not_of_lt_findIdx B
 simp only [List.getElem_range] at A
 rw [show (x.toNat:Int)=x by omega] at A
 simpa using A
theorem Gp {p:Int→Bool} {n:Nat} (h:gI p n<n):p (gI p n)=true:=by
 rw [tN] at h ⊢
 have A:((List.range n).findIdx fun (k:Nat)=>p (k:Int))<(List.range n).length:=by rw [List.length_range]; omega
 have:=List.findIdx_getElem (w:=A)
 simpa using this
end
section
def o9 (n by_:Int):Int:=(n+by_-1)/by_
/-- by how much a sync may be off -/
def tx (c:aT) (at_:Int) (x:cE):Int:=o9 (c.dA*max (at_-x.At) (x.At-at_)) 1000000
def mm (c:aT) (at_:Int) (s:ai) (x:cE):ai:=⟨max s.Lo (x.d_.Lo-tx c at_ x),min s.Hi (x.d_.Hi+tx c at_ x)⟩
def gX (c:aT) (at_:Int) (k:Nat):ai:=(c.bk.take k).foldl (mm c at_) ⟨-1099511627776,1099511627776⟩
def iT (c:aT) (at_:Int):ai:=c.bk.foldl (mm c at_) ⟨-1099511627776,1099511627776⟩
theorem kg {c:aT} {at_:Int} {k:Nat} {x:cE} (h:c.bk[k]? =some x):gX c at_ (k+1)=mm c at_ (gX c at_ k) x:=by
 unfold gX; rw [List.take_add_one,h,List.foldl_append]; rfl
theorem nW {c:aT} {at_:Int} {k:Nat} (h:c.bk.length≤k):gX c at_ k=iT c at_:=by unfold gX iT; rw [List.take_of_length_le h]
def kM (c:aT) (i:Nat):Int:=if i=0 then-1 else ((c.bk[i-1]?).map (·.At)).getD 0
def fV (c:aT) (i:Nat) (x:cE):Prop:=(kM c i<x.At∧x.At≤86400000)∧ -10000≤x.d_.Lo∧x.d_.Lo≤x.d_.Hi∧x.d_.Hi≤10000
def o4 (c:aT) (x o:cE):Prop:=x.d_.Lo-o.d_.Hi≤o9 (c.dA*(x.At-o.At)) 1000000∧o.d_.Lo-x.d_.Hi≤o9 (c.dA*(x.At-o.At)) 1000000
structure fG (c:aT):Prop where
 sZ:0≤c.dA∧c.dA≤1000
 len:1≤c.bk.length∧c.bk.length≤5
 sync: ∀ (i:Nat) x,c.bk[i]? =some x→fV c i x
 pair: ∀ (i k:Nat) x o,c.bk[i]? =some x→k<i→c.bk[k]? =some o→o4 c x o
noncomputable instance (c:aT):Decidable (fG c):=Classical.propDecidable _
theorem hE {c:aT} {i:Nat} (h:i=0):kM c i= -1:=if_pos h
theorem yB {c:aT} {i:Nat} {y:cE} (h:0<i) (hy:c.bk[i-1]? =some y):kM c i=y.At:=by unfold kM; rw [if_neg om,hy]; rfl
theorem oI {c:aT} {i:Nat} {y:cE} (hy:c.bk[i]? =some y):kM c (i+1)=y.At:=by unfold kM; rw [if_neg om,Nat.add_sub_cancel,hy]; rfl
/-- the times of the syncs -/
theorem Nn {c:aT} (h: ∀ (i:Nat) x,c.bk[i]? =some x→fV c i x): ∀ (i:Nat) x,c.bk[i]? =some x→0≤x.At∧ ∀ (k:Nat) o,k<i→c.bk[k]? =some o→o.At<x.At:=by
 intro i
 induction i with
 |zero=>
  intro x hx
  have:=(h 0 x hx).1.1
  rw [hE rfl] at this
  exact ⟨om,fun k o hk=>by omega⟩
 |succ i ih=>
  intro x hx
  have hi:=(aZ.1 hx).1
  have hy:c.bk[i]? =some (c.bk[i]'om):=f_ om
  have B:=ih _ hy
  have A:=(h (i+1) x hx).1.1
  rw [oI hy] at A
  refine ⟨om,fun k o hk ho=>?_⟩
  by_cases e:k=i
  ·subst e; rw [hy] at ho; cases ho; exact A
  ·have:=B.2 k o om ho; omega
theorem fG.vo {c:aT} (h:fG c) {i:Nat} {x:cE} (hx:c.bk[i]? =some x):(0≤x.At∧x.At≤86400000)∧ -10000≤x.d_.Lo∧x.d_.Lo≤x.d_.Hi∧x.d_.Hi≤10000:=by
 have A:=h.sync i x hx
 exact ⟨⟨(Nn h.sync i x hx).1,A.1.2⟩,A.2⟩
theorem F1 {d a b:Int} (hd:0≤d∧d≤1000) (ha:0≤a∧a≤90000000) (hb:0≤b∧b≤90000000):0≤d*max (a-b) (b-a)∧d*max (a-b) (b-a)≤90000000000:=by
 have:=Po (a:=d) (b:=max (a-b) (b-a)) (A:=1000) (B:=90000000) hd.1 hd.2 om om
 omega
theorem v7 {c:aT} {at_:Int} {x:cE} (hd:0≤c.dA∧c.dA≤1000) (ha:0≤at_∧at_≤90000000) (hx:0≤x.At∧x.At≤86400000):0≤tx c at_ x∧tx c at_ x≤90001:=by
 have h:=F1 hd ha (show 0≤x.At∧x.At≤90000000 by omega)
 unfold tx o9; omega
theorem CD {c:aT} {at_:Int} (h:fG c) (ha:0≤at_∧at_≤90000000): ∀ k:Nat,(-1099511627776≤(gX c at_ k).Lo∧(gX c at_ k).Lo≤10000)∧ -10000≤(gX c at_ k).Hi∧(gX c at_ k).Hi≤1099511627776:=by
 intro k
 induction k with
 |zero=>simp [gX]
 |succ k ih=>
  cases hx:c.bk[k]? with
  |none=>unfold gX at ih ⊢; rw [List.take_add_one,hx]; simpa using ih
  |some x=>
   have hb:=h.vo hx
   have ho:=v7 h.sZ ha hb.1
   rw [kg hx]
   unfold mm
   simp only
   omega
theorem rV {c:aT} {at_:Int} (h:fG c) (ha:0≤at_∧at_≤90000000):(-110000≤(iT c at_).Lo∧(iT c at_).Lo≤10000)∧ -10000≤(iT c at_).Hi∧(iT c at_).Hi≤110000:=by
 obtain ⟨n,hn⟩: ∃ n,c.bk.length=n+1:=⟨c.bk.length-1,by have:=h.len; omega⟩
 have hx:c.bk[n]? =some (c.bk[n]'om):=f_ om
 have hb:=h.vo hx
 have ho:=v7 h.sZ ha hb.1
 have A:=CD h ha n
 rw [← nW (k:=n+1) om,kg hx]
 unfold mm
 simp only
 omega
/-- as time goes on, time and what a clock may be ahead, together, never go back -/
theorem Ee {c:aT} (h:fG c) {a b:Int} (ha:0≤a) (hab:a≤b) (hb:b≤90000000): ∀ k:Nat,(a+(gX c a k).Lo≤b+(gX c b k).Lo∨(gX c a k).Lo= -1099511627776)∧a+(gX c a k).Hi≤b+(gX c b k).Hi:=by
 have step: ∀ (x:cE),0≤x.At∧x.At≤86400000→ ∀ a b:Int,0≤a→a≤b→b≤90000000→tx c a x≤tx c b x+(b-a)∧tx c b x≤tx c a x+(b-a):=by
  intro x hx a b ha hab hb
  have hd:=h.sZ
  have e: ∀ u v:Int,u≤v+1000000*(b-a)→o9 u 1000000≤o9 v 1000000+(b-a):=by intro u v C; unfold o9; omega
  have m: ∀ p q:Int,p≤q+(b-a)→c.dA*p≤c.dA*q+1000000*(b-a):=by
   intro p q A
   have D:c.dA*p≤c.dA*(q+(b-a)):=Int.mul_le_mul_of_nonneg_left A hd.1
   have E:c.dA*(q+(b-a))=c.dA*q+c.dA*(b-a):=Int.mul_add _ _ _
   have F:c.dA*(b-a)≤1000*(b-a):=Int.mul_le_mul_of_nonneg_right hd.2 om
   omega
  exact ⟨e _ _ (m _ _ om),e _ _ (m _ _ om)⟩
 intro k
 induction k with
 |zero=>simp [gX]; omega
 |succ k ih=>
  cases hx:c.bk[k]? with
  |none=>
   have e: ∀ t,gX c t (k+1)=gX c t k:=fun t=>by unfold gX; rw [List.take_add_one,hx]; simp
   rw [e,e]; exact ih
  |some x=>
   have hs:=h.vo hx
   have:=step x hs.1 a b ha hab hb
   have B:=v7 (at_:=a) h.sZ ⟨ha,om⟩ hs.1
   rw [kg hx,kg hx]
   unfold mm
   simp only
   omega
theorem wc {c:aT} (h:fG c) {a b:Int} (ha:0≤a) (hab:a≤b) (hb:b≤90000000):a+(iT c a).Lo≤b+(iT c b).Lo∧a+(iT c a).Hi≤b+(iT c b).Hi:=by
 have A:=Ee h ha hab hb c.bk.length
 have B:=rV h (at_:=a) ⟨ha,om⟩
 rw [nW (Nat.le_refl _),nW (Nat.le_refl _)] at A
 omega
noncomputable def mN (l:bq) (i:Nat):Int:=match l.aj[i]? with
 |some b=>if i=0 then (LF l.bL b.lg).Lo else (match l.aj[i-1]? with
  |some a=>(kl l.bL a.lg b.lg).Lo
  |none=>0)
 |none=>0
theorem zt {l:bq} {b:cQ} (h:l.aj[0]? =some b):mN l 0=(LF l.bL b.lg).Lo:=by unfold mN; rw [h]; rfl
theorem BV {l:bq} {i:Nat} {a b:cQ} (hi:0<i) (h:l.aj[i]? =some b) (ha:l.aj[i-1]? =some a):mN l i=(kl l.bL a.lg b.lg).Lo:=by unfold mN; rw [h,ha]; simp only; rw [if_neg om]
def ko (l:bq) (b:cQ):Prop:=fU l.bL b.lg∧0≤b.jP∧b.jP<(l.aH.length:Int)
def eJ (l:bq):Prop:=(1≤l.gl∧l.gl≤5000)∧(1≤(l.aH.length:Int)∧(l.aH.length:Int)≤4)∧(1≤(l.aj.length:Int)∧(l.aj.length:Int)≤6)∧(0≤l.bV∧l.bV≤(l.aj.length:Int)-1)∧(0≤l.ew∧l.ew≤3)∧0≤l.cU∧l.cU≤3
structure mJ (l:bq):Prop where
 head:eJ l
 clock: ∀ c∈l.aH,fG c
 vY: ∀ b∈l.aj,ko l b
 Pe: ∀ i,i<l.aj.length→1≤mN l i
noncomputable instance (l:bq):Decidable (mJ l):=Classical.propDecidable _
noncomputable def e8 (l:bq):Int:=if dB l.bL=true then (if mJ l then 0 else 50) else 10
theorem zy {l:bq} (h:dB l.bL=false):e8 l=10:=by unfold e8; rw [h]; rfl
theorem qZ {l:bq} (h:dB l.bL=true) (h2: ¬ mJ l):e8 l=50:=by unfold e8; rw [if_pos h,if_neg h2]
theorem Dc {l:bq} (h:dB l.bL=true) (h2:mJ l):e8 l=0:=by unfold e8; rw [if_pos h,if_pos h2]
theorem dw {l:bq} (h:e8 l=0):dB l.bL=true∧mJ l:=by
 unfold e8 at h
 split at h
 ·split at h
  ·exact ⟨asm,asm⟩
  ·omega
 ·omega
theorem CT {l:bq} (ht:dB l.bL=true) (hb: ∀ b∈l.aj,ko l b) (i:Nat): -400000≤mN l i∧mN l i≤400000:=by
 have A:=km ht
 have hl:=lz ht
 unfold mN
 cases h:l.aj[i]? with
 |none=>simp
 |some b=>
  have B:=(hb b (aP h)).1
  simp only
  split
  ·have:=Sk A hl B; omega
  ·cases h2:l.aj[i-1]? with
   |none=>simp
   |some a=>
    have C:=(hb a (aP h2)).1
    have:=x8 A hl C B
    simp only; omega
def qz (l:bq) (s:aG):aT:=((l.aj[s.fI.toNat]?).bind fun b=>l.aH[b.jP.toNat]?).getD ⟨0,[]⟩
def iB (c:aT) (r t:Int):Bool:=decide (r≤t+(iT c t).Hi)
def iF (c:aT) (r t:Int):Bool:=decide (r<t+(iT c t).Lo)
noncomputable def BL (c:aT) (r:Int):ai:=⟨gI (iB c r) 86400001,gI (iF c r) 86400001-1⟩
noncomputable def dq (l:bq) (s:aG):ai:=BL (qz l s) s.Read
noncomputable def eH (l:bq) (i:Nat):Int:=o9 (1000*mN l i) l.gl
abbrev o7 (l:bq) (kA:Option Addr) (az:List RA) (cA bA:Option Addr):List ay:=[(rd kA l.bL.length 9 (l.bL.map aD.cells)),(rd cA l.aH.length 2 (List.zipWith aT.cells l.aH az)),(iK (bK aT.jW l.aH az)),(rd bA l.aj.length 4 (l.aj.map cQ.cells))]
end
section
open Go.RowKit
def Bg (n:Int):Int:=IntKind.i64.wrap n
theorem Aj {n:Int} (h:q6 n):Bg n=n:=oU h
theorem Sg (n:Int): -9223372036854775808≤Bg n∧Bg n≤9223372036854775807:=by
 unfold Bg
 rw [IntKind.wrap_i64]
 omega
section
variable {P:Program} {t:TypeId} {x y:Operand} {a b:Int}
theorem O1:gQ P .add t x y (.int .i64 a) (.int .i64 b) (.int .i64 (Bg (a+b))):=fun w=>by simp [eqGuard_add,binOp_add,Op.intArith,Bg]
theorem KQ:gQ P .sub t x y (.int .i64 a) (.int .i64 b) (.int .i64 (Bg (a-b))):=fun w=>by simp [eqGuard_sub,binOp_sub,Op.intArith,Bg]
theorem Qh:gQ P .mul t x y (.int .i64 a) (.int .i64 b) (.int .i64 (Bg (a*b))):=fun w=>by simp [eqGuard_mul,binOp_mul,Op.intArith,Bg]
end
/-- divided, and rounded up, as it comes out -/
def Sm (n by_:Int):Int:=(Bg (Bg (n+by_)-1)).tdiv by_
theorem Ps {a b:Int} (ha: -9223372036854775808≤a∧a≤9223372036854775807) (hb:2≤b):q6 (a.tdiv b):=by
 have A:a.tdiv b=a/b+if a % b≠0∧a<0 then 1 else 0:=by
  rcases Int.lt_or_le a 0 with h|h
  ·rw [Int.tdiv_eq_ediv]
   have:b.sign=1:=Int.sign_eq_one_of_pos om
   rw [this]
   by_cases hd:b∣a
   ·have:a % b=0:=Int.emod_eq_zero_of_dvd hd
    simp [hd,this]
   ·have:a % b≠0:=fun e=>hd (Int.dvd_of_emod_eq_zero e)
    have hn: ¬ 0≤a:=by omega
    simp [hd,this,h,hn]
  ·rw [Int.tdiv_eq_ediv_of_nonneg h]
   have: ¬ a<0:=by omega
   simp [this]
 have B:a/b*b+a % b=a:=by rw [Int.mul_comm]; exact Int.mul_ediv_add_emod a b
 have C:0≤a % b:=Int.emod_nonneg _ om
 have D:a % b<b:=Int.emod_lt_of_pos _ om
 have E: -9223372036854775808≤a/b∧a/b≤4611686018427387904:=by
  constructor
  ·refine Int.le_ediv_of_mul_le om ?_
   have:(-9223372036854775808:Int)*b≤ -9223372036854775808*1:=Int.mul_le_mul_of_nonpos_left om om
   omega
  ·refine Int.ediv_le_of_le_mul om ?_
   have:(4611686018427387904:Int)*2≤4611686018427387904*b:=Int.mul_le_mul_of_nonneg_left hb om
   omega
 rw [A]
 unfold q6
 split<;>omega
theorem OV {n by_:Int} (h0:0≤n) (h1:n≤1000000000000000000) (hb:1≤by_∧by_≤1000000000000):Sm n by_=(n+by_-1)/by_:=by
 unfold Sm
 rw [Aj (show q6 (n+by_) from ⟨om,om⟩),Aj (show q6 (n+by_-1) from ⟨om,om⟩),Int.tdiv_eq_ediv_of_nonneg om]
end
section
def mS (c:aT) (i:Nat) (x:cE) (k:Nat):Prop:=fV c i x∧ ∀ (j:Nat) o,j<k→c.bk[j]? =some o→o4 c x o
def ti (c:aT) (n:Nat):Prop:= ∀ (i:Nat) x,i<n→c.bk[i]? =some x→mS c i x i
noncomputable instance (c:aT) (i:Nat) (x:cE) (k:Nat):Decidable (mS c i x k):=Classical.propDecidable _
instance (c:aT) (i:Nat) (x:cE):Decidable (fV c i x):=by unfold fV; infer_instance
theorem Ed {c:aT} {i:Nat} {x:cE}:mS c i x 0↔fV c i x:=⟨fun h=>h.1,fun h=>⟨h,fun j o hj=>by omega⟩⟩
theorem tL {c:aT} {i k:Nat} {x o:cE} (h:c.bk[k]? =some o):mS c i x (k+1)↔mS c i x k∧o4 c x o:=by
 constructor
 ·intro hr
  exact ⟨⟨hr.1,fun j o' hj ho=>hr.2 j o' om ho⟩,hr.2 k o om h⟩
 ·rintro ⟨hr,hp⟩
  refine ⟨hr.1,fun j o' hj ho=>?_⟩
  by_cases e:j=k
  ·subst e; rw [h] at ho; cases ho; exact hp
  ·exact hr.2 j o' om ho
theorem HL {c:aT}:ti c 0:=fun i x hi=>by omega
theorem GR {c:aT} {i:Nat} {x:cE} (h:ti c i) (hx:c.bk[i]? =some x) (hr:mS c i x i):ti c (i+1):=fun j y hj hy=>by
 by_cases e:j=i
 ·subst e; rw [hx] at hy; cases hy; exact hr
 ·exact h j y om hy
theorem Ke {c:aT} {i:Nat} {x:cE} (hx:c.bk[i]? =some x) (h: ¬ mS c i x i): ¬ fG c:=fun hc=>h ⟨hc.sync i x hx,fun j o hj ho=>hc.pair i j x o hx hj ho⟩
theorem HM {c:aT} (h1:0≤c.dA∧c.dA≤1000) (h2:1≤c.bk.length∧c.bk.length≤5) (h:ti c c.bk.length):fG c:=
 ⟨h1,h2,fun i x hx=>(h i x (aZ.1 hx).1 hx).1,fun i k x o hx hk ho=>(h i x (aZ.1 hx).1 hx).2 k o hk ho⟩
/-- syncs so far -/
theorem vJ {c:aT} {n:Nat} (h: ∀ (i:Nat) x,i<n→c.bk[i]? =some x→fV c i x): ∀ (i:Nat) x,i<n→c.bk[i]? =some x→0≤x.At∧ ∀ (k:Nat) o,k<i→c.bk[k]? =some o→o.At<x.At:=by
 intro i
 induction i with
 |zero=>
  intro x hn hx
  have:=(h 0 x hn hx).1.1
  rw [hE rfl] at this
  exact ⟨om,fun k o hk=>by omega⟩
 |succ i ih=>
  intro x hn hx
  have hi:=(aZ.1 hx).1
  have hy:c.bk[i]? =some (c.bk[i]'om):=f_ om
  have B:=ih _ om hy
  have A:=(h (i+1) x hn hx).1.1
  rw [oI hy] at A
  refine ⟨om,fun k o hk ho=>?_⟩
  by_cases e:k=i
  ·subst e; rw [hy] at ho; cases ho; exact A
  ·have:=B.2 k o om ho; omega
theorem Kz {c:aT} {i:Nat} (hi:i≤c.bk.length) (h: ∀ (j:Nat) y,j<i→c.bk[j]? =some y→fV c j y): -1≤kM c i∧kM c i≤86400000:=by
 cases i with
 |zero=>rw [hE rfl]; omega
 |succ i=>
  have hy:c.bk[i]? =some (c.bk[i]'om):=f_ om
  have A:=(vJ (n:=i+1) h i _ om hy).1
  have B:=(h i _ om hy).1.2
  rw [oI hy]; omega
theorem O6 {c:aT} {i:Nat} (hi:i≤c.bk.length) (h:ti c i): -1≤kM c i∧kM c i≤86400000:=Kz hi fun j y hj hy=>(h j y hj hy).1
theorem wa {c:aT} {i k:Nat} {x o:cE} (hs: ∀ (j:Nat) y,j<i→c.bk[j]? =some y→fV c j y) (hx:c.bk[i]? =some x) (hok:fV c i x) (hk:k<i) (ho:c.bk[k]? =some o):
 (0≤o.At∧o.At<x.At∧x.At≤86400000)∧(-10000≤x.d_.Lo∧x.d_.Lo≤x.d_.Hi∧x.d_.Hi≤10000)∧ -10000≤o.d_.Lo∧o.d_.Lo≤o.d_.Hi∧o.d_.Hi≤10000:=by
 have h: ∀ (j:Nat) y,j<i+1→c.bk[j]? =some y→fV c j y:=fun j y hj hy=>by
  by_cases e:j=i
  ·subst e; rw [hx] at hy; cases hy; exact hok
  ·exact hs j y om hy
 have A:=(vJ h i x om hx).2 k o hk ho
 have B:=(vJ h k o om ho).1
 exact ⟨⟨B,A,hok.1.2⟩,hok.2,(h k o om ho).2⟩
theorem LS {d a b:Int} (hd:0≤d∧d≤1000) (h:0≤b∧b<a∧a≤86400000):Sm (Bg (d*Bg (a-b))) 1000000=o9 (d*(a-b)) 1000000:=by
 have C:0≤d*(a-b)∧d*(a-b)≤90000000000:=by
  have:=Po (a:=d) (b:=a-b) (A:=1000) (B:=90000000) hd.1 hd.2 om om
  omega
 rw [Aj (show q6 (a-b) from ⟨om,om⟩),Aj (show q6 (d*(a-b)) from ⟨om,om⟩),OV C.1 om om]
 rfl
/-- what is asked of a line, however wrong it is -/
structure ej (l:bq) (asl:List RA):Prop where
 qF:l.bL.length≤1000000
 side: ∀ x∈l.bL,0≤x.ja∧x.ja≤255
 qL:l.aH.length≤1000000
 lQ:asl.length=l.aH.length
 qE:l.aj.length≤1000000
 QI: ∀ (k:Nat) m (a:RA),l.aH[k]? =some m→asl[k]? =some a→m.bk.length≤a.2∧m.bk.length≤1000000
noncomputable instance (l:bq):Decidable (eJ l):=by unfold eJ; infer_instance
noncomputable instance (l:bq) (b:cQ):Decidable (ko l b):=Classical.propDecidable _
theorem zl {l:bq} (h:eJ l) (h2: ∀ c∈l.aH,fG c) (h3: ∀ b∈l.aj,ko l b) (h4: ∀ i,i<l.aj.length→1≤mN l i):mJ l:=⟨h,h2,h3,h4⟩
theorem D1 {l:bq}:((!(l.aH.any fun m=> !decide (fG m)))=true)↔ ∀ c∈l.aH,fG c:=by simp
theorem GP {l:bq}:((!(l.aj.any fun b=> !decide (ko l b)))=true)↔ ∀ b∈l.aj,ko l b:=by simp
theorem lL {c:aT} (h:fG c) {r x:Int} (h0:0≤x) (h1:x<86400001):
 (x<gI (iB c r) 86400001→iB c r x=false)∧(gI (iB c r) 86400001≤x→iB c r x=true)∧(x<gI (iF c r) 86400001→iF c r x=false)∧(gI (iF c r) 86400001≤x→iF c r x=true):=by
 have up: ∀ (q:Int→Bool),(∀ a b,0≤a→a≤b→b<86400001→q a=true→q b=true)→gI q 86400001≤x→q x=true:=fun q hq hx=>by
  have hb:=jm (p:=q) (n:=86400001)
  exact hq _ _ hb.1 hx h1 (Gp om)
 refine ⟨z9 h0,up _ fun a b ha A hb hq=>?_,z9 h0,up _ fun a b ha A hb hq=>?_⟩
 ·have:=wc h ha A om
  simp only [iB,decide_eq_true_eq] at hq ⊢; omega
 ·have:=wc h ha A om
  simp only [iF,decide_eq_true_eq] at hq ⊢; omega
theorem xo {l:bq} {s:aG} {b:cQ} {c:aT} (hb:l.aj[s.fI.toNat]? =some b) (hc:l.aH[b.jP.toNat]? =some c):qz l s=c:=by
 unfold qz; rw [hb]; simp only [Option.bind_some]; rw [hc]; rfl
end
section
def mh (sg:List aG) (i:Nat):aG:=if i=0 then ⟨-1,0⟩ else (sg[i-1]?).getD ⟨-1,0⟩
theorem kj {sg:List aG} {i:Nat} {s:aG} (h:sg[i]? =some s):mh sg (i+1)=s:=by unfold mh; rw [if_neg om,Nat.add_sub_cancel,h]; rfl
def j_ (l:bq) (s:aG):Prop:=(0≤s.fI∧s.fI≤(l.aj.length:Int)-1)∧0≤s.Read∧s.Read≤86400000
def jD (l:bq) (sg:List aG) (i:Nat) (s:aG):Prop:=j_ l s∧ ¬ s.fI<(mh sg i).fI∧ ¬ (s.fI=(mh sg i).fI∧s.Read≤(mh sg i).Read)
def oW (l:bq) (sg:List aG) (i:Nat):Prop:= ∀ (j:Nat) s,j<i→sg[j]? =some s→jD l sg j s
structure fW (l:bq) (r:cO):Prop where
 time:0≤r.Start∧r.Start≤r.gL∧r.gL≤86400000
 len:r.aa.length≤10
 sig: ∀ (i:Nat) s,r.aa[i]? =some s→jD l r.aa i s
noncomputable instance (l:bq) (r:cO):Decidable (fW l r):=Classical.propDecidable _
theorem vz {l:bq} {sg:List aG}:oW l sg 0:=fun j s hj=>absurd hj (Nat.not_lt_zero _)
theorem jB {l:bq} {sg:List aG} {i:Nat} {s:aG} (h:oW l sg i) (hs:sg[i]? =some s) (ho:jD l sg i s):oW l sg (i+1):=fun j z hj hz=>by
 rcases Nat.lt_or_ge j i with q|q
 ·exact h j z q hz
 ·obtain rfl:j=i:=by omega
  rw [hs] at hz; cases hz; exact ho
theorem xy {l:bq} {r:cO} {i:Nat} (h1:0≤r.Start∧r.Start≤r.gL∧r.gL≤86400000) (h2:r.aa.length≤10) (h:oW l r.aa i) (hi:r.aa.length≤i):fW l r:=
 ⟨h1,h2,fun j s hs=>h j s (by have:=(aZ.1 hs).1; omega) hs⟩
noncomputable def uS (l:bq) (sg:List aG) (b k:Nat):Option (Int×ai):=(sg[k]?).bind fun s=>if s.fI=(b:Int)∧(dq l s).Lo≤(dq l s).Hi then some ((k:Int),dq l s) else none
noncomputable def o1 (l:bq) (sg:List aG) (i b:Nat):TM:=(List.range i).filterMap (uS l sg b)
noncomputable def cL (l:bq) (sg:List aG) (i:Nat):List TM:=(List.range l.aj.length).map (o1 l sg i)
noncomputable def cq (l:bq) (n:Nat):List Int:=(List.range n).map (eH l)
theorem rJ {l:bq} {n:Nat}:cq l (n+1)=cq l n++[eH l n]:=by simp [cq,List.range_succ]
theorem dx {l:bq} {n:Nat}:(cq l n).length=n:=by simp [cq]
theorem gZ {l:bq} {sg:List aG} {i:Nat}:(cL l sg i).length=l.aj.length:=by simp [cL]
theorem px {l:bq} {sg:List aG} {i b:Nat} (h:b<l.aj.length):(cL l sg i)[b]? =some (o1 l sg i b):=by simp [cL,h]
theorem qa {l:bq} {sg:List aG} {b k:Nat} {q:Int×ai}:uS l sg b k=some q↔ ∃ s,sg[k]? =some s∧(s.fI=(b:Int)∧(dq l s).Lo≤(dq l s).Hi)∧q=((k:Int),dq l s):=by
 unfold uS
 cases h:sg[k]? with
 |none=>simp
 |some s=>
  simp only [Option.bind_some,Option.some.injEq]
  by_cases e:s.fI=(b:Int)∧(dq l s).Lo≤(dq l s).Hi
  ·rw [if_pos e]
   constructor
   ·intro h; cases h; exact ⟨s,rfl,e,rfl⟩
   ·rintro ⟨s',rfl,_,rfl⟩; rfl
  ·rw [if_neg e]
   constructor
   ·intro h; cases h
   ·rintro ⟨s',rfl,e',_⟩; exact absurd e' e
theorem tn {l:bq} {sg:List aG} {i b:Nat} {q:Int×ai}:q∈o1 l sg i b↔ ∃ k,k<i∧ ∃ s,sg[k]? =some s∧(s.fI=(b:Int)∧(dq l s).Lo≤(dq l s).Hi)∧q=((k:Int),dq l s):=by
 unfold o1
 simp only [List.mem_filterMap,List.mem_range,qa]
theorem rD {l:bq} {sg:List aG} {i b:Nat}:o1 l sg (i+1) b=o1 l sg i b++(uS l sg b i).toList:=by
 unfold o1
 rw [List.range_succ,List.filterMap_append]
 congr 1
theorem yL {l:bq} {sg:List aG}:cL l sg 0=List.replicate l.aj.length []:=by
 unfold cL
 rw [List.eq_replicate_iff]
 refine ⟨sm,fun t ht=>?_⟩
 obtain ⟨b,_,rfl⟩:=db.1 ht
 rfl
theorem pY {l:bq} {sg:List aG} {i:Nat} {s:aG} (hs:sg[i]? =some s) (h: ¬ (dq l s).Lo≤(dq l s).Hi):cL l sg (i+1)=cL l sg i:=by
 unfold cL
 apply List.map_congr_left
 intro b _
 rw [rD]
 have:uS l sg b i=none:=by
  cases e:uS l sg b i with
  |none=>rfl
  |some q=>obtain ⟨s',A,⟨_,B⟩,_⟩:=qa.1 e; rw [hs] at A; cases A; exact absurd B h
 rw [this]; simp
theorem sI {l:bq} {sg:List aG} {i:Nat} {s:aG} (hs:sg[i]? =some s) (hb:0≤s.fI∧s.fI≤(l.aj.length:Int)-1) (h:(dq l s).Lo≤(dq l s).Hi) {x:TM} (hx:(cL l sg i)[s.fI.toNat]? =some x):
 (cL l sg i).set s.fI.toNat (eD x (i:Int) (dq l s))=cL l sg (i+1):=by
 have A:s.fI.toNat<l.aj.length:=by omega
 rw [px A] at hx
 cases hx
 have B:eD (o1 l sg i s.fI.toNat) (i:Int) (dq l s)=o1 l sg (i+1) s.fI.toNat:=by
  have hn:(o1 l sg i s.fI.toNat).lookup (i:Int)=none:=iN.2 fun p hp e=>by
   obtain ⟨k,hk,_,_,_,rfl⟩:=tn.1 hp
   simp only at e; omega
  have ho:uS l sg s.fI.toNat i=some ((i:Int),dq l s):=qa.2 ⟨s,hs,⟨om,h⟩,rfl⟩
  rw [rD,ho]
  unfold eD; rw [hn]; rfl
 rw [B]
 apply List.ext_getElem?
 intro b
 rw [List.getElem?_set]
 by_cases e:s.fI.toNat=b
 ·rw [if_pos e,gZ,← e,if_pos A,px A]
 ·rw [if_neg e]
  by_cases hb':b<l.aj.length
  ·rw [px hb',px hb',rD]
   have:uS l sg b i=none:=by
    cases e2:uS l sg b i with
    |none=>rfl
    |some q=>obtain ⟨s',C,⟨D,_⟩,_⟩:=qa.1 e2; rw [hs] at C; cases C; exact absurd om e
   rw [this]; simp
  ·rw [List.getElem?_eq_none (by rw [gZ]; omega),List.getElem?_eq_none (by rw [gZ]; omega)]
noncomputable def di (l:bq) (r:cO):cp:=⟨r.Start,r.gL,cq l l.aj.length,cL l r.aa r.aa.length,l.cU,l.ew,(r.aa.length:Int)⟩
theorem KX {l:bq} (ht:dB l.bL=true) (h:mJ l) {i:Nat} (hi:i<l.aj.length):1≤eH l i∧eH l i≤500000000:=by
 have A:=CT ht h.vY i
 have B:=h.Pe i hi
 have C:=h.head.1
 unfold eH o9
 refine ⟨(Int.le_ediv_iff_mul_le om).2 om,?_⟩
 have:(1000*mN l i+l.gl-1)/l.gl≤1000*mN l i+l.gl-1:=Int.ediv_le_self _ om
 omega
theorem MD (l:bq) (s:aG):0≤(dq l s).Lo∧(dq l s).Hi≤86400000:=by
 have A:=jm (p:=iB (qz l s) s.Read) (n:=86400001)
 have B:=jm (p:=iF (qz l s) s.Read) (n:=86400001)
 unfold dq BL
 simp only
 omega
theorem nc {l:bq} {r:cO} (ht:dB l.bL=true) (h:mJ l) (hr:fW l r):Hs (di l r):=by
 have hh:=h.head
 unfold eJ at hh
 refine ⟨?_,by simp [di,gZ,cp.n,dx],hr.time,fun x hx=>?_,fun t A p hp=>?_⟩
 ·show (cq l l.aj.length).length≤6
  rw [dx]; omega
 ·obtain ⟨i,hi,rfl⟩:=db.1 hx
  exact KX ht h (List.mem_range.1 hi)
 ·obtain ⟨b,hb,rfl⟩:=db.1 A
  obtain ⟨k,hk,s,hs,⟨_,B⟩,rfl⟩:=tn.1 hp
  have C:=MD l s
  have D:=hr.len
  simp only
  omega
noncomputable def fp (l:bq) (r:cO) (me:Int):Int:=if e8 l=0 then (if fW l r then (if me=0 then (if l6 (di l r)=[] then 8 else 0) else me) else 51) else e8 l
theorem iQ {l:bq} {r:cO} {me:Int} (h: ¬ e8 l=0):fp l r me=e8 l:=if_neg h
theorem ep {l:bq} {r:cO} {me:Int} (h:e8 l=0) (h2: ¬ fW l r):fp l r me=51:=by unfold fp; rw [if_pos h,if_neg h2]
theorem lG {l:bq} {r:cO} {me:Int} (h:e8 l=0) (h2:fW l r) (h3: ¬ me=0):fp l r me=me:=by unfold fp; rw [if_pos h,if_pos h2,if_neg h3]
theorem tP {l:bq} {r:cO} {me:Int} (h:e8 l=0) (h2:fW l r) (h3:me=0) (h4:l6 (di l r)=[]):fp l r me=8:=by unfold fp; rw [if_pos h,if_pos h2,if_pos h3,if_pos h4]
theorem vr {l:bq} {r:cO} {me:Int} (h:e8 l=0) (h2:fW l r) (h3:me=0) (h4: ¬ l6 (di l r)=[]):fp l r me=0:=by unfold fp; rw [if_pos h,if_pos h2,if_pos h3,if_neg h4]
theorem iG {l:bq} {r:cO} {me:Int} (h:fp l r me=0):e8 l=0∧fW l r∧me=0∧ ¬ l6 (di l r)=[]:=by
 unfold fp at h
 split at h
 ·split at h
  ·split at h
   ·split at h
    ·omega
    ·exact ⟨asm,asm,asm,asm⟩
   ·omega
  ·omega
 ·omega
end
section
def pX (l:List Int):Int:=(l.drop 1).foldl min (l.headD 0)
theorem K1 {l:List Int} {i:Nat} {x:Int} (h:l[i]? =some x) (hi:1≤i):pX (l.take (i+1))=min (pX (l.take i)) x:=by
 have e:l.take (i+1)=l.take i++[x]:=by rw [List.take_add_one,h]; rfl
 have hl:1≤(l.take i).length:=by have:=(aZ.1 h).1; rw [List.length_take]; omega
 rw [e]
 cases ht:l.take i with
 |nil=>rw [ht] at hl; simp at hl
 |cons y ys=>simp [pX,List.foldl_append]
theorem Hu {l:List Int} {x:Int} (h:l[0]? =some x):pX (l.take 1)=x:=by
 cases l with
 |nil=>simp at h
 |cons y ys=>simp at h; subst h; simp [pX]
theorem B4: ∀ (l:List Int) (a:Int),(l.foldl min a=a∨l.foldl min a∈l)∧l.foldl min a≤a∧ ∀ x∈l,l.foldl min a≤x
 |[],a=>⟨.inl rfl,sm,sm⟩
 |y::l,a=>by
  obtain ⟨A,C,B⟩:=B4 l (min a y)
  simp only [List.foldl_cons]
  refine ⟨?_,om,?_⟩
  ·rcases A with A|A
   ·rw [A]
    rcases Int.le_total a y with q|q
    ·left; omega
    ·right; rw [show min a y=y by omega]; simp
   ·right; exact dH _ A
  ·intro x hx
   rcases cm.1 hx with rfl|hx
   ·omega
   ·exact B x hx
theorem NX {l:List Int} (h:l≠[]):pX l∈l∧ ∀ x∈l,pX l≤x:=by
 cases l with
 |nil=>exact absurd rfl h
 |cons y ys=>
  obtain ⟨A,B,C⟩:=B4 ys y
  refine ⟨?_,fun x hx=>?_⟩
  ·rcases A with A|A
   ·simp [pX,A]
   ·exact dH _ (by simpa [pX] using A)
  ·rcases cm.1 hx with rfl|hx
   ·simpa [pX] using B
   ·simpa [pX] using C x hx
noncomputable def hH (l:bq) (r:cO):List Int:=if fp l r 0=0 then l6 (di l r) else []
theorem rY {l:bq} {r:cO} (h:fp l r 0=0):hH l r=l6 (di l r):=if_pos h
theorem pP {l:bq} {r:cO} (h: ¬ fp l r 0=0):hH l r=[]:=if_neg h
theorem zQ {l:bq} {r:cO} (h:fp l r 0=0):hH l r≠[]:=by rw [rY h]; exact (iG h).2.2.2
theorem yr {l:bq} {r:cO} (h:fp l r 0=0):1≤(hH l r).length:=List.length_pos_iff.2 (zQ h)
theorem D5 {l:bq} {r:cO}:(hH l r).length≤100:=by
 unfold hH
 split
 ·rename_i h
  obtain ⟨A,B,_⟩:=iG h
  obtain ⟨ht,ho⟩:=dw A
  have:=(nc ht ho B).n
  have C:=n9 (w:=di l r) (k:=(di l r).n+1)
  unfold l6; omega
 ·simp
noncomputable def fP (l:bq) (b:Int):Int:=if 0≤b∧b≤(l.aj.length:Int)-1 then 0 else 2
theorem ng {l:bq} {b:Int} (h:0≤b∧b≤(l.aj.length:Int)-1):fP l b=0:=if_pos h
theorem Ef {l:bq} {b:Int} (h:fP l b=0):0≤b∧b≤(l.aj.length:Int)-1:=by
 unfold fP at h
 split at h
 ·assumption
 ·omega
noncomputable def oi (l:bq) (r:cO) (b:Nat):ai:=yI (s9 (di l r) b)
noncomputable def eA (l:bq) (r:cO) (b:Int):Int:=if fp l r (fP l b)=0 then (if oi l r b.toNat=ny then 6 else 0) else fp l r (fP l b)
noncomputable def dD (l:bq) (r:cO) (b:Int):ai:=if eA l r b=0 then oi l r b.toNat else h_
theorem dL {l:bq} {r:cO} {b:Int} (h: ¬ fp l r (fP l b)=0):eA l r b=fp l r (fP l b)∧dD l r b=h_:=by
 have e:eA l r b=fp l r (fP l b):=if_neg h
 exact ⟨e,by unfold dD; rw [if_neg (by rw [e]; exact h)]⟩
theorem rN {l:bq} {r:cO} {b:Nat} (h:fp l r (fP l b)=0) (h2:oi l r b=ny):eA l r b=6∧dD l r b=h_:=by
 have e:eA l r b=6:=by unfold eA; rw [if_pos h,Int.toNat_natCast,if_pos h2]
 exact ⟨e,by unfold dD; rw [if_neg (by rw [e]; omega)]⟩
theorem q_ {l:bq} {r:cO} {b:Nat} (h:fp l r (fP l b)=0) (h2: ¬ oi l r b=ny):eA l r b=0∧dD l r b=oi l r b:=by
 have e:eA l r b=0:=by unfold eA; rw [if_pos h,Int.toNat_natCast,if_neg h2]
 exact ⟨e,by unfold dD; rw [if_pos e,Int.toNat_natCast]⟩
theorem Ld {w:cp} (h:Hs w) {b:Nat} {q:Int×ai} (hq:q∈s9 w b):0≤q.2.Lo∧q.2.Lo≤q.2.Hi∧q.2.Hi≤86400000:=by
 have A:=oS hq
 obtain ⟨o,ho,p,hp,u,hu,e⟩:=jz.1 hq
 obtain ⟨_,_,rfl⟩:=lp.1 e
 have B:=h.opt ho
 simp only [lJ] at A ⊢
 omega
theorem vf {l:bq} {r:cO} {b:Int} (h:eA l r b=0):0≤(dD l r b).Lo∧(dD l r b).Lo≤(dD l r b).Hi∧(dD l r b).Hi≤86400000:=by
 have ho:fp l r (fP l b)=0:=by
  by_cases e:fp l r (fP l b)=0
  ·exact e
  ·rw [(dL e).1] at h; exact absurd h e
 obtain ⟨B,C,_⟩:=iG ho
 obtain ⟨ht,A⟩:=dw B
 have hw:=nc ht A C
 have hv:dD l r b=oi l r b.toNat:=by unfold dD; rw [if_pos h]
 have hn:oi l r b.toNat≠ny:=fun e=>by unfold eA at h; rw [if_pos ho,if_pos e] at h; omega
 have hh:=vC (l:=s9 (di l r) b.toNat) fun q hq=>oS hq
 rw [hv]
 unfold oi at hn ⊢
 rcases hh with ⟨_,e⟩|hh
 ·exact absurd e hn
 ·obtain ⟨x,hx,ex⟩:=hh.lo
  obtain ⟨y,hy,ey⟩:=hh.hi
  have:=Ld hw hx
  have:=Ld hw hy
  have:=hh.le
  omega
noncomputable def B1 (l:bq) (r:cO):ai:=if eA l r l.bV=0 then ⟨(dD l r l.bV).Lo-r.Start,(dD l r l.bV).Hi-r.Start⟩ else h_
theorem Ek {l:bq} {r:cO} (h:eA l r l.bV=0):B1 l r=⟨(dD l r l.bV).Lo-r.Start,(dD l r l.bV).Hi-r.Start⟩:=if_pos h
theorem EI {l:bq} {r:cO} (h: ¬ eA l r l.bV=0):B1 l r=h_:=if_neg h
theorem qX {l:bq} {r:cO} {b:Int} (h:eA l r b=0):fW l r:=by
 by_cases e:fp l r (fP l b)=0
 ·exact (iG e).2.1
 ·rw [(dL e).1] at h; exact absurd h e
theorem z7 {k:List (Int×ai)} {h:ai} {q:Int×ai} {z:ai} (hh:kO k h) (hq:q.2.Lo≤q.2.Hi) (hz:m0 h q.2=z):kO (k++[q]) z:=by subst hz; exact vx hh hq
end
section
def ly (l:bq):Prop:=(20<(l.bL.length:Int)∨8<(l.aH.length:Int)∨10<(l.aj.length:Int))∨ ∃ c∈l.aH,10<(c.bk.length:Int)
noncomputable instance (l:bq):Decidable (ly l):=Classical.propDecidable _
/-- what is asked of a line that comes in -/
structure uz (l:bq) (az:List RA):Prop where
 qF:l.bL.length≤9223372036854775807
 side: ∀ x∈l.bL,0≤x.ja∧x.ja≤255
 qL:l.aH.length≤9223372036854775807
 lQ:az.length=l.aH.length
 qE:l.aj.length≤9223372036854775807
 QI: ∀ (k:Nat) m (a:RA),l.aH[k]? =some m→az[k]? =some a→m.bk.length≤a.2∧m.bk.length≤9223372036854775807
def Bd (l:bq) (i:Nat):Prop:= ∀ (j:Nat) c,j<i→l.aH[j]? =some c→(c.bk.length:Int)≤10
theorem JI {l:bq} {i:Nat} (h: ¬ (20<(l.bL.length:Int))∧ ¬ (8<(l.aH.length:Int))∧ ¬ (10<(l.aj.length:Int))) (hi:l.aH.length≤i) (hs:Bd l i): ¬ ly l:=by
 rintro (A|⟨c,hc,B⟩)
 ·omega
 ·obtain ⟨k,hk⟩:=List.getElem?_of_mem hc
  have:=hs k c (by have:=(aZ.1 hk).1; omega) hk
  omega
theorem JG {l:bq} {i:Nat} {c:aT} (hc:l.aH[i]? =some c) (h:10<(c.bk.length:Int)):ly l:= .inr ⟨c,aP hc,h⟩
theorem mB {α:Type} {l:List α} {P:Nat→α→Prop} {i:Nat} {x:α} (h: ∀ (j:Nat) y,j<i→l[j]? =some y→P j y) (hx:l[i]? =some x) (hp:P i x): ∀ (j:Nat) y,j<i+1→l[j]? =some y→P j y:=fun j y hj hy=>by
 by_cases e:j=i
 ·subst e; rw [hx] at hy; cases hy; exact hp
 ·exact h j y om hy
theorem xj {α:Type} {l:List α} {P:Nat→α→Prop} {i:Nat} (hi:l.length≤i) (h: ∀ (j:Nat) y,j<i→l[j]? =some y→P j y): ∀ (j:Nat) y,l[j]? =some y→P j y:=fun j y hy=>h j y (by have:=(aZ.1 hy).1; omega) hy
theorem xS {α:Type} {l:List α} {P:α→Prop} {i:Nat} (hi:l.length≤i) (h: ∀ (j:Nat) y,j<i→l[j]? =some y→P y): ∀ y∈l,P y:=fun y hy=>by
 obtain ⟨k,hk⟩:=List.getElem?_of_mem hy
 exact xj (P:=fun _ y=>P y) hi h k y hk
theorem uW {l:bq} (h: ¬ ly l):(l.bL.length:Int)≤20∧(l.aH.length:Int)≤8∧(l.aj.length:Int)≤10∧ ∀ c∈l.aH,(c.bk.length:Int)≤10:=by
 unfold ly at h
 rw [not_or] at h
 refine ⟨om,om,om,fun c hc=>?_⟩
 have:=h.2
 rcases Int.lt_or_le 10 (c.bk.length:Int) with q|q
 ·exact absurd ⟨c,hc,q⟩ this
 ·exact q
theorem uz.small {l:bq} {az:List RA} (h:uz l az) (hg: ¬ ly l):ej l az:=by
 have A:=uW hg
 exact ⟨om,h.side,om,h.lQ,om,fun k m a hm ha=>⟨(h.QI k m a hm ha).1,by have:=A.2.2.2 m (aP hm); omega⟩⟩
def E5 (c:aT) (x:cE) (k:Nat):Prop:= ∀ (j:Nat) o,j<k→c.bk[j]? =some o→o4 c x o
def ur (c:aT) (m:Nat):Prop:= ∀ (i:Nat) x,i<m→c.bk[i]? =some x→E5 c x i
theorem IW {c:aT} {m:Nat} (h1:0≤c.dA∧c.dA≤1000) (h2:1≤c.bk.length∧c.bk.length≤5) (hs: ∀ (i:Nat) x,c.bk[i]? =some x→fV c i x) (hm:c.bk.length≤m) (hp:ur c m):fG c:=
 ⟨h1,h2,hs,fun i k x o hx hk ho=>hp i x (by have:=(aZ.1 hx).1; omega) hx k o hk ho⟩
theorem DC {c:aT} {m k:Nat} (h:ur c m) (hk: ∀ y,c.bk[m]? =some y→E5 c y k) (e:k=m):ur c (m+1):=by
 subst e
 intro i x hi hx
 by_cases e:i=k
 ·subst e; exact hk x hx
 ·exact h i x om hx
noncomputable def lB (c:aT) (at_:Int) (i:Nat):ai:=if i=0 then h_ else gX c at_ i
theorem DV {c:aT} {at_:Int} {i:Nat} (h:fG c) (hi:c.bk.length≤i):lB c at_ i=iT c at_:=by
 have:=h.len
 unfold lB; rw [if_neg om,nW hi]
theorem Am {c:aT} {at_:Int} {i:Nat} {x:cE} (h:fG c) (ha:0≤at_∧at_≤90000000) (hx:c.bk[i]? =some x) (hi:i=0):
 lB c at_ (i+1)=⟨max (x.d_.Lo-tx c at_ x) (x.d_.Lo-tx c at_ x),min (x.d_.Hi+tx c at_ x) (x.d_.Hi+tx c at_ x)⟩:=by
 subst hi
 have hb:=h.vo hx
 have ho:=v7 h.sZ ha hb.1
 unfold lB
 rw [if_neg om,kg hx]
 unfold mm gX
 simp only [List.take_zero,List.foldl_nil,ai.mk.injEq]
 omega
theorem CE {c:aT} {at_:Int} {i:Nat} {x:cE} (hx:c.bk[i]? =some x) (hi: ¬ i=0):lB c at_ (i+1)=⟨max (lB c at_ i).Lo (x.d_.Lo-tx c at_ x),min (lB c at_ i).Hi (x.d_.Hi+tx c at_ x)⟩:=by
 unfold lB
 rw [if_neg om,if_neg hi,kg hx]; rfl
def iO (ts:List aD) (n:Nat):List ai:=(List.range n).map fun k=>eV ts 0 k
theorem Bi {ts:List aD} {n:Nat}:iO ts (n+1)=iO ts n++[eV ts 0 n]:=by simp [iO,List.range_succ]
theorem o8 {ts:List aD} {n:Nat}:(iO ts n).length=n:=by simp [iO]
theorem qu {ts:List aD} {n k:Nat} {x:ai} (h:(iO ts n)[k]? =some x):x=eV ts 0 k:=by
 unfold iO at h
 rw [fZ] at h
 cases hk:(List.range n)[k]? with
 |none=>simp [hk] at h
 |some v=>
  have:=aZ.1 hk
  simp at this
  simp [hk] at h
  rw [← h,← this.2]
theorem Dx {ts:List aD} {a b:dg} (h:b.bw<a.bw):kl ts a b=oJ (kl ts b a):=by
 unfold kl
 rw [if_pos h,if_neg om]
 unfold xG
 rw [Int.min_comm b.bw a.bw,Int.max_comm b.bw a.bw]
 unfold oJ mZ
 simp only [ai.mk.injEq]
 omega
theorem rU {ts:List aD} {a b:dg} (h: ¬ b.bw<a.bw):kl ts a b=mZ (mZ (eV ts a.bw.toNat (b.bw-a.bw).toNat) b.l9) (oJ a.l9):=by
 unfold kl xG
 rw [if_neg h,Int.min_eq_left om,Int.max_eq_right om]
end
section
def lZ (m:List aq) (a:bZ):List ay:=rd a.1.1 m.length 7 (List.zipWith aq.cells m a.2)::bK aq.jW m a.2
structure Pk (h:List aq) (a:bZ):Prop where
 len:h.length≤1000000
 lQ:a.2.length=h.length
 sig: ∀ d∈h,d.aV.aa.length≤1000000
structure iP (r:eU) (az:List RA) (ha:List bZ):Prop where
 line:ej r.au az
 fM:r.bu.length≤1000000
 draw:r.cP.length≤12
 fE:r.aI.length≤1000000
 has:ha.length=r.aI.length
 fJ: ∀ (k:Nat) h (a:bZ),r.aI[k]? =some h→ha[k]? =some a→Pk h a
structure uN (r:eU) (az:List RA) (ha:List bZ):Prop where
 line:uz r.au az
 fM:r.bu.length≤9223372036854775807
 draw:r.cP.length≤9223372036854775807
 fE:r.aI.length≤9223372036854775807
 has:ha.length=r.aI.length
 fJ: ∀ (k:Nat) h (a:bZ),r.aI[k]? =some h→ha[k]? =some a→h.length≤9223372036854775807∧a.2.length=h.length∧ ∀ d∈h,d.aV.aa.length≤9223372036854775807
def po (h:List aq):Prop:=8<(h.length:Int)∨ ∃ d∈h,15<(d.aV.aa.length:Int)
def jX (r:eU):Prop:=(ly r.au∨8<(r.bu.length:Int)∨8<(r.cP.length:Int)∨5<(r.aI.length:Int))∨ ∃ h∈r.aI,po h
noncomputable instance (r:eU):Decidable (jX r):=Classical.propDecidable _
theorem uf {r:eU} (h: ¬ jX r): ¬ ly r.au∧(r.bu.length:Int)≤8∧(r.cP.length:Int)≤8∧(r.aI.length:Int)≤5∧ ∀ h∈r.aI,(h.length:Int)≤8∧ ∀ d∈h,(d.aV.aa.length:Int)≤15:=by
 unfold jX at h
 obtain ⟨A,B⟩:=not_or.1 h
 obtain ⟨C,E⟩:=not_or.1 A
 refine ⟨C,om,om,om,fun x hx=>?_⟩
 have hn: ¬ po x:=fun q=>B ⟨x,hx,q⟩
 obtain ⟨F,D⟩:=not_or.1 hn
 refine ⟨om,fun d hd=>?_⟩
 rcases Int.lt_or_le 15 (d.aV.aa.length:Int) with q|q
 ·exact absurd ⟨d,hd,q⟩ D
 ·exact q
theorem uN.small {r:eU} {az:List RA} {ha:List bZ} (h:uN r az ha) (hg: ¬ jX r):iP r az ha:=by
 have B:=uf hg
 refine ⟨h.line.small B.1,om,om,om,h.has,fun k x a hx A=>?_⟩
 have C:=B.2.2.2.2 x (aP hx)
 have D:=h.fJ k x a hx A
 exact ⟨om,D.2.1,fun d hd=>by have:=C.2 d hd; omega⟩
def nx (r:cO):Prop:=r.Start=0∧r.gL=0∧(r.aa.length:Int)=0
instance (r:cO):Decidable (nx r):=by unfold nx; infer_instance
def nt (s:ai):Prop:=1≤s.Lo∧s.Lo≤s.Hi∧s.Hi≤600000
instance (s:ai):Decidable (nt s):=by unfold nt; infer_instance
def js (l:bq) (d:aq):Prop:=if d.Out=true then d.cD=false∧d.Time=h_∧nx d.aV else if d.cD=true then nt d.Time∧nx d.aV else eA l d.aV l.bV=0∧d.Time=h_
noncomputable instance (l:bq) (d:aq):Decidable (js l d):=Classical.propDecidable _
noncomputable def gv (l:bq) (d:aq):ai:=if d.Out=true∨d.cD=true then d.Time else B1 l d.aV
/-- which kind a descent is of -/
def o5 (d:aq):Int:=if d.Out=true then 0 else if d.cD=true then 1 else 2
theorem Ml {w:cp} (h:Hs w): ∀ (b:Nat) (p:aQ×Int),p∈pW w b→w.Start≤p.2:=by
 have hl: ∀ b,0≤cY w b:=fun b=>by
  unfold cY
  cases e:w.qO[b]? with
  |none=>simp
  |some x=>have:=h.least x (aP e); simp; omega
 intro b
 induction b with
 |zero=>intro p hp; simp only [pW,cH] at hp; subst hp; exact Int.le_refl _
 |succ b ih=>
  intro q hq
  obtain ⟨p,hp,o,ho,e⟩:=kD.1 hq
  unfold nj at e
  split at e
  ·simp only [Option.some.injEq] at e
   subst e
   have:=ih p hp
   have:=hl b
   simp only; omega
  ·cases e
theorem ME {l:bq} {r:cO} {b:Int} (h:eA l r b=0):r.Start≤(dD l r b).Lo:=by
 have ho:fp l r (fP l b)=0:=by
  by_cases e:fp l r (fP l b)=0
  ·exact e
  ·rw [(dL e).1] at h; exact absurd h e
 obtain ⟨B,C,_⟩:=iG ho
 obtain ⟨ht,A⟩:=dw B
 have hw:=nc ht A C
 have hv:dD l r b=oi l r b.toNat:=by unfold dD; rw [if_pos h]
 have hn:oi l r b.toNat≠ny:=fun e=>by unfold eA at h; rw [if_pos ho,if_pos e] at h; omega
 have hh:=vC (l:=s9 (di l r) b.toNat) fun q hq=>oS hq
 rw [hv]
 unfold oi at hn ⊢
 rcases hh with ⟨_,e⟩|hh
 ·exact absurd e hn
 ·obtain ⟨x,hx,ex⟩:=hh.lo
  obtain ⟨o,ho,p,hp,u,hu,e⟩:=jz.1 hx
  obtain ⟨_,_,rfl⟩:=lp.1 e
  have D:r.Start≤p.2:=Ml hw _ p hp
  have E:0≤cY (di l r) b.toNat:=by
   unfold cY
   cases e:(di l r).qO[b.toNat]? with
   |none=>simp
   |some x=>have:=hw.least x (aP e); simp; omega
  simp only [lJ] at ex
  omega
theorem EO {l:bq} {d:aq} (h:js l d):0≤(gv l d).Lo∧(gv l d).Lo≤(gv l d).Hi∧(gv l d).Hi≤86400000:=by
 unfold js at h
 unfold gv
 split at h
 ·rename_i q; rw [if_pos (Or.inl q),h.2.1]; simp [h_]
 ·rename_i q
  split at h
  ·rename_i A
   rw [if_pos (Or.inr A)]
   obtain ⟨⟨B,C,D⟩,_⟩:=h
   omega
  ·rename_i A
   rw [if_neg (fun z=>z.elim q A),Ek h.1]
   have B:=vf h.1
   have C:=(qX h.1).time
   have D:=ME h.1
   simp only
   omega
theorem E4 {l:bq} {d:aq} (h:d.Out=true):gv l d=d.Time:=if_pos (Or.inl h)
theorem FD {l:bq} {d:aq} (h:d.Out=false∧d.cD=true):gv l d=d.Time:=if_pos (Or.inr h.2)
theorem F0 {l:bq} {d:aq} (h:d.Out=false∧d.cD=false):gv l d=B1 l d.aV:=if_neg (by simp [h])
theorem qU {l:bq} {d:aq} (h:d.Out=true):js l d=(d.cD=false∧d.Time=h_∧nx d.aV):=if_pos h
theorem xQ {l:bq} {d:aq} (h:d.Out=false∧d.cD=true):js l d=(nt d.Time∧nx d.aV):=by unfold js; rw [if_neg (by simp [h]),if_pos h.2]
theorem ud {l:bq} {d:aq} (h:d.Out=false∧d.cD=false):js l d=(eA l d.aV l.bV=0∧d.Time=h_):=by unfold js; rw [if_neg (by simp [h]),if_neg (by simp [h])]
structure fQ (r:eU):Prop where
 num:1≤(r.bu.length:Int)∧(r.bu.length:Int)≤5
 Be:0≤r.jc∧r.jc≤5
 nh:1≤(r.aI.length:Int)∧(r.aI.length:Int)≤3
 ids: ∀ (i:Nat) x,r.bu[i]? =some x→(0≤x∧x≤9999)∧ ∀ y,0<i→r.bu[i-1]? =some y→y<x
 draw:r.cP.Perm ((List.range r.bu.length).map fun (k:Nat)=>(k:Int))
 fJ: ∀ h∈r.aI,h.length=r.bu.length∧ ∀ d∈h,js r.au d
noncomputable instance (r:eU):Decidable (fQ r):=Classical.propDecidable _
noncomputable def jF (r:eU):Int:=if e8 r.au=0 then (if fQ r then 0 else 60) else e8 r.au
abbrev Ix (r:eU) (kA:Option Addr) (az:List RA) (cA bA:Option Addr) (slA drA:Option Addr) (ha:List bZ) (heA:Option Addr):List ay:=[(rd kA r.au.bL.length 9 (r.au.bL.map aD.cells)),(rd cA r.au.aH.length 2 (List.zipWith aT.cells r.au.aH az)),(iK (bK aT.jW r.au.aH az)),(rd bA r.au.aj.length 4 (r.au.aj.map cQ.cells)),(rd slA r.bu.length 1 (r.bu.map iC)),(rd drA r.cP.length 1 (r.cP.map iC)),(rd heA r.aI.length 1 (List.zipWith cM r.aI ha)),(iK (bK lZ r.aI ha))]
end
section
theorem nZ {α β:Type} {f g:α→Option β}: ∀ {l:List α},(∀ x∈l,f x=g x)→l.filterMap f=l.filterMap g
 |[],_=>rfl
 |x::l,h=>by simp only [List.filterMap_cons,h x cr,nZ (l:=l) (fun y hy=>h y (dH _ hy))]
abbrev CC:=List (Int×ai)
/-- the sum of a sled in some heats, the first ones -/
noncomputable def kb (l:bq) (hs:List (List aq)) (i:Nat):Nat→Option ai
 |0=>some ⟨0,0⟩
 |k+1=>match kb l hs i k,(hs[k]?).bind (·[i]?) with
  |some s,some d=>if d.Out=true then none else some ⟨s.Lo+(gv l d).Lo/10,s.Hi+(gv l d).Hi/10⟩
  |_,_=>none
noncomputable def eI (l:bq) (hs:List (List aq)) (n h i:Nat):CC:=(List.range n).filterMap fun q=>(kb l hs q (if q<i then h+1 else h)).map fun s=>((q:Int),s)
noncomputable def CO (r:eU) (k:Nat):CC:=(List.range r.bu.length).filterMap fun q=>(kb r.au r.aI q k).map fun s=>((q:Int),s)
noncomputable def Om (r:eU):CC:=CO r r.aI.length
section
variable {l:bq} {hs:List (List aq)} {n h i q:Nat} {s:ai} {d:aq}
theorem BN:eI l hs n h 0=(List.range n).filterMap fun q=>(kb l hs q h).map fun s=>((q:Int),s):=by
 unfold eI
 apply nZ
 intro q _
 rw [if_neg (Nat.not_lt_zero _)]
theorem M3:eI l hs n h n=eI l hs n (h+1) 0:=by
 rw [BN]
 unfold eI
 apply nZ
 intro q hq
 rw [if_pos (List.mem_range.1 hq)]
theorem HQ {x:List aq} (hx:hs[h]? =some x) (hd:x[i]? =some d) (ho:d.Out=true):kb l hs i (h+1)=none:=by
 unfold kb
 rw [hx]
 simp only [Option.bind_some,hd]
 cases kb l hs i h with
 |none=>rfl
 |some s=>simp [ho]
theorem Eo (h0:kb l hs i h=none):kb l hs i (h+1)=none:=by unfold kb; rw [h0]
theorem Dt {x:List aq} (hx:hs[h]? =some x) (hd:x[i]? =some d) (ho: ¬ d.Out=true) (hs0:kb l hs i h=some s):kb l hs i (h+1)=some ⟨s.Lo+(gv l d).Lo/10,s.Hi+(gv l d).Hi/10⟩:=by
 unfold kb
 rw [hx,hs0]
 simp only [Option.bind_some,hd,if_neg ho]
end
section
variable {l:bq} {hs:List (List aq)} {n h i q:Nat} {s t:ai}
theorem QH {K β:Type} [DecidableEq K] {L Y:List (K×β)} {t:K}:(L++Y).lookup t=match L.lookup t with |some v=>some v|none=>Y.lookup t:=by
 induction L with
 |nil=>rfl
 |cons p L ih=>
  obtain ⟨k,u⟩:=p
  by_cases e:t==k
  ·simp [List.lookup,e]
  ·have:(t==k)=false:=by simpa using e
   simp only [List.cons_append,List.lookup,this,ih]
theorem vD {f:Nat→Option ai}: ∀ (n i:Nat),((List.range n).filterMap fun q=>(f q).map fun s=>((q:Int),s)).lookup (i:Int)=if i<n then f i else none
 |0,i=>by simp
 |n+1,i=>by
  rw [List.range_succ,List.filterMap_append,QH,vD n i]
  by_cases c:i<n
  ·rw [if_pos c,if_pos om]
   cases e:f i with
   |some s=>rfl
   |none=>
    simp only
    cases e2:f n with
    |none=>simp [e2]
    |some u=>
     have:((i:Int)==(n:Int))=false:=by simp only [beq_eq_false_iff_ne,ne_eq]; omega
     simp [e2,List.lookup,this]
  ·rw [if_neg c]
   simp only
   by_cases A:i=n
   ·subst A
    rw [if_pos om]
    cases e2:f i with
    |none=>simp [e2]
    |some u=>simp [e2]
   ·rw [if_neg om]
    have:((i:Int)==(n:Int))=false:=by simp only [beq_eq_false_iff_ne,ne_eq]; omega
    cases e2:f n with
    |none=>simp [e2]
    |some u=>simp [e2,List.lookup,this]
theorem xU:(eI l hs n h i).lookup (q:Int)=if q<n then kb l hs q (if q<i then h+1 else h) else none:=vD n q
theorem O2 {f g:Nat→Option ai} {n i:Nat} (hi:i<n) {s:ai} (hf:(f i).isSome=true) (hg:g i=some s) (hfg: ∀ q,q≠i→f q=g q):eD ((List.range n).filterMap fun q=>(f q).map fun s=>((q:Int),s)) (i:Int) s=(List.range n).filterMap fun q=>(g q).map fun s=>((q:Int),s):=by
 unfold eD
 rw [if_pos (by rw [vD,if_pos hi]; exact hf),List.map_filterMap]
 apply nZ
 intro q _
 by_cases e:q=i
 ·subst e
  obtain ⟨u,hu⟩:=Option.isSome_iff_exists.1 hf
  rw [hu,hg]; simp
 ·rw [hfg q e]
  cases g q with
  |none=>rfl
  |some u=>
   have: ¬ ((q:Int)=(i:Int)):=by omega
   simp [this]
theorem OW {f g:Nat→Option ai} {n i:Nat} (hg:g i=none) (hfg: ∀ q,q≠i→f q=g q):fz ((List.range n).filterMap fun q=>(f q).map fun s=>((q:Int),s)) (i:Int)=(List.range n).filterMap fun q=>(g q).map fun s=>((q:Int),s):=by
 unfold fz
 rw [List.filter_filterMap]
 apply nZ
 intro q _
 by_cases e:q=i
 ·subst e
  rw [hg]
  cases f q with
  |none=>rfl
  |some u=>simp
 ·rw [hfg q e]
  cases g q with
  |none=>rfl
  |some u=>
   have: ¬ ((q:Int)=(i:Int)):=by omega
   simp [this]
theorem LQ (hi:i<n) (h0:(kb l hs i h).isSome=true) (h1:kb l hs i (h+1)=some s):eD (eI l hs n h i) (i:Int) s=eI l hs n h (i+1):=by
 unfold eI
 refine O2 hi (by rw [if_neg (Nat.lt_irrefl i)]; exact h0) (by rw [if_pos (Nat.lt_succ_self i)]; exact h1) fun q hq=>?_
 by_cases c:q<i
 ·rw [if_pos c,if_pos om]
 ·rw [if_neg c,if_neg om]
theorem FY (h1:kb l hs i (h+1)=none):fz (eI l hs n h i) (i:Int)=eI l hs n h (i+1):=by
 unfold eI
 refine OW (by rw [if_pos (Nat.lt_succ_self i)]; exact h1) fun q hq=>?_
 by_cases c:q<i
 ·rw [if_pos c,if_pos om]
 ·rw [if_neg c,if_neg om]
end
section
variable {m:CC} {i:Int} {own:ai}
end
end
section
def qY (l:List Int):List (List Value):=l.map fun x=>[vI x]
theorem ui {l:List Int}:(qY l).length=l.length:=by simp [qY]
theorem Gm {l:List Int} {k:Nat} {x:Int} (h:l[k]? =some x):(qY l)[k]? =some [vI x]:=by simp [qY,h]
theorem HV {l:List Int} {k:Nat} {x:List Value} (h:(qY l)[k]? =some x): ∃ y,l[k]? =some y∧x=[vI y]:=by
 simp only [qY,fZ,Option.map_eq_some_iff] at h
 obtain ⟨y,hy,rfl⟩:=h
 exact ⟨y,hy,U⟩
theorem ED {l:List Int}: ∀ x∈qY l,x.length=1:=fun x hx=>by
 simp only [qY,db] at hx
 obtain ⟨y,_,rfl⟩:=hx
 rfl
theorem yZ {l:List Int}:l.take (qY l).length=l:=by rw [ui,List.take_of_length_le (Nat.le_refl _)]
theorem xL {l:List Int} {k:Nat} {x:Int} (h:l[k]? =some x):l.take (k+1)=l.take k++[x]:=by
 rw [List.take_add_one,h]; rfl
def oc (l:List Int):List Int:=l.mergeSort fun a b=>decide (a≤b)
theorem mG {l:List Int}:(oc l).Perm l:=List.mergeSort_perm _ _
theorem uK {l:List Int}:(oc l).Pairwise (· ≤ ·):=by
 have:=List.pairwise_mergeSort (le:=fun (a b:Int)=>decide (a≤b)) (fun a b c A B=>by simp at A B ⊢; omega) (fun a b=>by simp; omega) l
 exact this.imp fun h=>by simpa using h
@[simp] theorem uj {l:List Int}:(oc l).length=l.length:=mG.length_eq
theorem B6 {l m:List Int} (h1:m.Perm l) (h2:m.Pairwise (· ≤ ·)):m=oc l:=sS (h1.trans mG.symm) h2 uK
end
section
open Go.RowKit
def sC (s:bj):List Value:=[vS s.a s.n s.c]
theorem zH: ∀ s,(sC s).length=1:=fun s=>rfl
theorem IJ (l:List bj): ∀ v∈(l.map sC).flatten,v.oneCell'=true:=kY (fun s=>rfl) l
def Df (l:List ai) (a:RA):bj:=⟨a.1,l.length,a.2⟩
def Nh (l:List ai) (a:RA):List Value:=[vS a.1 l.length a.2]
def QJ (l:List ai) (a:RA):List ay:=[rd a.1 l.length 2 (l.map ai.cells)]
def FH (l:List ai) (a:RA):List ay:=[own a.1 a.2 H3 2 (l.map ai.cells)]
theorem zm {ls:List (List ai)} {az:List RA}:(List.zipWith Df ls az).map sC=List.zipWith Nh ls az:=by
 rw [List.map_zipWith]; rfl
theorem TA: ∀ (m:List ai) (a:RA) (w:World),(∀ X∈FH m a,X.holds w)→ ∀ X∈QJ m a,X.holds w:=fun m a w h X hX=>by
 simp only [QJ,cH] at hX
 subst hX
 have:=n7 (h _ (cH.2 rfl))
 simpa using this
theorem DN {l:List (List ai)} {bz:List RA}:(bQ (bK FH l bz)).wr=true:=by
 show (bK FH l bz).all (·.wr)=true
 rw [c_]
 intro X hX
 obtain ⟨k,m,a,_,_,h⟩:=ku hX
 simp only [FH,cH] at h
 subst h; rfl
theorem Mw {ls:List (List ai)} {az:List RA} (h:az.length=ls.length):(List.zipWith Nh ls az).length=ls.length:=by simp [h]
noncomputable def hG (r:eU) (i:Nat):List (List ai):=(r.aI.take i).map fun h=>h.map (gv r.au)
noncomputable def fT (r:eU):List (List ai):=hG r r.aI.length
section
variable {r:eU} {i:Nat} {h:List aq} {tz:List RA} {a:RA}
theorem wy (hh:r.aI[i]? =some h):hG r (i+1)=hG r i++[h.map (gv r.au)]:=by unfold hG; rw [List.take_add_one,hh,List.map_append]; rfl
theorem lq (hi:i≤r.aI.length):(hG r i).length=i:=by unfold hG; rw [List.length_map,List.length_take]; omega
theorem jo:(fT r).length=r.aI.length:=lq (Nat.le_refl _)
theorem Em (hh:r.aI[i]? =some h):(fT r)[i]? =some (h.map (gv r.au)):=by
 unfold fT hG
 rw [List.take_length,fZ,hh]; rfl
theorem Hb {m:List ai} (hh:r.aI[i]? =some h) (hm:(fT r)[i]? =some m):m=h.map (gv r.au):=by
 rw [Em hh] at hm
 exact (Option.some.inj hm).symm
theorem t_ (hh:r.aI[i]? =some h) (hl:tz.length=i):List.zipWith Df (hG r (i+1)) (tz++[a])=List.zipWith Df (hG r i) tz++[Df (h.map (gv r.au)) a]:=by
 have hi:=(aZ.1 hh).1
 rw [wy hh,List.zipWith_append (by rw [lq om,hl])]
 rfl
theorem BO (hh:r.aI[i]? =some h) (hl:tz.length=i):bK FH (hG r i) tz++[own a.1 a.2 H3 2 ((h.map (gv r.au)).map ai.cells)]=bK FH (hG r (i+1)) (tz++[a]):=by
 have hi:=(aZ.1 hh).1
 rw [wy hh,jJ (by rw [lq om,hl])]
 simp [bK,FH]
end
theorem z3 {lo hi:Int} {l:List Int}:qD lo hi l=true↔ ∀ x∈l,lo≤x∧x≤hi:=by
 unfold qD
 rw [Bool.not_eq_true',List.any_eq_false]
 constructor
 ·intro h x hx; have:=h x hx; simp only [decide_eq_true_eq] at this; omega
 ·intro h x hx; have:=h x hx; simp only [decide_eq_true_eq]; omega
abbrev Gn (n:Nat):List Int:=(List.range n).map fun (k:Nat)=>(k:Int)
theorem yA (n:Nat):(Gn n).Pairwise (· ≤ ·):=by
 unfold Gn
 rw [List.pairwise_map]
 exact List.pairwise_lt_range.imp fun h=>by omega
theorem Cz {l:List Int} {n:Nat} (h:l.Perm (Gn n)):oc l=Gn n:=(B6 h.symm (yA n)).symm
theorem G6 {l:List Int} {n:Nat} (hl:l.length=n) (h: ∀ j,j<n→ ∀ x,(oc l)[j]? =some x→x=(j:Int)):l.Perm (Gn n):=by
 have e:oc l=Gn n:=by
  apply List.ext_getElem
  ·simp [hl]
  ·intro j A B
   have C:j<n:=by simpa using B
   have:=h j C _ (f_ A)
   simpa using this
 rw [← e]; exact mG.symm
def sD (r:eU) (i:Nat):Prop:= ∀ j,j<i→(∀ x,(oc r.cP)[j]? =some x→x=(j:Int))∧ ∀ x y,r.bu[j]? =some x→0<j→r.bu[j-1]? =some y→y<x
def D9 (r:eU) (h:List aq):Prop:=h.length=r.bu.length∧ ∀ d∈h,js r.au d
def kE (r:eU) (i:Nat):Prop:= ∀ (j:Nat) h,j<i→r.aI[j]? =some h→D9 r h
def oM (l:bq) (h:List aq) (k:Nat):Prop:= ∀ (j:Nat) d,j<k→h[j]? =some d→js l d
section
variable {r:eU} {i:Nat}
theorem DB:sD r 0:=fun j hj=>absurd hj (Nat.not_lt_zero _)
theorem yS {x:Int} (h:sD r i) (hd:(oc r.cP)[i]? =some x) (e:x=(i:Int)) (hs: ∀ x y,r.bu[i]? =some x→0<i→r.bu[i-1]? =some y→y<x):sD r (i+1):=fun j hj=>by
 rcases Nat.lt_or_ge j i with q|q
 ·exact h j q
 ·obtain rfl:j=i:=by omega
  exact ⟨fun y hy=>by rw [hd] at hy; cases hy; exact e,hs⟩
theorem xh:kE r 0:=fun j h hj=>absurd hj (Nat.not_lt_zero _)
theorem yD {h:List aq} (hh:kE r i) (hx:r.aI[i]? =some h) (ho:D9 r h):kE r (i+1):=fun j y hj hy=>by
 rcases Nat.lt_or_ge j i with q|q
 ·exact hh j y q hy
 ·obtain rfl:j=i:=by omega
  rw [hx] at hy; cases hy; exact ho
theorem wo {l:bq} {h:List aq}:oM l h 0:=fun j d hj=>absurd hj (Nat.not_lt_zero _)
theorem wg {l:bq} {h:List aq} {d:aq} (ht:oM l h i) (hx:h[i]? =some d) (ho:js l d):oM l h (i+1):=fun j y hj hy=>by
 rcases Nat.lt_or_ge j i with q|q
 ·exact ht j y q hy
 ·obtain rfl:j=i:=by omega
  rw [hx] at hy; cases hy; exact ho
theorem FQ {h:List aq} (hl:h.length=r.bu.length) (ht:oM r.au h i) (hi:h.length≤i):D9 r h:=⟨hl,fun d hd=>by
 obtain ⟨j,hj⟩:=List.getElem?_of_mem hd
 exact ht j d (by have:=(aZ.1 hj).1; omega) hj⟩
theorem Ih {n:Nat} (hn:n=r.bu.length) (h1:1≤(r.bu.length:Int)∧(r.bu.length:Int)≤5) (h2:r.cP.length=r.bu.length) (h3:0≤r.jc∧r.jc≤5) (h4:1≤(r.aI.length:Int)∧(r.aI.length:Int)≤3) (h5:qD 0 9999 r.bu=true)
 (h6:sD r n) (h7:kE r i) (hi:r.aI.length≤i):fQ r:=by
 subst hn
 refine ⟨h1,h3,h4,fun k x hx=>⟨z3.1 h5 x (aP hx),fun y hk hy=>?_⟩,G6 h2 fun j hj=>(h6 j hj).1,fun h hh=>?_⟩
 ·exact (h6 k (aZ.1 hx).1).2 x y hx hk hy
 ·obtain ⟨j,hj⟩:=List.getElem?_of_mem hh
  exact h7 j h (by have:=(aZ.1 hj).1; omega) hj
theorem fQ.AM (h:fQ r):r.cP.length=r.bu.length:=by have:=h.draw.length_eq; simpa using this
theorem fQ.ins (h:fQ r):qD 0 9999 r.bu=true:=z3.2 fun x hx=>by
 obtain ⟨j,hj⟩:=List.getElem?_of_mem hx
 exact (h.ids j x hj).1
theorem fQ.drawn (h:fQ r) {x:Int} (hx:(oc r.cP)[i]? =some x):x=(i:Int):=by
 rw [Cz h.draw] at hx
 have hi:=(aZ.1 hx).1
 simp at hi
 rw [fZ,List.getElem?_range hi] at hx
 exact (Option.some.inj hx).symm
theorem fQ.Nl (h:fQ r):kE r i:=fun j x _ hx=>h.fJ x (aP hx)
theorem zg (h: ¬ e8 r.au=0):jF r=e8 r.au:=if_neg h
theorem k7 (h:e8 r.au=0) (hn: ¬ fQ r):jF r=60:=by unfold jF; rw [if_pos h,if_neg hn]
theorem Cd (h:e8 r.au=0) (hn:fQ r):jF r=0:=by unfold jF; rw [if_pos h,if_pos hn]
theorem dy (h:jF r=0):e8 r.au=0∧fQ r:=by
 unfold jF at h
 split at h
 ·split at h
  ·exact ⟨asm,asm⟩
  ·cases h
 ·exact absurd h asm
end
section
variable {r:eU} {k i n h:Nat} {s:ai} {l:bq} {hs:List (List aq)}
theorem F7: ∀ {k:Nat} {s:ai},kE r k→k≤r.aI.length→kb r.au r.aI i k=some s→0≤s.Lo∧s.Lo≤s.Hi∧s.Hi≤8640000*(k:Int)
 |0,s,_,_,h=>by
  simp only [kb,Option.some.injEq] at h
  subst h; simp
 |k+1,s,hh,hk,h=>by
  unfold kb at h
  split at h
  ·rename_i u d hu hd
   split at h
   ·cases h
   ·cases h
    have A:=F7 (fun j x hj hx=>hh j x om hx) om hu
    obtain ⟨x,hx,hd⟩:=Option.bind_eq_some_iff.1 hd
    have B:=EO ((hh k x om hx).2 d (aP hd))
    simp only
    push_cast
    omega
  ·cases h
theorem LR:eD (eI l hs i 0 0) (i:Int) ⟨0,0⟩=eI l hs (i+1) 0 0:=by
 have A:(eI l hs i 0 0).lookup (i:Int)=none:=by rw [xU,if_neg (Nat.lt_irrefl i)]
 unfold eD
 rw [A]
 simp only [Option.isSome_none,Bool.false_eq_true,if_false]
 unfold eI
 rw [List.range_succ,List.filterMap_append]
 simp [kb]
theorem IU (hi:i<n):(eI l hs n h i).lookup (i:Int)=kb l hs i h:=by rw [xU,if_pos hi,if_neg (Nat.lt_irrefl i)]
theorem OZ {α β:Type} {f:α→β} {tr:List β} {ht:List α} {x:β} {d:α} (e:tr=ht.map f) (hx:tr[i]? =some x) (hd:ht[i]? =some d):x=f d:=by
 rw [e,fZ,hd] at hx
 exact (Option.some.inj hx).symm
theorem Mf:eI r.au r.aI r.bu.length h 0=CO r h:=BN
end
end
section
def qN (r:eU) (i:Int):Prop:=0≤i∧i≤(r.bu.length:Int)-1
instance (r:eU) (i:Int):Decidable (qN r i):=by unfold qN; infer_instance
section
variable {r:eU} {i a b:Int}
end
end
section
def o2 (d:aq):Prop:=d.Out=false∧d.cD=false
instance (d:aq):Decidable (o2 d):=by unfold o2; infer_instance
def fj (l:bq) (f:bg):Prop:=(1≤f.Kind∧f.Kind≤3)∧(0≤f.mu∧f.mu≤f.To∧f.To≤86400000)∧0≤f.g_∧f.g_≤(if f.Kind=1 then 0 else l.bV)
instance (l:bq) (f:bg):Decidable (fj l f):=by unfold fj; infer_instance
/-- the descent that a protest is of -/
def qA (j:cw) (p:bR):Option aq:=(j.Race.aI[p.ib.toNat]?).bind (·[p.gH.toNat]?)
structure v_ (j:cw) (i:Nat) (p:bR):Prop where
 id:0≤p.Id∧p.Id≤9999
 up: ∀ q,0<i→j.aB[i-1]? =some q→q.Id<p.Id
 kX:qN j.Race p.gH
 fJ:0≤p.ib∧p.ib≤(j.Race.aI.length:Int)-1
 fault:0≤p.gj∧p.gj≤(j.aM.length:Int)-1
 lR: ∃ d,qA j p=some d∧o2 d∧d.aV.Start≤p.At∧p.At≤86400000
structure qW (j:cw):Prop where
 nf:(j.aM.length:Int)≤5
 fault: ∀ f∈j.aM,fj j.Race.au f
 min_:0≤j.gu∧j.gu≤60
 td:0≤j.kT∧j.kT≤100000
 np:(j.aB.length:Int)≤8
 hZ: ∀ (i:Nat) p,j.aB[i]? =some p→v_ j i p
noncomputable instance (j:cw):Decidable (qW j):=Classical.propDecidable _
noncomputable def dT (j:cw):Int:=if jF j.Race=0 then (if qW j then 0 else 70) else jF j.Race
theorem zj {j:cw} (h: ¬ jF j.Race=0):dT j=jF j.Race:=if_neg h
theorem jR {j:cw} (h:jF j.Race=0) (hn: ¬ qW j):dT j=70:=by unfold dT; rw [if_pos h,if_neg hn]
theorem Cw {j:cw} (h:jF j.Race=0) (hn:qW j):dT j=0:=by unfold dT; rw [if_pos h,if_pos hn]
theorem dj {j:cw} (h:dT j=0):jF j.Race=0∧qW j:=by
 unfold dT at h
 split at h
 ·split at h
  ·exact ⟨asm,asm⟩
  ·cases h
 ·rename_i q; exact absurd h q
structure xI where
 Lo:Int
 Hi:Int
 each:Bool
 never:Bool
/-- whether it passed the beam in each truth -/
noncomputable def uk (l:bq) (r:cO) (b:Int):Bool:=(hH l r).all fun n=>decide (b<n)
noncomputable def dh (l:bq) (r:cO) (b:Int):xI:=
 if b<0 then ⟨r.Start,r.Start,true,false⟩
 else if eA l r b=0 then ⟨(dD l r b).Lo,if uk l r b=true then (dD l r b).Hi else 86400000,uk l r b,false⟩
 else ⟨86400000,86400000,false,true⟩
def FZ (f:bg):Int:=if f.Kind=1 then-1 else if f.Kind=2 then f.g_-1 else f.g_
def TK (l:bq) (f:bg):Int:=if f.Kind=1 then l.bV else f.g_
def rT (f:bg) (a b:xI):Prop:=if f.Kind=3 then f.mu≤a.Lo∧a.Hi≤f.To else a.Hi≤f.To∧f.mu≤b.Lo
instance (f:bg) (a b:xI):Decidable (rT f a b):=by unfold rT; infer_instance
def nu (f:bg) (a b:xI):Int:=if a.never=true∨f.To<a.Lo∨b.Hi<f.mu then 0 else if a.each=true∧rT f a b then 2 else 1
noncomputable def gd (l:bq) (f:bg) (d:aq):Int:=if o2 d then nu f (dh l d.aV (FZ f)) (dh l d.aV (TK l f)) else 0
theorem JM {f:bg} {a b:xI}:0≤nu f a b∧nu f a b≤2:=by unfold nu; split; omega; split<;>omega
theorem CM {l:bq} {f:bg} {d:aq}:0≤gd l f d∧gd l f d≤2:=by
 unfold gd; split
 ·exact JM
 ·omega
theorem nK {l:bq} {f:bg} {d:aq} (h: ¬ o2 d):gd l f d=0:=if_neg h
def kU (P:Nat→Bool) (n:Nat):List Int:=((List.range n).filter P).map fun (i:Nat)=>(i:Int)
section
variable {P:Nat→Bool} {n q:Nat} {x:Int}
theorem vN (h:P n=true):kU P (n+1)=kU P n++[(n:Int)]:=by unfold kU; rw [List.range_succ,List.filter_append,List.map_append]; simp [h]
theorem zz (h:P n=false):kU P (n+1)=kU P n:=by unfold kU; rw [List.range_succ,List.filter_append,List.map_append]; simp [h]
theorem nk:(kU P n).length≤n:=by unfold kU; rw [List.length_map]; exact Nat.le_trans (List.length_filter_le _ _) (by rw [List.length_range]; exact Nat.le_refl _)
theorem Er:x∈kU P n↔ ∃ i:Nat,i<n∧x=(i:Int)∧P i=true:=by
 unfold kU
 simp only [db,List.mem_filter,List.mem_range]
 constructor
 ·rintro ⟨i,⟨A,B⟩,rfl⟩; exact ⟨i,A,rfl,B⟩
 ·rintro ⟨i,A,rfl,B⟩; exact ⟨i,⟨A,B⟩,rfl⟩
end
noncomputable def pS (j:cw) (p:bR):Int:=match qA j p with
 |some d=>if p.At≤(dh j.Race.au d.aV j.Race.au.bV).Lo+60000*j.gu then 0 else if p.At≤(dh j.Race.au d.aV j.Race.au.bV).Hi+60000*j.gu then 1 else 2
 |none=>2
noncomputable def gJ (j:cw) (p:bR):Bool:=match qA j p,j.aM[p.gj.toNat]? with
 |some d,some f=>decide (pS j p≠2)&&decide (gd j.Race.au f d≠0)
 |_,_=>false
/-- which protests are granted, so far -/
noncomputable def ir (j:cw) (n:Nat):List Int:=kU (fun i=>(j.aB[i]?).any (gJ j)) n
noncomputable def jx (j:cw):List Int:=ir j j.aB.length
theorem tv {j:cw} {n:Nat} {x:Int}:x∈ir j n↔ ∃ i:Nat,i<n∧x=(i:Int)∧ ∃ p,j.aB[i]? =some p∧gJ j p=true:=by
 unfold ir
 rw [Er]
 refine exists_congr fun i=>and_congr Iff.rfl (and_congr Iff.rfl ?_)
 cases h:j.aB[i]? with
 |none=>simp
 |some p=>simp
/-- by faults of which something is so -/
def Gu (l:bq) (F:bg→Prop) (fs:List bg) (d:aq):Prop:= ∃ f∈fs,F f∧ ¬ gd l f d=0
noncomputable def KP (l:bq) (F:bg→Prop) (fs:List bg) (h:List aq) (n:Nat):List Int:=kU (fun s=>(h[s]?).any fun d=> @decide (Gu l F fs d) (Classical.propDecidable _)) n
noncomputable def eT (j:cw) (F:bg→Prop):List (List Int):=j.Race.aI.map fun h=>KP j.Race.au F j.aM h h.length
/-- about which a protest is granted -/
def F9 (j:cw) (f:bg):Prop:= ∃ (i:Nat) (p:bR),j.aB[i]? =some p∧gJ j p=true∧j.aM[p.gj.toNat]? =some f
noncomputable def dU (j:cw):List (List Int):=eT j (F9 j)
noncomputable def ia (j:cw) (s:Int) (n:Nat):Nat:=(List.range n).countP fun i=>(j.aB[i]?).any fun p=>decide (p.gH=s)&& !gJ j p
noncomputable def PX (j:cw) (s:Int):Int:= -(ia j s j.aB.length:Int)*j.kT
noncomputable def KZ (j:cw):Int:=((jx j).length:Int)*j.kT
noncomputable def Oi (j:cw):Int:=(j.aB.length:Int)*j.kT-KZ j
end
section
/-- the places of which something is so; from the k-th on, all of them -/
def iI (P:Nat→Bool) (n k:Nat):List (Int×Bool):=((List.range n).filter fun q=>decide (k≤q)||P q).map fun (q:Nat)=>((q:Int),true)
section
variable {P:Nat→Bool} {n k q:Nat}
theorem yj {p:Int×Bool}:p∈iI P n k↔ ∃ q:Nat,q<n∧(k≤q∨P q=true)∧p=((q:Int),true):=by
 unfold iI
 simp only [db,List.mem_filter,List.mem_range,Bool.or_eq_true,decide_eq_true_eq]
 constructor
 ·rintro ⟨q,⟨A,B⟩,rfl⟩; exact ⟨q,A,B,rfl⟩
 ·rintro ⟨q,A,B,rfl⟩; exact ⟨q,⟨A,B⟩,rfl⟩
theorem GC:((iI P n k).map (·.1)).Nodup:=by
 unfold iI
 rw [List.map_map,List.nodup_iff_pairwise_ne,List.pairwise_map]
 have h:(List.range n).Pairwise (· ≠ ·):=by rw [← List.nodup_iff_pairwise_ne]; exact List.nodup_range
 exact (h.sublist List.filter_sublist).imp fun {a b} A e=>A (by have B:(a:Int)=(b:Int):=e; omega)
theorem JD:eD (iI P n 0) (n:Int) true=iI P (n+1) 0:=by
 have A:(iI P n 0).lookup (n:Int)=none:=iN.2 fun p hp e=>by
  obtain ⟨q,B,_,rfl⟩:=yj.1 hp
  simp only at e; omega
 unfold eD
 rw [A]
 show iI P n 0++[((n:Int),true)]=_
 unfold iI
 rw [List.range_succ,List.filter_append,List.map_append]
 simp
theorem J1 (h:P k=false):fz (iI P n k) (k:Int)=iI P n (k+1):=by
 unfold fz iI
 rw [List.filter_map,List.filter_filter]
 congr 1
 apply List.filter_congr
 intro q _
 by_cases e:q=k
 ·subst e; simp [h]
 ·have A:decide ((q:Int)=(k:Int))=false:=br om
  have B:decide (k≤q)=decide (k+1≤q):=gS.2 om
  simp only [Function.comp_def,A,B,Bool.not_false,Bool.true_and]
theorem Gl (h:P k=true):iI P n k=iI P n (k+1):=by
 unfold iI
 congr 1
 apply List.filter_congr
 intro q _
 by_cases e:q=k
 ·subst e; simp [h]
 ·have A:decide (k≤q)=decide (k+1≤q):=gS.2 om
  rw [A]
theorem zr (hq:q<n):((iI P n n).lookup (q:Int)).getD false=P q:=by
 cases h:P q with
 |true=>
  have:((q:Int),true)∈iI P n n:=yj.2 ⟨q,hq,.inr h,rfl⟩
  rw [(lI GC).1 this]; rfl
 |false=>
  have:(iI P n n).lookup (q:Int)=none:=iN.2 fun p hp e=>by
   obtain ⟨u,B,A,rfl⟩:=yj.1 hp
   simp only at e
   obtain rfl:u=q:=by omega
   rcases A with A|A
   ·omega
   ·rw [h] at A; cases A
  rw [this]; rfl
end
end
section
section
variable {j j':cw} {p:bR} {l:bq} {F G:bg→Prop} {fs:List bg} {h:List aq} {n:Nat} {x:Int}
theorem Ha (hFG: ∀ f∈fs,(F f↔G f)):KP l F fs h n=KP l G fs h n:=by
 unfold KP
 congr 1
 funext s
 cases e:h[s]? with
 |none=>rfl
 |some d=>
  simp only [Option.any_some]
  rw [gS]
  exact ⟨fun ⟨f,A,B,C⟩=>⟨f,A,(hFG f A).1 B,C⟩,fun ⟨f,A,B,C⟩=>⟨f,A,(hFG f A).2 B,C⟩⟩
theorem AH {k:Nat} {h:List aq} (hh:j.Race.aI[k]? =some h):(eT j F)[k]? =some (KP j.Race.au F j.aM h h.length):=by unfold eT; rw [fZ,hh]; rfl
theorem uw:(eT j F).length=j.Race.aI.length:=by unfold eT; rw [List.length_map]
end
end
end Go.Proofs.YtkaenmjhfajbkaaGreatDoor
