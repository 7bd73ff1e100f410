/-
 The statement raceLater_said, part 4 of 8: Short, Grow, Global, RunA, Tab, Run, Comp, Ret, LoopK, MapK, Watch, Passes, Keys, MapR, RangeG, Nest, WMaps, WBounds, PassG, Drop, Spot, First, Line, Wrap, Goes, OpenW, Wheres, ExL6, LineR, Race, RaceS, Vals, RaceO, Ord, Rev.
 Conditions: none.
-/
import Derived.Test.YtlajhejcfcoddaaGreatDoorTv1
import Derived.Test.YtlajhejcfcoddaaGreatDoorTv2
import Derived.Test.YtlajhejcfcoddaaGreatDoorTv3
import Derived.Test.YtlajhejcfcoddaaGreatDoorProg
import Derived.KernelRfl
import Derived.WideKeyRuns
namespace Go.Proofs.YtlajhejcfcoddaaGreatDoor
set_option maxRecDepth 100000
set_option maxHeartbeats 4000000
set_option linter.unusedVariables false
section
open Go.RowKit
/-- an operation that hands v to its slot d -/
structure SE (E:fr) (ops:Array Oper) (o:Oper) (D:g5) (L:dk) (C:List aw) (v:Value) (d:Nat):Prop where
 h:SD E ops o D L C v
 o:o.dst=some d
 n:Nat.blt d E.n=true
theorem rS {E:fr} {ops:Array Oper} {Q:db} {o:Oper} {rest:List Oper} {D:g5} {L:dk} {C:List aw} {v:Value} {d:Nat}
 (h:SE E ops o D L C v d) (k:RJ E ops Q rest D ((d,v)::L) C):RJ E ops Q (o::rest) D L C:=S0 h.h h.o h.n k
theorem dS {E:fr} {ops:Array Oper} {F:dk→Prop} {o:Oper} {rest:List Oper} {D:g5} {L:dk} {C:List aw} {v:Value} {d:Nat}
 (h:SE E ops o D L C v d) (k:DJ E ops D C F rest ((d,v)::L)):DJ E ops D C F (o::rest) L:=S7 h.h h.o h.n k
theorem eS {E:fr} {ops:Array Oper} {D:g5} {C' C1:List aw} {F:dk→Prop} {bs:List Bool} {o:Oper} {l rest:List Oper} {L:dk} {v:Value} {d:Nat}
 (hl:l=o::rest) (h:SE E ops o D L C' v d) (k:qz E ops D C' C1 F bs rest ((d,v)::L)):qz E ops D C' C1 F (false::bs) l L:=Tz h.h hl h.o h.n k
theorem fS {E:fr} {ops:Array Oper} {D:g5} {C' C1:List aw} {F:dk→Prop} {bs:List Bool} {o:Oper} {l rest:List Oper} {L:dk} {v:Value} {d:Nat}
 (hl:l=o::rest) (h:SE E ops o D L C1 v d) (k:qz E ops D C' C1 F bs rest ((d,v)::L)):qz E ops D C' C1 F (true::bs) l L:=Ue h.h hl h.o h.n k
def gB (n:Nat) (ops:Array Oper) (L:dk) (d:Nat) (g:Option (Nat×Bool)):Bool:=jS ops L g&&Nat.blt d n
theorem P5 {n:Nat} {ops:Array Oper} {L:dk} {d:Nat} {g:Option (Nat×Bool)} (h:gB n ops L d g=true):jS ops L g=true:=by
 unfold gB at h; rw [cU] at h; exact h.1
theorem PG {n:Nat} {ops:Array Oper} {L:dk} {d:Nat} {g:Option (Nat×Bool)} (h:gB n ops L d g=true):Nat.blt d n=true:=by
 unfold gB at h; rw [cU] at h; exact h.2
def vF (n:Nat) (ops:Array Oper) (L:dk) (d:Nat) (g:Option (Nat×Bool)) (x:Operand):Option Value:=match gB n ops L d g with
 |true=>ev L x
 |false=>none
def bF (n:Nat) (ops:Array Oper) (L:dk) (d:Nat) (g:Option (Nat×Bool)) (x y:Operand):Option (Value×Value):=match gB n ops L d g with
 |true=>match ev L x,ev L y with
  |some u,some v=>some (u,v)
  |_,_=>none
 |false=>none
def pF (n:Nat) (ops:Array Oper) (L:dk) (d:Nat) (g:Option (Nat×Bool)) (c x y:Operand):Option Value:=match gB n ops L d g with
 |true=>match ev L c with
  |some (.bool true)=>ev L x
  |some (.bool false)=>ev L y
  |_=>none
 |false=>none
def xF (n:Nat) (ops:Array Oper) (L:dk) (d:Nat) (g:Option (Nat×Bool)) (x:Operand) (i:Nat):Option Value:=match vF n ops L d g x with
 |some (.tuple vs)=>vs.toList[i]?
 |_=>none
def uF (n:Nat) (ops:Array Oper) (L:dk) (d:Nat) (g:Option (Nat×Bool)) (xs ys:List Operand):Option (List Value×List Value):=match gB n ops L d g with
 |true=>match evs L xs,evs L ys with
  |some u,some v=>some (u,v)
  |_,_=>none
 |false=>none
def cF (n:Nat) (ops:Array Oper) (L:dk) (d:Nat) (g:Option (Nat×Bool)) (fop:Operand) (xs:List Operand):Option (FuncId×List Value):=match gB n ops L d g with
 |true=>match ev L fop,evs L xs with
  |some (.func (.func f) fi ca),some vs=>some (f,fi.toList++vs++ca.toList)
  |_,_=>none
 |false=>none
theorem jw {n:Nat} {ops:Array Oper} {L:dk} {d:Nat} {g:Option (Nat×Bool)} {x:Operand} {v:Value} (h:vF n ops L d g x=some v):jS ops L g=true∧Nat.blt d n=true∧ev L x=some v:=by
 unfold vF at h
 split at h
 ·rename_i hb; exact ⟨P5 hb,PG hb,h⟩
 ·cases h
theorem qB {n:Nat} {ops:Array Oper} {L:dk} {d:Nat} {g:Option (Nat×Bool)} {x y:Operand} {u v:Value} (h:bF n ops L d g x y=some (u,v)):jS ops L g=true∧Nat.blt d n=true∧ev L x=some u∧ev L y=some v:=by
 unfold bF at h
 split at h
 ·rename_i hb
  split at h
  ·rename_i hx hy; cases h; exact ⟨P5 hb,PG hb,hx,hy⟩
  ·cases h
 ·cases h
theorem QC {n:Nat} {ops:Array Oper} {L:dk} {d:Nat} {g:Option (Nat×Bool)} {x y:List Operand} {u v:List Value} (h:uF n ops L d g x y=some (u,v)):jS ops L g=true∧Nat.blt d n=true∧evs L x=some u∧evs L y=some v:=by
 unfold uF at h
 split at h
 ·rename_i hb
  split at h
  ·rename_i hx hy; cases h; exact ⟨P5 hb,PG hb,hx,hy⟩
  ·cases h
 ·cases h
section
variable {E:fr} {ops:Array Oper} {Q:db} {rest:List Oper} {D:List Deferred} {L:List (Nat×Value)} {C:List aw}
variable {d:Nat} {ty:TypeId} {ps:String} {af:Array Edge} {g:Option (Nat×Bool)}
theorem SX {o:Oper} {v:Value} (h:SD E ops o D L C v) (ho:o.dst=some d) (hd:Nat.blt d E.n=true):SE E ops o D L C v d:=⟨h,ho,hd⟩
theorem MV {x:Operand} {v:Value} (h:vF E.n ops L d g x=some v):SE E ops ⟨some d,.move x,ty,ps,af,g⟩ D L C v d:=by
 obtain ⟨A,B,F⟩:=jw h; exact ⟨GA A F,rfl,B⟩
theorem AG {x:Operand} {v:Value} (h:vF E.n ops L d g x=some v):SE E ops ⟨some d,.assign x,ty,ps,af,g⟩ D L C v d:=by
 obtain ⟨A,B,F⟩:=jw h; exact ⟨zk A F,rfl,B⟩
theorem OX {op:Op} (h:(D4 ops L g&&Nat.blt d E.n)=true):SE E ops ⟨some d,op,ty,ps,af,g⟩ D L C undef d:=by
 rw [cU] at h; exact ⟨JS h.1,rfl,h.2⟩
theorem NT {xt:TypeId} {x:Operand} {b:Bool} (h:vF E.n ops L d g x=some (.bool b)):SE E ops ⟨some d,.unOp .not xt x,ty,ps,af,g⟩ D L C (.bool !b) d:=by
 obtain ⟨A,B,F⟩:=jw h; exact ⟨I9 A F,rfl,B⟩
theorem NG {xt:TypeId} {x:Operand} {n:Int} (h:vF E.n ops L d g x=some (.int .i64 n)) (hb:qH (-n)):SE E ops ⟨some d,.unOp .neg xt x,ty,ps,af,g⟩ D L C (.int .i64 (-n)) d:=by
 obtain ⟨A,B,F⟩:=jw h; exact ⟨RF A F hb,rfl,B⟩
theorem PK {c x y:Operand} {v:Value} (h:pF E.n ops L d g c x y=some v):SE E ops ⟨some d,.pick c x y,ty,ps,af,g⟩ D L C v d:=by
 unfold pF at h
 split at h
 ·rename_i hb
  split at h
  ·rename_i hc; exact ⟨zQ (P5 hb) hc h,rfl,PG hb⟩
  ·rename_i hc; exact ⟨zK (P5 hb) hc h,rfl,PG hb⟩
  ·cases h
 ·cases h
theorem EX {x:Operand} {i:Nat} {v:Value} (h:xF E.n ops L d g x i=some v):SE E ops ⟨some d,.extract x i,ty,ps,af,g⟩ D L C v d:=by
 unfold xF at h
 split at h
 ·rename_i vs hv
  obtain ⟨A,B,F⟩:=jw hv
  exact ⟨xK (vs:=vs.toList) A (by simpa using F) h,U,B⟩
 ·cases h
theorem LN {x:Operand} {t e:TypeId} {A:OA} {n c:Nat} (h:vF E.n ops L d g x=some (.slice A n c)) (ht:E.P.underlying t=some (.slice e)):
 SE E ops ⟨some d,.call {callee:= .builtin .len,args:= #[x],argTypes:= #[t]},ty,ps,af,g⟩ D L C (.int .i64 n) d:=by
 obtain ⟨B,F,G⟩:=jw h; exact ⟨Kf B G ht,rfl,F⟩
theorem BI {op:BinOp} {xt yt:TypeId} {x y:Operand} {u v r:Value} (h:bF E.n ops L d g x y=some (u,v)) (hb:iL E.P op xt x y u v r):SE E ops ⟨some d,.binOp op xt x y yt,ty,ps,af,g⟩ D L C r d:=by
 obtain ⟨A,B,F,G⟩:=qB h; exact ⟨cd A F G hb,rfl,B⟩
theorem MN {x y:Operand} {ts:Array TypeId} {a b:Int} {k:IntKind} (h:bF E.n ops L d g x y=some (.int k a,.int k b)):
 SE E ops ⟨some d,.call {callee:= .builtin .min,args:= #[x,y],argTypes:=ts},ty,ps,af,g⟩ D L C (.int k (min a b)) d:=by
 obtain ⟨A,B,F,G⟩:=qB h; exact ⟨Qq A F G,rfl,B⟩
theorem MX {x y:Operand} {ts:Array TypeId} {a b:Int} {k:IntKind} (h:bF E.n ops L d g x y=some (.int k a,.int k b)):
 SE E ops ⟨some d,.call {callee:= .builtin .max,args:= #[x,y],argTypes:=ts},ty,ps,af,g⟩ D L C (.int k (max a b)) d:=by
 obtain ⟨A,B,F,G⟩:=qB h; exact ⟨QP A F G,rfl,B⟩
theorem FA (o':Nat) {x:Operand} {b o s f k:Nat} (h:vF E.n ops L d g x=some (.pointer (some ⟨b,o,none⟩))) (hf:rq E.P s f=some k) (ho:o+k=o'):
 SE E ops ⟨some d,.fieldAddr s x f,ty,ps,af,g⟩ D L C (.pointer (some ⟨b,o',none⟩)) d:=by
 obtain ⟨A,B,F⟩:=jw h; exact ⟨PX A F hf ho,rfl,B⟩
theorem lZ (k':Nat) {x:Operand} {A:OA} {n sz:Nat} {es:List (List Value)} {k0 s f k:Nat} (h:vF E.n ops L d g x=some (.pointer (mw A k0))) (hR:jh C (rd A n sz es).holds) (hn:0<n*sz)
 (hf:rq E.P s f=some k) (ho:k0+k=k'):SE E ops ⟨some d,.fieldAddr s x f,ty,ps,af,g⟩ D L C (.pointer (mw A k')) d:=by
 obtain ⟨B,F,G⟩:=jw h; exact ⟨Ly B G hR hn hf ho,rfl,F⟩
theorem RO (k':Nat) {x:Operand} {A:OA} {ad:Addr} {k0 s f k:Nat} (h:vF E.n ops L d g x=some (.pointer (mw A k0))) (hA:A=some ad)
 (hf:rq E.P s f=some k) (ho:k0+k=k'):SE E ops ⟨some d,.fieldAddr s x f,ty,ps,af,g⟩ D L C (.pointer (mw A k')) d:=by
 obtain ⟨B,F,G⟩:=jw h; exact ⟨LU B G hA hf ho,rfl,F⟩
theorem IA (k:Nat) {x ix:Operand} {A:OA} {n c sz e t:Nat} {es:List (List Value)} {j:Int} (h:bF E.n ops L d g x ix=some (.slice A n c,.int .i64 j)) (hR:jh C (rd A n sz es).holds)
 (ht:tE E.P t=some (e,sz)) (hz:0<sz) (hj:j=(k:Int)) (hk:k<n):SE E ops ⟨some d,.indexAddr t x ix,ty,ps,af,g⟩ D L C (.pointer (mw A (k*sz))) d:=by
 obtain ⟨B,F,G,H⟩:=qB h; exact ⟨SC B G H hR ht hz hj hk,rfl,F⟩
theorem UP (k o':Nat) {x ix:Operand} {b o n c sz e t:Nat} {j:Int} (h:bF E.n ops L d g x ix=some (.slice (some ⟨b,o,none⟩) n c,.int .i64 j))
 (ht:tE E.P t=some (e,sz)) (hj:j=(k:Int)) (hk:k<n) (ho:o+k*sz=o'):SE E ops ⟨some d,.indexAddr t x ix,ty,ps,af,g⟩ D L C (.pointer (some ⟨b,o',none⟩)) d:=by
 obtain ⟨A,B,F,G⟩:=qB h; exact ⟨OH A F G ht hj hk ho,rfl,B⟩
/-- the whole of a block, a part of it, one cell -/
theorem LW (i:Nat) {x:Operand} {b t tt n:Nat} {cs:List Value} (h:vF E.n ops L d g x=some (.pointer (some ⟨b,0,none⟩))) (ht:tK E.P t=some (true,n)) (hC:C[i]? =some (cm b tt cs)) (hn:cs.length=n):
 SE E ops ⟨some d,.load t x,ty,ps,af,g⟩ D L C (.agg cs.toArray) d:=by
 obtain ⟨A,B,F⟩:=jw h; exact ⟨x8 A F ht (qd i hC sm) hn,rfl,B⟩
theorem LP (vs:List Value) (i:Nat) {x:Operand} {b o t tt n:Nat} {cs:List Value} (h:vF E.n ops L d g x=some (.pointer (some ⟨b,o,none⟩))) (ht:tK E.P t=some (true,n)) (hC:C[i]? =some (cm b tt cs)) (hv:(cs.drop o).take vs.length=vs) (hn:vs.length=n):
 SE E ops ⟨some d,.load t x,ty,ps,af,g⟩ D L C (.agg vs.toArray) d:=by
 obtain ⟨A,B,F⟩:=jw h; exact ⟨x8 A F ht (qd i hC hv) hn,rfl,B⟩
theorem Wj (vs:List Value) (i:Nat) {x:Operand} {b o t tt n:Nat} {cs:List Value} (h:vF E.n ops L d g x=some (.pointer (some ⟨b,o,none⟩))) (ht:tK E.P t=some (true,n)) (hC:C[i]? =some (cm b tt cs).ro) (hv:(cs.drop o).take vs.length=vs) (hn:vs.length=n):
 SE E ops ⟨some d,.load t x,ty,ps,af,g⟩ D L C (.agg vs.toArray) d:=by
 obtain ⟨A,B,F⟩:=jw h; exact ⟨x8 A F ht (wD i hC hv) hn,rfl,B⟩
theorem L1 (v:Value) (i:Nat) {x:Operand} {b o t tt n:Nat} {cs:List Value} (h:vF E.n ops L d g x=some (.pointer (some ⟨b,o,none⟩))) (ht:tK E.P t=some (false,n)) (hC:C[i]? =some (cm b tt cs)) (hv:(cs.drop o).take 1=[v]):
 SE E ops ⟨some d,.load t x,ty,ps,af,g⟩ D L C v d:=by
 obtain ⟨A,B,F⟩:=jw h; exact ⟨uU A F ht (qd i hC hv),rfl,B⟩
theorem I5 (v:Value) (i:Nat) {x:Operand} {b o t tt n:Nat} {cs:List Value} (h:vF E.n ops L d g x=some (.pointer (some ⟨b,o,none⟩))) (ht:tK E.P t=some (false,n)) (hC:C[i]? =some (cm b tt cs).ro) (hv:(cs.drop o).take 1=[v]):
 SE E ops ⟨some d,.load t x,ty,ps,af,g⟩ D L C v d:=by
 obtain ⟨A,B,F⟩:=jw h; exact ⟨uU A F ht (wD i hC hv),rfl,B⟩
theorem FK (i:Nat) {x:Operand} {b t tt n:Nat} {v:Value} (h:vF E.n ops L d g x=some (.pointer (some ⟨b,0,none⟩))) (ht:tK E.P t=some (false,n)) (hC:C[i]? =some (cm b tt [v])):
 SE E ops ⟨some d,.load t x,ty,ps,af,g⟩ D L C v d:=by
 obtain ⟨A,B,F⟩:=jw h; exact ⟨uU A F ht (qd i hC rfl),rfl,B⟩
theorem UT (i:Nat) {x:Operand} {b t tt n:Nat} {v:Value} (h:vF E.n ops L d g x=some (.pointer (some ⟨b,0,none⟩))) (ht:tK E.P t=some (false,n)) (hC:C[i]? =some (cm b tt [v]).ro):
 SE E ops ⟨some d,.load t x,ty,ps,af,g⟩ D L C v d:=by
 obtain ⟨A,B,F⟩:=jw h; exact ⟨uU A F ht (wD i hC rfl),rfl,B⟩
/-- what is read of a row -/
theorem gl (k o:Nat) (v:Value) {x:Operand} {A:OA} {t m n sz:Nat} {es:List (List Value)} {e:List Value} (h:vF E.n ops L d g x=some (.pointer (mw A m))) {nn:Nat} (ht:tK E.P t=some (false,nn)) (hR:jh C (rd A n sz es).holds) (he:es[k]? =some e) (hm:m=k*sz+o) (hz:0<sz) (hv:(e.drop o).take 1=[v]):
 SE E ops ⟨some d,.load t x,ty,ps,af,g⟩ D L C v d:=by
 obtain ⟨B,F,G⟩:=jw h; exact ⟨uU B G ht (PH hR he hm hz hv),rfl,F⟩
theorem oE (k o:Nat) (vs:List Value) {x:Operand} {A:OA} {t m n sz:Nat} {es:List (List Value)} {e:List Value} (h:vF E.n ops L d g x=some (.pointer (mw A m))) {nn:Nat} (ht:tK E.P t=some (true,nn)) (hR:jh C (rd A n sz es).holds) (he:es[k]? =some e) (hm:m=k*sz+o) (hz:0<sz) (hv:(e.drop o).take vs.length=vs) (hn:vs.length=nn):
 SE E ops ⟨some d,.load t x,ty,ps,af,g⟩ D L C (.agg vs.toArray) d:=by
 obtain ⟨B,F,G⟩:=jw h; exact ⟨x8 B G ht (PH hR he hm hz hv) hn,rfl,F⟩
theorem CL {fop:Operand} {xs:Array Operand} {ts:Array TypeId} {f:FuncId} {args:List Value} {Cp:List aw} {v:Value} (c:eB E.P f args Cp v) (hC:kN C Cp) (h:cF E.n ops L d g fop xs.toList=some (f,args)):
 SE E ops ⟨some d,.call {callee:= .value fop,args:=xs,argTypes:=ts},ty,ps,af,g⟩ D L C v d:=by
 unfold cF at h
 split at h
 ·rename_i hb
  split at h
  ·rename_i hf hx; cases h; exact ⟨Gu (P5 hb) hf hx rfl c hC,rfl,PG hb⟩
  ·cases h
 ·cases h
theorem FU {fn:Fn} {xs ys:Array Operand} {us vs:List Value} (h:uF E.n ops L d g xs.toList ys.toList=some (us,vs)):SE E ops ⟨some d,.makeFunc fn xs ys,ty,ps,af,g⟩ D L C (.func fn us.toArray vs.toArray) d:=by
 obtain ⟨A,B,F,G⟩:=QC h; exact ⟨NJ A F G,rfl,B⟩
theorem cX {fop:Operand} {xs:Array Operand} {ts:Array TypeId} {f:FuncId} {args:List Value} {Cp:List aw} {α:Type} {V:α→Value} {p:α→Prop} {N:α→List aw} (c:lB E.P f args Cp V p N) (hC:kN C Cp)
 (h:cF E.n ops L d g fop xs.toList=some (f,args)) (k: ∀ x,p x→RJ E ops Q rest D ((d,V x)::L) (N x++C)):
 RJ E ops Q (⟨some d,.call {callee:= .value fop,args:=xs,argTypes:=ts},ty,ps,af,g⟩::rest) D L C:=by
 unfold cF at h
 split at h
 ·rename_i hb
  split at h
  ·rename_i hf hx; cases h; exact Rl (P5 hb) hf hx rfl c hC (PG hb) k
  ·cases h
 ·cases h
/-- a box of a struct, of one cell -/
theorem fZ {t:TypeId} {x:Operand} {cs:List Value} (h:vF E.n ops L d g x=some (.agg cs.toArray)) (k: ∀ b,RJ E ops Q rest D ((d,.pointer (some ⟨b,0,none⟩))::L) (cm b t cs::C)):
 RJ E ops Q (⟨some d,.box t x,ty,ps,af,g⟩::rest) D L C:=by
 obtain ⟨A,B,F⟩:=jw h; exact P3 A F rfl B k
theorem ve {t:TypeId} {x:Operand} {v:Value} (h:vF E.n ops L d g x=some v) (hv:v.cells.toList=[v]) (k: ∀ b,RJ E ops Q rest D ((d,.pointer (some ⟨b,0,none⟩))::L) (cm b t [v]::C)):
 RJ E ops Q (⟨some d,.box t x,ty,ps,af,g⟩::rest) D L C:=by
 obtain ⟨A,B,F⟩:=jw h; exact P3 A F hv B k
theorem AL {t:TypeId} {cs:List Value} (h:gB E.n ops L d g=true) (hz:tZ E.P t=some cs) (k: ∀ b,RJ E ops Q rest D ((d,.pointer (some ⟨b,0,none⟩))::L) (cm b t cs::C)):
 RJ E ops Q (⟨some d,.alloc t,ty,ps,af,g⟩::rest) D L C:=OZ (P5 h) hz (PG h) k
/-- a store into the block at the place i of the state -/
def sF (ops:Array Oper) (L:dk) (g:Option (Nat×Bool)) (x y:Operand):Option (Value×Value):=match jS ops L g with
 |true=>match ev L x,ev L y with
  |some u,some v=>some (u,v)
  |_,_=>none
 |false=>none
theorem FP {ops:Array Oper} {L:dk} {g:Option (Nat×Bool)} {x y:Operand} {u v:Value} (h:sF ops L g x y=some (u,v)):jS ops L g=true∧ev L x=some u∧ev L y=some v:=by
 unfold sF at h
 split at h
 ·rename_i hb
  split at h
  ·rename_i hx hy; cases h; exact ⟨hb,hx,hy⟩
  ·cases h
 ·cases h
theorem NF {t n b o tt:Nat} {x y:Operand} {v:Value} {cs cs':List Value} {C':List aw} (i:Nat) (h:sF ops L g x y=some (.pointer (some ⟨b,o,none⟩),v)) (ht:(tK E.P t).map (·.2)=some n) (hC:C[i]? =some (cm b tt cs))
 (hk:(v.cells.toList.length==n&&v.cells.toList.all Value.oneCell'&&Nat.ble (o+n) cs.length)=true) (hcs:cs.take o++v.cells.toList++cs.drop (o+n)=cs') (hC':C.set i (cm b tt cs')=C') (k:RJ E ops Q rest D L C'):
 RJ E ops Q (⟨none,.store t x y,ty,ps,af,g⟩::rest) D L C:=by
 obtain ⟨A,B,F⟩:=FP h
 simp only [cU,beq_iff_eq] at hk
 exact jI i A B F ht U hk.1.1 hk.1.2 hC hk.2 hcs hC' k
/-- a store of a whole block, by a struct, by one cell -/
theorem O3 {t n b tt:Nat} {x y:Operand} {cs cs':List Value} {C':List aw} (i:Nat) (h:sF ops L g x y=some (.pointer (some ⟨b,0,none⟩),.agg cs'.toArray)) (ht:(tK E.P t).map (·.2)=some n) (hC:C[i]? =some (cm b tt cs))
 (hk:(Nat.beq cs'.length n&&cs'.all Value.oneCell'&&Nat.beq n cs.length)=true) (hC':C.set i (cm b tt cs')=C') (k:RJ E ops Q rest D L C'):
 RJ E ops Q (⟨none,.store t x y,ty,ps,af,g⟩::rest) D L C:=by
 obtain ⟨AA,J,K⟩:=FP h
 simp only [cU] at hk
 obtain ⟨⟨A,B⟩,F⟩:=hk
 have H:=Nat.eq_of_beq_eq_true A
 have G:=Nat.eq_of_beq_eq_true F
 exact jI i AA J K ht U H B hC (by rw [Nat.zero_add,G]; exact Nat.ble_self_eq_true _) (by rw [Nat.zero_add,G,List.take_zero,List.drop_length]; show []++cs'++[]=cs'; simp) hC' k
theorem U3 {t n b tt:Nat} {x y:Operand} {v u:Value} {C':List aw} (i:Nat) (h:sF ops L g x y=some (.pointer (some ⟨b,0,none⟩),v)) (ht:(tK E.P t).map (·.2)=some n) (hC:C[i]? =some (cm b tt [u]))
 (hv:v.cells.toList=[v]) (hk:(Nat.beq n 1&&v.oneCell')=true) (hC':C.set i (cm b tt [v])=C') (k:RJ E ops Q rest D L C'):
 RJ E ops Q (⟨none,.store t x y,ty,ps,af,g⟩::rest) D L C:=by
 obtain ⟨G,H,AA⟩:=FP h
 rw [cU] at hk
 obtain ⟨A,B⟩:=hk
 have F:=Nat.eq_of_beq_eq_true A
 subst F
 exact jI i G H AA ht hv U (by simp [B]) hC U U hC' k
theorem gd {t n b tt:Nat} {x y:Operand} {cs cs':List Value} (h:sF ops L g x y=some (.pointer (some ⟨b,0,none⟩),.agg cs'.toArray)) (ht:(tK E.P t).map (·.2)=some n) (hk:(Nat.beq cs'.length n&&cs'.all Value.oneCell'&&Nat.beq n cs.length)=true) (k:RJ E ops Q rest D L (cm b tt cs'::C)):RJ E ops Q (⟨none,.store t x y,ty,ps,af,g⟩::rest) D L (cm b tt cs::C):=O3 0 h ht rfl hk rfl k
theorem IY {t n b tt:Nat} {x y:Operand} {v u:Value} (h:sF ops L g x y=some (.pointer (some ⟨b,0,none⟩),v)) (ht:(tK E.P t).map (·.2)=some n) (hv:v.cells.toList=[v]) (hk:(Nat.beq n 1&&v.oneCell')=true) (k:RJ E ops Q rest D L (cm b tt [v]::C)):RJ E ops Q (⟨none,.store t x y,ty,ps,af,g⟩::rest) D L (cm b tt [u]::C):=U3 0 h ht rfl hv hk rfl k
theorem Wk (cs':List Value) {t n b o tt:Nat} {x y:Operand} {v:Value} {cs:List Value} (h:sF ops L g x y=some (.pointer (some ⟨b,o,none⟩),v)) (ht:(tK E.P t).map (·.2)=some n) (hk:(v.cells.toList.length==n&&v.cells.toList.all Value.oneCell'&&Nat.ble (o+n) cs.length)=true) (hcs:cs.take o++v.cells.toList++cs.drop (o+n)=cs') (k:RJ E ops Q rest D L (cm b tt cs'::C)):RJ E ops Q (⟨none,.store t x y,ty,ps,af,g⟩::rest) D L (cm b tt cs::C):=NF 0 h ht rfl hk hcs rfl k
theorem te {t n b tt:Nat} {x y:Operand} {cs cs':List Value} {A0:aw} (h:sF ops L g x y=some (.pointer (some ⟨b,0,none⟩),.agg cs'.toArray)) (ht:(tK E.P t).map (·.2)=some n) (hk:(Nat.beq cs'.length n&&cs'.all Value.oneCell'&&Nat.beq n cs.length)=true) (k:RJ E ops Q rest D L (A0::cm b tt cs'::C)):RJ E ops Q (⟨none,.store t x y,ty,ps,af,g⟩::rest) D L (A0::cm b tt cs::C):=O3 1 h ht rfl hk rfl k
theorem G0 {t n b tt:Nat} {x y:Operand} {cs cs':List Value} {A0 A1:aw} (h:sF ops L g x y=some (.pointer (some ⟨b,0,none⟩),.agg cs'.toArray)) (ht:(tK E.P t).map (·.2)=some n) (hk:(Nat.beq cs'.length n&&cs'.all Value.oneCell'&&Nat.beq n cs.length)=true) (k:RJ E ops Q rest D L (A0::A1::cm b tt cs'::C)):RJ E ops Q (⟨none,.store t x y,ty,ps,af,g⟩::rest) D L (A0::A1::cm b tt cs::C):=O3 2 h ht rfl hk rfl k
theorem V9 (cs':List Value) {t n b o tt:Nat} {x y:Operand} {v:Value} {cs:List Value} {A0 A1:aw} (h:sF ops L g x y=some (.pointer (some ⟨b,o,none⟩),v)) (ht:(tK E.P t).map (·.2)=some n) (hk:(v.cells.toList.length==n&&v.cells.toList.all Value.oneCell'&&Nat.ble (o+n) cs.length)=true) (hcs:cs.take o++v.cells.toList++cs.drop (o+n)=cs') (k:RJ E ops Q rest D L (A0::A1::cm b tt cs'::C)):RJ E ops Q (⟨none,.store t x y,ty,ps,af,g⟩::rest) D L (A0::A1::cm b tt cs::C):=NF 2 h ht rfl hk hcs rfl k
theorem UQ {t n b tt:Nat} {x y:Operand} {cs cs':List Value} {A0 A1 A2:aw} (h:sF ops L g x y=some (.pointer (some ⟨b,0,none⟩),.agg cs'.toArray)) (ht:(tK E.P t).map (·.2)=some n) (hk:(Nat.beq cs'.length n&&cs'.all Value.oneCell'&&Nat.beq n cs.length)=true) (k:RJ E ops Q rest D L (A0::A1::A2::cm b tt cs'::C)):RJ E ops Q (⟨none,.store t x y,ty,ps,af,g⟩::rest) D L (A0::A1::A2::cm b tt cs::C):=O3 3 h ht rfl hk rfl k
theorem VD {t n b tt:Nat} {x y:Operand} {v u:Value} {A0 A1 A2:aw} (h:sF ops L g x y=some (.pointer (some ⟨b,0,none⟩),v)) (ht:(tK E.P t).map (·.2)=some n) (hv:v.cells.toList=[v]) (hk:(Nat.beq n 1&&v.oneCell')=true) (k:RJ E ops Q rest D L (A0::A1::A2::cm b tt [v]::C)):RJ E ops Q (⟨none,.store t x y,ty,ps,af,g⟩::rest) D L (A0::A1::A2::cm b tt [u]::C):=U3 3 h ht rfl hv hk rfl k
theorem Qa (cs':List Value) {t n b o tt:Nat} {x y:Operand} {v:Value} {cs:List Value} {A0 A1 A2:aw} (h:sF ops L g x y=some (.pointer (some ⟨b,o,none⟩),v)) (ht:(tK E.P t).map (·.2)=some n) (hk:(v.cells.toList.length==n&&v.cells.toList.all Value.oneCell'&&Nat.ble (o+n) cs.length)=true) (hcs:cs.take o++v.cells.toList++cs.drop (o+n)=cs') (k:RJ E ops Q rest D L (A0::A1::A2::cm b tt cs'::C)):RJ E ops Q (⟨none,.store t x y,ty,ps,af,g⟩::rest) D L (A0::A1::A2::cm b tt cs::C):=NF 3 h ht rfl hk hcs rfl k
theorem PU {t n b tt:Nat} {x y:Operand} {cs cs':List Value} {A0 A1 A2 A3:aw} (h:sF ops L g x y=some (.pointer (some ⟨b,0,none⟩),.agg cs'.toArray)) (ht:(tK E.P t).map (·.2)=some n) (hk:(Nat.beq cs'.length n&&cs'.all Value.oneCell'&&Nat.beq n cs.length)=true) (k:RJ E ops Q rest D L (A0::A1::A2::A3::cm b tt cs'::C)):RJ E ops Q (⟨none,.store t x y,ty,ps,af,g⟩::rest) D L (A0::A1::A2::A3::cm b tt cs::C):=O3 4 h ht rfl hk rfl k
theorem U6 (cs':List Value) {t n b o tt:Nat} {x y:Operand} {v:Value} {cs:List Value} {A0 A1 A2 A3:aw} (h:sF ops L g x y=some (.pointer (some ⟨b,o,none⟩),v)) (ht:(tK E.P t).map (·.2)=some n) (hk:(v.cells.toList.length==n&&v.cells.toList.all Value.oneCell'&&Nat.ble (o+n) cs.length)=true) (hcs:cs.take o++v.cells.toList++cs.drop (o+n)=cs') (k:RJ E ops Q rest D L (A0::A1::A2::A3::cm b tt cs'::C)):RJ E ops Q (⟨none,.store t x y,ty,ps,af,g⟩::rest) D L (A0::A1::A2::A3::cm b tt cs::C):=NF 4 h ht rfl hk hcs rfl k
theorem I4 {t n b tt:Nat} {x y:Operand} {cs cs':List Value} {A0 A1 A2 A3 A4:aw} (h:sF ops L g x y=some (.pointer (some ⟨b,0,none⟩),.agg cs'.toArray)) (ht:(tK E.P t).map (·.2)=some n) (hk:(Nat.beq cs'.length n&&cs'.all Value.oneCell'&&Nat.beq n cs.length)=true) (k:RJ E ops Q rest D L (A0::A1::A2::A3::A4::cm b tt cs'::C)):RJ E ops Q (⟨none,.store t x y,ty,ps,af,g⟩::rest) D L (A0::A1::A2::A3::A4::cm b tt cs::C):=O3 5 h ht rfl hk rfl k
theorem Ws (cs':List Value) {t n b o tt:Nat} {x y:Operand} {v:Value} {cs:List Value} {A0 A1 A2 A3 A4:aw} (h:sF ops L g x y=some (.pointer (some ⟨b,o,none⟩),v)) (ht:(tK E.P t).map (·.2)=some n) (hk:(v.cells.toList.length==n&&v.cells.toList.all Value.oneCell'&&Nat.ble (o+n) cs.length)=true) (hcs:cs.take o++v.cells.toList++cs.drop (o+n)=cs') (k:RJ E ops Q rest D L (A0::A1::A2::A3::A4::cm b tt cs'::C)):RJ E ops Q (⟨none,.store t x y,ty,ps,af,g⟩::rest) D L (A0::A1::A2::A3::A4::cm b tt cs::C):=NF 5 h ht rfl hk hcs rfl k
theorem Ow {t n b tt:Nat} {x y:Operand} {cs cs':List Value} {A0 A1 A2 A3 A4 A5:aw} (h:sF ops L g x y=some (.pointer (some ⟨b,0,none⟩),.agg cs'.toArray)) (ht:(tK E.P t).map (·.2)=some n) (hk:(Nat.beq cs'.length n&&cs'.all Value.oneCell'&&Nat.beq n cs.length)=true) (k:RJ E ops Q rest D L (A0::A1::A2::A3::A4::A5::cm b tt cs'::C)):RJ E ops Q (⟨none,.store t x y,ty,ps,af,g⟩::rest) D L (A0::A1::A2::A3::A4::A5::cm b tt cs::C):=O3 6 h ht rfl hk rfl k
theorem Wv {t n b tt:Nat} {x y:Operand} {v u:Value} {A0 A1 A2 A3 A4 A5:aw} (h:sF ops L g x y=some (.pointer (some ⟨b,0,none⟩),v)) (ht:(tK E.P t).map (·.2)=some n) (hv:v.cells.toList=[v]) (hk:(Nat.beq n 1&&v.oneCell')=true) (k:RJ E ops Q rest D L (A0::A1::A2::A3::A4::A5::cm b tt [v]::C)):RJ E ops Q (⟨none,.store t x y,ty,ps,af,g⟩::rest) D L (A0::A1::A2::A3::A4::A5::cm b tt [u]::C):=U3 6 h ht rfl hv hk rfl k
theorem US (cs':List Value) {t n b o tt:Nat} {x y:Operand} {v:Value} {cs:List Value} {A0 A1 A2 A3 A4 A5:aw} (h:sF ops L g x y=some (.pointer (some ⟨b,o,none⟩),v)) (ht:(tK E.P t).map (·.2)=some n) (hk:(v.cells.toList.length==n&&v.cells.toList.all Value.oneCell'&&Nat.ble (o+n) cs.length)=true) (hcs:cs.take o++v.cells.toList++cs.drop (o+n)=cs') (k:RJ E ops Q rest D L (A0::A1::A2::A3::A4::A5::cm b tt cs'::C)):RJ E ops Q (⟨none,.store t x y,ty,ps,af,g⟩::rest) D L (A0::A1::A2::A3::A4::A5::cm b tt cs::C):=NF 6 h ht rfl hk hcs rfl k
theorem Wx (cs':List Value) {t n b o tt:Nat} {x y:Operand} {v:Value} {cs:List Value} {A0 A1 A2 A3 A4 A5 A6:aw} (h:sF ops L g x y=some (.pointer (some ⟨b,o,none⟩),v)) (ht:(tK E.P t).map (·.2)=some n) (hk:(v.cells.toList.length==n&&v.cells.toList.all Value.oneCell'&&Nat.ble (o+n) cs.length)=true) (hcs:cs.take o++v.cells.toList++cs.drop (o+n)=cs') (k:RJ E ops Q rest D L (A0::A1::A2::A3::A4::A5::A6::cm b tt cs'::C)):RJ E ops Q (⟨none,.store t x y,ty,ps,af,g⟩::rest) D L (A0::A1::A2::A3::A4::A5::A6::cm b tt cs::C):=NF 7 h ht rfl hk hcs rfl k
theorem Wr {t n b tt:Nat} {x y:Operand} {cs cs':List Value} {A0 A1 A2 A3 A4 A5 A6 A7:aw} (h:sF ops L g x y=some (.pointer (some ⟨b,0,none⟩),.agg cs'.toArray)) (ht:(tK E.P t).map (·.2)=some n) (hk:(Nat.beq cs'.length n&&cs'.all Value.oneCell'&&Nat.beq n cs.length)=true) (k:RJ E ops Q rest D L (A0::A1::A2::A3::A4::A5::A6::A7::cm b tt cs'::C)):RJ E ops Q (⟨none,.store t x y,ty,ps,af,g⟩::rest) D L (A0::A1::A2::A3::A4::A5::A6::A7::cm b tt cs::C):=O3 8 h ht rfl hk rfl k
theorem Wu (cs':List Value) {t n b o tt:Nat} {x y:Operand} {v:Value} {cs:List Value} {A0 A1 A2 A3 A4 A5 A6 A7:aw} (h:sF ops L g x y=some (.pointer (some ⟨b,o,none⟩),v)) (ht:(tK E.P t).map (·.2)=some n) (hk:(v.cells.toList.length==n&&v.cells.toList.all Value.oneCell'&&Nat.ble (o+n) cs.length)=true) (hcs:cs.take o++v.cells.toList++cs.drop (o+n)=cs') (k:RJ E ops Q rest D L (A0::A1::A2::A3::A4::A5::A6::A7::cm b tt cs'::C)):RJ E ops Q (⟨none,.store t x y,ty,ps,af,g⟩::rest) D L (A0::A1::A2::A3::A4::A5::A6::A7::cm b tt cs::C):=NF 8 h ht rfl hk hcs rfl k
theorem Vx (cs':List Value) {t n b o tt:Nat} {x y:Operand} {v:Value} {cs:List Value} {A0 A1 A2 A3 A4 A5 A6 A7 A8 A9:aw} (h:sF ops L g x y=some (.pointer (some ⟨b,o,none⟩),v)) (ht:(tK E.P t).map (·.2)=some n) (hk:(v.cells.toList.length==n&&v.cells.toList.all Value.oneCell'&&Nat.ble (o+n) cs.length)=true) (hcs:cs.take o++v.cells.toList++cs.drop (o+n)=cs') (k:RJ E ops Q rest D L (A0::A1::A2::A3::A4::A5::A6::A7::A8::A9::cm b tt cs'::C)):RJ E ops Q (⟨none,.store t x y,ty,ps,af,g⟩::rest) D L (A0::A1::A2::A3::A4::A5::A6::A7::A8::A9::cm b tt cs::C):=NF 10 h ht rfl hk hcs rfl k
theorem V0 {t n b tt:Nat} {x y:Operand} {cs cs':List Value} {A0 A1 A2 A3 A4 A5 A6 A7 A8 A9 A10:aw} (h:sF ops L g x y=some (.pointer (some ⟨b,0,none⟩),.agg cs'.toArray)) (ht:(tK E.P t).map (·.2)=some n) (hk:(Nat.beq cs'.length n&&cs'.all Value.oneCell'&&Nat.beq n cs.length)=true) (k:RJ E ops Q rest D L (A0::A1::A2::A3::A4::A5::A6::A7::A8::A9::A10::cm b tt cs'::C)):RJ E ops Q (⟨none,.store t x y,ty,ps,af,g⟩::rest) D L (A0::A1::A2::A3::A4::A5::A6::A7::A8::A9::A10::cm b tt cs::C):=O3 11 h ht rfl hk rfl k
end
section
variable {E:fr} {y:Code} {Q:db} {D:List Deferred} {L:List (Nat×Value)} {C:List aw}
theorem WS {id:Nat} {ops:Array Oper} (h: ∀ K:Act→World→Prop,(∀ D L C,WJ E y Q D L C→KJ E K D L C)→RJ E ops (Exit.then K Q) ops.toList D L C):WJ E (.seq (.region id ops false) y) Q D L C:=aj fun K hK=>ak (h K hK)
theorem RK {ops:Array Oper} {K:Act→World→Prop} {Q':db} (hK: ∀ D L C,WJ E y Q D L C→KJ E K D L C) (k:WJ E y Q D L C):RJ E ops (Exit.then K Q') [] D L C:=aB (aU (hK _ _ _ k))
theorem KK {K:Act→World→Prop} {Q':db} (hK: ∀ D L C,WJ E y Q D L C→KJ E K D L C) (k:WJ E y Q D L C):KJ E (Exit.then K Q' .normal) D L C:=aU (hK _ _ _ k)
theorem WK {K:Act→World→Prop} {Q':db} (hK: ∀ D L C,WJ E y Q D L C→KJ E K D L C) (k:WJ E y Q D L C):WJ E .skip (Exit.then K Q') D L C:=ct (aU (hK _ _ _ k))
end
theorem DT {p:Prop} [Decidable p] (h:decide p=true):p:=of_decide_eq_true h
theorem DF {p:Prop} [Decidable p] (h:decide p=false): ¬ p:=of_decide_eq_false h
theorem XT {p:Prop} [Decidable p] (h:(!decide p)=true): ¬ p:=by simpa using h
theorem XF {p:Prop} [Decidable p] (h:(!decide p)=false):p:=by simpa using h
/-- what a function hands back: one result, two, three, that lie in slots -/
theorem Q1 {E:fr} {fn:Func} {K:Act→World→Prop} {L:dk} {C:List aw} {t:Nat} {u v:Value} (hQ: ∀ D L C,LJ E fn (Dc E.w0 v) D L C→KJ E K D L C) (hS:E.S=ug) (hr:fn.results.toList=[.tmp t]) (hl:L.lookup t=some u) (e:u=v):KJ E K [] L C:=
 hQ _ _ _ (iu (vs:=[u]) (by rw [hr]; exact ⟨hl,trivial⟩) fun w hs=>E1 e (by rw [hS] at hs; exact hs))
theorem Q2 {E:fr} {fn:Func} {K:Act→World→Prop} {L:dk} {C:List aw} {t s:Nat} {u x v:Value} (hQ: ∀ D L C,LJ E fn (Dc E.w0 v) D L C→KJ E K D L C) (hS:E.S=ug) (hr:fn.results.toList=[.tmp t,.tmp s]) (hl:L.lookup t=some u) (hm:L.lookup s=some x) (e:vT [u,x]=v):KJ E K [] L C:=
 hQ _ _ _ (iu (vs:=[u,x]) (by rw [hr]; exact ⟨hl,hm,trivial⟩) fun w hs=>E1 e (by rw [hS] at hs; exact hs))
theorem N1 {E:fr} {ops:Array Oper} {D:g5} {C' C1:List aw} {F:dk→List aw→Prop} {tb rem:List Nat} {n:Nat} {L:dk} {C:List aw} (i:Nat)
 (h:BN E ops D C' C1 F tb n (rem.filter (· != i)) i L C) (hm:rem.filter (fun i=>rem.all fun j=> !iM (qs ops) j i)=[i]:=by kernel_rfl):TN E ops D C' C1 F tb (n+1) rem L C:=je [i] hm (eQ h kX)
theorem NO {E:fr} {ops:Array Oper} {D:g5} {C' C1:List aw} {F:dk→List aw→Prop} {tb rem:List Nat} {n i:Nat} {L:dk} {C:List aw} {o:Oper} (ho:ops[i]? =some o) (ht:tb.contains i=false) (rem':List Nat)
 (h: ∀ K:Act→World→Prop,(∀ L' C'',(∀ w,St E.S E.w0 C'' w→St E.S E.w0 C' w)→TN E ops D C' C1 F tb n rem' L' C''→KJ E K D L' C'')→RJ E ops (NQ K) [o] D L C) (hr:rem=rem':=by kernel_rfl):BN E ops D C' C1 F tb n rem i L C:=iK ho hr ht h
theorem RD {E:fr} {ops:Array Oper} {K:Act→World→Prop} {D:g5} {L:dk} {C C':List aw} {X:dk→List aw→Prop} (hT: ∀ L' C'',(∀ w,St E.S E.w0 C'' w→St E.S E.w0 C' w)→X L' C''→KJ E K D L' C'')
 (k:Nat) (h2:C.drop k=C') (h:X L C):RJ E ops (NQ K) [] D L C:=aB (hT _ _ (fun w hs=>h2▸hs.take (List.drop_sublist k C)) h)
theorem aT {L L':dk} (h:L'.map (fun p=>L.lookup p.1)=L'.map (fun p=>some p.2)):dI L L':=by
 induction L' with
 |nil=>exact dI.nil _
 |cons p t ih=>
  simp only [List.map_cons,List.cons.injEq] at h
  exact dI.cons h.1 (ih h.2)
theorem OC {C:List aw} {A A' B B' D D':aw} (i j k:Nat) (h1:C[i]? =some A') (e1:A'.holds=A.holds) (h2:C[j]? =some B') (e2:B'.holds=B.holds) (h3:C[k]? =some D') (e3:D'.holds=D.holds):kN C [A,B,D]:=fB i h1 e1 (fB j h2 e2 (fB k h3 e3 aJ))
theorem bR {E:fr} {c:Operand} {x y:Code} {b:Bool} {Q:db} {D:List Deferred} {L:List (Nat×Value)} {C:List aw} (hc:ev L c=some (.bool b)) (h2:b=false→WJ E y Q D L C) (h1:b=true→WJ E x Q D L C):WJ E (.cond c x y) Q D L C:=cP hc h1 h2
theorem ck {E:fr} {ops:Array Oper} {Q:db} {rest:List Oper} {D:List Deferred} {L:List (Nat×Value)} {C:List aw} {t:Nat} {b:Bool} (h:L.lookup t=some (.bool b)) (h2:b=false→RJ E ops Q rest D ((t,.bool false)::L) C) (h1:b=true→RJ E ops Q rest D ((t,.bool true)::L) C):RJ E ops Q rest D L C:=dx h h1 h2
theorem jN {E:fr} {ops:Array Oper} {Q:db} {rest:List Oper} {D:List Deferred} {L:List (Nat×Value)} {C:List aw} {t:Nat} {b:Bool} {os:List Oper} (h:L.lookup t=some (.bool b)) (h2:b=false→DJ E ops D C (fun L2=>RJ E ops Q rest D L2 C) os ((t,.bool false)::L)) (h1:b=true→DJ E ops D C (fun L2=>RJ E ops Q rest D L2 C) os ((t,.bool true)::L)):DJ E ops D C (fun L2=>RJ E ops Q rest D L2 C) os L:=jq h h1 h2
theorem cQ {L:List (Nat×Value)}: ∀ (k:Nat) {L2:List (Nat×Value)} (q:dI L (L2.drop k)) (h:(L2.take k).map (fun p=>L.lookup p.1)=(L2.take k).map (fun p=>some p.2):=by rfl),dI L L2
 |0,_,q,_=>q
 |_+1,[],_,_=>dI.nil _
 |k+1,p::L2,q,h=>by
  obtain ⟨A,B⟩:=List.cons.inj (show L.lookup p.1::(L2.take k).map (fun p=>L.lookup p.1)=some p.2::(L2.take k).map (fun p=>some p.2) from h)
  exact dI.cons (t:=p.1) (v:=p.2) A (cQ k q B)
theorem oX {E:fr} {ops:Array Oper} {Q:db} {rest:List Oper} {D:List Deferred} {L:List (Nat×Value)} {C:List aw} {d:Nat} {ty:TypeId} {ps:String} {af:Array Edge} {g:Option (Nat×Bool)} {op:Op} (k:RJ E ops Q rest D ((d,undef)::L) C) (h:(D4 ops L g&&Nat.blt d E.n)=true:=by rfl):RJ E ops Q (⟨some d,op,ty,ps,af,g⟩::rest) D L C:=rS (OX h) k
theorem dX {E:fr} {ops:Array Oper} {F:List (Nat×Value)→Prop} {rest:List Oper} {D:List Deferred} {L:List (Nat×Value)} {C:List aw} {d:Nat} {ty:TypeId} {ps:String} {af:Array Edge} {g:Option (Nat×Bool)} {op:Op} (k:DJ E ops D C F rest ((d,undef)::L)) (h:(D4 ops L g&&Nat.blt d E.n)=true:=by rfl):DJ E ops D C F (⟨some d,op,ty,ps,af,g⟩::rest) L:=dS (OX h) k
end
section
open Go.RowKit
/-- what of a slice is left from k on -/
def Bi (A:OA) (c k sz:Nat):OA:=if c=k then A else A.map (·.add (k*sz))
section
variable {E:fr} {ops:Array Oper} {Q:db} {rest:List Oper} {D:List Deferred} {L:List (Nat×Value)} {C:List aw}
variable {d:Nat} {ty:TypeId} {ps:String} {af:Array Edge} {g:Option (Nat×Bool)}
theorem F1 {P:Program} {t e sz:Nat} (h:tE P t=some (e,sz)) (w:World):P.underlying t=some (.slice e)∧(sizeOf e).run P w= .ok sz w:=by
 unfold tE at h
 split at h
 ·rename_i e' hu
  split at h
  ·rename_i i hi
   cases h
   exact ⟨hu,by simp [sizeOf,typeInfo,hi]⟩
  ·cases h
 ·cases h
theorem wP {P:Program} {t e:Nat} (h:P.underlying t=some (.slice e)):P.underlying t=some (.slice (P.elem t)):=by
 rw [h]; simp [Program.elem,h]
theorem G3 {P:Program} {t e:Nat} (h:P.underlying t=some (.slice e)):P.elem t=e:=by simp [Program.elem,h]
/-- s[k:] -/
theorem We (k:Nat) {x lo:Operand} {t e sz n c:Nat} {A:OA} {j:Int} (h:bF E.n ops L d g x lo=some (.slice A n c,.int .i64 j)) (ht:tE E.P t=some (e,sz)) (hj:j=(k:Int)) (hk:k≤n):
 SE E ops ⟨some d,.slice t x (some lo) none none,ty,ps,af,g⟩ D L C (.slice (Bi A c k sz) (n-k) (c-k)) d:=by
 obtain ⟨G,H,AA,J⟩:=qB h
 subst hj
 refine ⟨dV G sm fun a w B hs=>?_,U,H⟩
 obtain ⟨hu,hz⟩:=F1 ht w
 have hr:=run_slice_l (P:=E.P) w t A n c (wP hu) .i64 (k:Int) I I
 rw [G3 hu,hz] at hr
 simp only [Result.andThen,Int.toNat_natCast,sliced] at hr
 have F:=run_sliceAt_slice (P:=E.P) w t (.slice A n c) (some (.int .i64 (k:Int))) none none (wP hu)
 simp [execOp,B.ev AA,B.ev J,F,hr,Bi]
/-- s[:k] -/
theorem VT (k:Nat) {x hi:Operand} {t e sz n c:Nat} {A:OA} {j:Int} (h:bF E.n ops L d g x hi=some (.slice A n c,.int .i64 j)) (ht:tE E.P t=some (e,sz)) (hj:j=(k:Int)) (hk:k≤c):
 SE E ops ⟨some d,.slice t x none (some hi) none,ty,ps,af,g⟩ D L C (.slice A k c) d:=by
 obtain ⟨H,AA,J,K⟩:=qB h
 subst hj
 refine ⟨dV H sm fun a w B hs=>?_,U,AA⟩
 obtain ⟨hu,hz⟩:=F1 ht w
 have hr:=run_slice_h (P:=E.P) w t A n c (wP hu) .i64 (k:Int) I I
 rw [G3 hu,hz] at hr
 have G:(if c=0 then A else A.map (·.add (0*sz)))=A:=by
  split
  ·rfl
  ·cases A with
   |none=>rfl
   |some ad=>simp [Addr.add]
 simp only [Result.andThen,Int.toNat_natCast,sliced,G,Nat.sub_zero] at hr
 have F:=run_sliceAt_slice (P:=E.P) w t (.slice A n c) none (some (.int .i64 (k:Int))) none (wP hu)
 simp [execOp,B.ev J,B.ev K,F,hr]
/-- an element of a row whose place is known -/
theorem Wo (k:Nat) {x ix:Operand} {A:OA} {ad:Addr} {n c sz e t:Nat} {j:Int} (h:bF E.n ops L d g x ix=some (.slice A n c,.int .i64 j)) (hA:A=some ad) (ht:tE E.P t=some (e,sz)) (hj:j=(k:Int)) (hk:k<n):
 SE E ops ⟨some d,.indexAddr t x ix,ty,ps,af,g⟩ D L C (.pointer (mw A (k*sz))) d:=by
 obtain ⟨F,G,H,AA⟩:=qB h
 refine ⟨dV F sm fun a w B hs=>?_,U,G⟩
 subst hA hj
 simp [execOp,B.ev H,B.ev AA,mw,rm ht hk]
end
theorem Br {w:World} {a:OA} {c e sz:Nat} {es:List (List Value)} (h:(own a c e sz es).holds w):es.length≤c:=by
 rcases h.2.2 with ⟨A,B⟩|⟨g,cap,cur,hv,_,_,C,_⟩
 ·omega
 ·injection hv with _ _ hc; omega
end
section
open Go.RowKit
/-- an array's length, its elements' type and their size -/
def aE (P:Program) (t:TypeId):Option (Nat×TypeId×Nat):=
 match P.underlying t with
 |some (.array n e)=>match P.info? e with
  |some i=>some (n,e,i.size)
  |none=>none
 |_=>none
theorem G2 {P:Program} {t n e sz:Nat} (h:aE P t=some (n,e,sz)) (w:World):P.underlying t=some (.array n e)∧(sizeOf e).run P w= .ok sz w:=by
 unfold aE at h
 split at h
 ·rename_i n' e' hu
  split at h
  ·rename_i i hi
   cases h
   exact ⟨hu,by simp [sizeOf,typeInfo,hi]⟩
  ·cases h
 ·cases h
theorem wo {P:Program} {t n e sz:Nat} (h:aE P t=some (n,e,sz)) (a:Addr) (w:World):
 (Instr.sliceAt t (.pointer (some a)) none none none).run P w= .ok (.slice (some a) n n) w:=by
 obtain ⟨hu,hz⟩:=G2 h w
 have A:a.add 0=a:=by simp [Addr.add]
 simp [Instr.sliceAt,underlying,hu,Instr.sureAddr,Instr.sliceBounds,hz,A]
theorem wm {P:Program} {t n e sz:Nat} (h:aE P t=some (n,e,sz)) (a:Addr) {k:Nat} (hk:k<n) (w:World):
 (Instr.indexAt t (.pointer (some a)) (.int .i64 (k:Int))).run P w= .ok (.pointer (some (a.add (k*sz)))) w:=by
 obtain ⟨hu,hz⟩:=G2 h w
 have A: ¬ n≤k:=by omega
 simp [Instr.indexAt,underlying,hu,Instr.sureAddr,asIntOf,hz,A]
 try exact fun h=>absurd h A
 try omega
section
variable {E:fr} {ops:Array Oper} {Q:db} {rest:List Oper} {D:List Deferred} {L:List (Nat×Value)} {C:List aw}
variable {dst:Option Nat} {ty:TypeId} {ps:String} {af:Array Edge} {g:Option (Nat×Bool)}
theorem Eh {x:Operand} {a:Addr} {t n e sz:Nat} (hg:jS ops L g=true) (hx:ev L x=some (.pointer (some a))) (ht:aE E.P t=some (n,e,sz)):
 SD E ops ⟨dst,.slice t x none none none,ty,ps,af,g⟩ D L C (.slice (some a) n n):=
 dV hg sm fun b w A hs=>by
  simp [execOp,A.ev hx,wo ht]
theorem E3 {x ix:Operand} {a:Addr} {t n e sz k:Nat} {j:Int} (hg:jS ops L g=true) (hx:ev L x=some (.pointer (some a))) (hi:ev L ix=some (.int .i64 j)) (ht:aE E.P t=some (n,e,sz)) (hj:j=(k:Int)) (hk:k<n):
 SD E ops ⟨dst,.indexAddr t x ix,ty,ps,af,g⟩ D L C (.pointer (mw (some a) (k*sz))):=
 dV hg sm fun b w A hs=>by
  subst hj
  simp [execOp,A.ev hx,A.ev hi,mw,wm ht a hk]
end
end
section
open Go.RowKit
/-- a table of facts on the program's types -/
structure Ea where
 tk:List (Nat×Bool×Nat)
 fo:List (Nat×List (Option Nat))
 sl:List Nat
def RT {α:Type}:List (Nat×α)→Nat→Option α
 |[],_=>none
 |(k,v)::l,t=>match Nat.beq k t with
  |true=>some v
  |false=>RT l t
theorem BD {α:Type}: ∀ {l:List (Nat×α)} {t:Nat} {v:α},RT l t=some v→(t,v)∈l
 |[],t,v,h=>by simp [RT] at h
 |(k,u)::l,t,v,h=>by
  unfold RT at h
  split at h
  ·rename_i hb
   cases h
   rw [Nat.eq_of_beq_eq_true hb]; exact cv
  ·exact cY _ (BD h)
def Nb:List Nat→Nat→Bool
 |[],_=>false
 |k::l,t=>match Nat.beq k t with
  |true=>true
  |false=>Nb l t
theorem Cb: ∀ {l:List Nat} {t:Nat},Nb l t=true→t∈l
 |[],t,h=>by simp [Nb] at h
 |k::l,t,h=>by
  unfold Nb at h
  split at h
  ·rename_i hb
   rw [Nat.eq_of_beq_eq_true hb]; exact cv
  ·exact cY _ (Cb h)
def Ea.KR (T:Ea) (t:Nat):Option (Bool×Nat):=RT T.tk t
def Ea.foF (T:Ea) (s f:Nat):Option Nat:=match RT T.fo s with
 |some l=>match l[f]? with
  |some (some k)=>some k
  |_=>none
 |none=>none
structure lL (P:Program) (T:Ea):Prop where
 tk: ∀ p∈T.tk,tK P p.1=some p.2
 fo: ∀ p∈T.fo,∀ f k,p.2[f]? =some (some k)→rq P p.1 f=some k
 sl: ∀ t∈T.sl,∃ e,P.underlying t=some (.slice e)
theorem lL.KR {P:Program} {T:Ea} (h:lL P T) {t:Nat} {r:Bool×Nat} (e:T.KR t=some r):tK P t=some r:=h.tk _ (BD e)
theorem lL.foF {P:Program} {T:Ea} (h:lL P T) {s f k:Nat} (e:T.foF s f=some k):rq P s f=some k:=by
 unfold Ea.foF at e
 split at e
 ·rename_i l hl
  split at e
  ·rename_i k' hk
   cases e
   exact h.fo _ (BD hl) f k hk
  ·cases e
 ·cases e
def UN (P:Program) (T:Ea):Bool:=(T.tk.all fun p=>decide (tK P p.1=some p.2))&&(T.fo.all fun p=>(List.range p.2.length).all fun f=>match p.2[f]? with
 |some (some k)=>decide (rq P p.1 f=some k)
 |_=>true)&&T.sl.all fun t=>match P.underlying t with
 |some (.slice _)=>true
 |_=>false
theorem RC {P:Program} {T:Ea} (h:UN P T=true):lL P T:=by
 unfold UN at h
 rw [cU,cU] at h
 obtain ⟨⟨B,C⟩,D⟩:=h
 refine ⟨fun p hp=>by simpa using cV.1 B p hp,fun p hp f k hk=>?_,fun t ht=>?_⟩
 ·have A:=cV.1 (cV.1 C p hp) f (List.mem_range.2 (aV.1 hk).1)
  rw [hk] at A
  simpa using A
 ·have A:=cV.1 D t ht
  split at A
  ·rename_i e he; exact ⟨e,he⟩
  ·cases A
end
section
theorem OR:tK Tryz.prog 3=some (false,1):=by kernel_rfl
theorem Wp:tK Tryz.prog 4=some (false,1):=by kernel_rfl
theorem Vp:tK Tryz.prog 22=some (false,1):=by kernel_rfl
theorem SO:tK Tryz.prog 24=some (true,1):=by kernel_rfl
theorem QJ:tK Tryz.prog 25=some (false,1):=by kernel_rfl
theorem Vj:tK Tryz.prog 26=some (false,1):=by kernel_rfl
theorem VL:tK Tryz.prog 28=some (true,7):=by kernel_rfl
theorem V2:tK Tryz.prog 29=some (false,1):=by kernel_rfl
theorem VJ:tK Tryz.prog 30=some (false,1):=by kernel_rfl
theorem Uw:tK Tryz.prog 32=some (true,11):=by kernel_rfl
theorem Vu:tK Tryz.prog 40=some (false,1):=by kernel_rfl
theorem Vr:tK Tryz.prog 45=some (true,2):=by kernel_rfl
theorem VI:tK Tryz.prog 47=some (false,1):=by kernel_rfl
theorem SQ:tK Tryz.prog 51=some (false,1):=by kernel_rfl
theorem UX:tK Tryz.prog 53=some (true,2):=by kernel_rfl
theorem UZ:tK Tryz.prog 55=some (true,3):=by kernel_rfl
theorem RE:tK Tryz.prog 56=some (false,1):=by kernel_rfl
theorem V5:tK Tryz.prog 58=some (false,1):=by kernel_rfl
theorem Vw:tK Tryz.prog 60=some (true,3):=by kernel_rfl
theorem Vf:tK Tryz.prog 62=some (true,7):=by kernel_rfl
theorem U2:tK Tryz.prog 94=some (false,1):=by kernel_rfl
theorem T1:tK Tryz.prog 107=some (true,2):=by kernel_rfl
theorem Ur:tK Tryz.prog 109=some (false,1):=by kernel_rfl
theorem UB:tK Tryz.prog 110=some (false,1):=by kernel_rfl
theorem SN:tK Tryz.prog 153=some (true,9):=by kernel_rfl
theorem TI:tK Tryz.prog 158=some (true,3):=by kernel_rfl
theorem Sw:tK Tryz.prog 164=some (false,1):=by kernel_rfl
theorem Sd:tK Tryz.prog 170=some (false,1):=by kernel_rfl
theorem Um:tK Tryz.prog 172=some (true,2):=by kernel_rfl
theorem TG:tK Tryz.prog 180=some (true,1):=by kernel_rfl
theorem Sl:tK Tryz.prog 181=some (true,4):=by kernel_rfl
theorem Tm:tK Tryz.prog 237=some (true,1):=by kernel_rfl
theorem SA:tK Tryz.prog 264=some (false,1):=by kernel_rfl
theorem UE:tK Tryz.prog 266=some (true,3):=by kernel_rfl
theorem zb:(tK Tryz.prog 3).map (·.2)=some 1:=by rw [OR]; rfl
theorem Vm:(tK Tryz.prog 22).map (·.2)=some 1:=by rw [Vp]; rfl
theorem Ub:(tK Tryz.prog 24).map (·.2)=some 1:=by rw [SO]; rfl
theorem S_:(tK Tryz.prog 25).map (·.2)=some 1:=by rw [QJ]; rfl
theorem Sa:(tK Tryz.prog 26).map (·.2)=some 1:=by rw [Vj]; rfl
theorem QL:(tK Tryz.prog 28).map (·.2)=some 7:=by rw [VL]; rfl
theorem xy:(tK Tryz.prog 29).map (·.2)=some 1:=by rw [V2]; rfl
theorem Sy:(tK Tryz.prog 30).map (·.2)=some 1:=by rw [VJ]; rfl
theorem sv:(tK Tryz.prog 32).map (·.2)=some 11:=by rw [Uw]; rfl
theorem OS:(tK Tryz.prog 40).map (·.2)=some 1:=by rw [Vu]; rfl
theorem cz:(tK Tryz.prog 45).map (·.2)=some 2:=by rw [Vr]; rfl
theorem Vz:(tK Tryz.prog 47).map (·.2)=some 1:=by rw [VI]; rfl
theorem UH:(tK Tryz.prog 51).map (·.2)=some 1:=by rw [SQ]; rfl
theorem Tj:(tK Tryz.prog 53).map (·.2)=some 2:=by rw [UX]; rfl
theorem BE:(tK Tryz.prog 55).map (·.2)=some 3:=by rw [UZ]; rfl
theorem S5:(tK Tryz.prog 56).map (·.2)=some 1:=by rw [RE]; rfl
theorem Us:(tK Tryz.prog 58).map (·.2)=some 1:=by rw [V5]; rfl
theorem B8:(tK Tryz.prog 60).map (·.2)=some 3:=by rw [Vw]; rfl
theorem Q3:(tK Tryz.prog 62).map (·.2)=some 7:=by rw [Vf]; rfl
theorem SI:(tK Tryz.prog 94).map (·.2)=some 1:=by rw [U2]; rfl
theorem xr:(tK Tryz.prog 107).map (·.2)=some 2:=by rw [T1]; rfl
theorem Ud:(tK Tryz.prog 109).map (·.2)=some 1:=by rw [Ur]; rfl
theorem SF:(tK Tryz.prog 110).map (·.2)=some 1:=by rw [UB]; rfl
theorem JQ:(tK Tryz.prog 153).map (·.2)=some 9:=by rw [SN]; rfl
theorem Mc:(tK Tryz.prog 158).map (·.2)=some 3:=by rw [TI]; rfl
theorem zG:(tK Tryz.prog 164).map (·.2)=some 1:=by rw [Sw]; rfl
theorem Kk:(tK Tryz.prog 170).map (·.2)=some 1:=by rw [Sd]; rfl
theorem sH:(tK Tryz.prog 172).map (·.2)=some 2:=by rw [Um]; rfl
theorem GX:(tK Tryz.prog 180).map (·.2)=some 1:=by rw [TG]; rfl
theorem TD:(tK Tryz.prog 181).map (·.2)=some 4:=by rw [Sl]; rfl
theorem M5:(tK Tryz.prog 237).map (·.2)=some 1:=by rw [Tm]; rfl
theorem Uo:(tK Tryz.prog 264).map (·.2)=some 1:=by rw [SA]; rfl
theorem TL:(tK Tryz.prog 266).map (·.2)=some 3:=by rw [UE]; rfl
theorem Aq:aE Tryz.prog 188=some (3,187,2):=by kernel_rfl
theorem KN:rq Tryz.prog 28 2=some 2:=by kernel_rfl
theorem KH:rq Tryz.prog 53 1=some 1:=by kernel_rfl
theorem Q7:rq Tryz.prog 62 0=some 0:=by kernel_rfl
theorem V_:sx Tryz.prog 45=true:=by kernel_rfl
theorem Ve:sx Tryz.prog 69=true:=by kernel_rfl
theorem VH:sx Tryz.prog 82=true:=by kernel_rfl
theorem ic (l:List aa): ∀ v∈(l.map aa.cells).flatten,v.oneCell'=true:=mM (fun _=>rfl) l
theorem qo (l:List cr): ∀ v∈(l.map cr.cells).flatten,v.oneCell'=true:=mM (fun _=>rfl) l
theorem oQ (l:List aH): ∀ v∈(l.map aH.cells).flatten,v.oneCell'=true:=mM (fun _=>rfl) l
theorem oc (l:List al): ∀ v∈(l.map al.cells).flatten,v.oneCell'=true:=mM (fun _=>rfl) l
theorem qt (l:List bE): ∀ v∈(l.map bE.cells).flatten,v.oneCell'=true:=mM (fun _=>rfl) l
theorem UI:tA Tryz.prog 22=some (153,9,72,(Value.agg [(vI 0),(vI 0),(vI 0),(vI 0),(vI 0),(vI 0),(vI 0),(Value.int .u8 0),(vI 0)].toArray)):=by kernel_rfl
theorem RY:tA Tryz.prog 25=some (53,2,32,(Value.agg [(vI 0),(vS none 0 0)].toArray)):=by kernel_rfl
theorem Uv:tA Tryz.prog 26=some (160,4,32,(Value.agg [(vI 0),(vI 0),(vI 0),(vI 0)].toArray)):=by kernel_rfl
theorem o9:tA Tryz.prog 29=some (3,1,8,(vI 0)):=by kernel_rfl
theorem TC:tA Tryz.prog 30=some (56,1,24,(vS none 0 0)):=by kernel_rfl
theorem S9:tA Tryz.prog 51=some (55,3,24,(Value.agg [(vI 0),(vI 0),(vI 0)].toArray)):=by kernel_rfl
theorem SM:tA Tryz.prog 56=some (62,7,64,(Value.agg [(vB false),(vB false),(vI 0),(vI 0),(vI 0),(vI 0),(vS none 0 0)].toArray)):=by kernel_rfl
theorem SL:tA Tryz.prog 58=some (107,2,16,(Value.agg [(vI 0),(vI 0)].toArray)):=by kernel_rfl
theorem U_:tA Tryz.prog 66=some (29,1,24,(vS none 0 0)):=by kernel_rfl
theorem xo:tA Tryz.prog 109=some (45,2,16,(Value.agg [(vI 0),(vI 0)].toArray)):=by kernel_rfl
theorem Pw:tA Tryz.prog 110=some (109,1,24,(vS none 0 0)):=by kernel_rfl
theorem SJ:tA Tryz.prog 163=some (40,1,8,(Value.map none)):=by kernel_rfl
theorem CM:tA Tryz.prog 164=some (170,1,8,(Value.map none)):=by kernel_rfl
theorem PI:tA Tryz.prog 257=some (269,3,72,(Value.agg [(vS none 0 0),(vS none 0 0),(vS none 0 0)].toArray)):=by kernel_rfl
theorem Uf:tA Tryz.prog 264=some (4,1,1,(vB false)):=by kernel_rfl
theorem Tf:tB Tryz.prog 24=some ([(vS none 0 0)],[(0,1)]):=by kernel_rfl
theorem Vl:tB Tryz.prog 28=some ([(vS none 0 0),(vI 0),(vS none 0 0),(vS none 0 0),(vI 0),(vI 0),(vI 0)],[(0,1),(1,1),(2,1),(3,1),(4,1),(5,1),(6,1)]):=by kernel_rfl
theorem IM:tB Tryz.prog 32=some ([(vS none 0 0),(vI 0),(vS none 0 0),(vS none 0 0),(vI 0),(vI 0),(vI 0),(vS none 0 0),(vS none 0 0),(vI 0),(vS none 0 0)],[(0,7),(7,1),(8,1),(9,1),(10,1)]):=by kernel_rfl
theorem gJ:tB Tryz.prog 45=some ([(vI 0),(vI 0)],[(0,1),(1,1)]):=by kernel_rfl
theorem V4:tB Tryz.prog 53=some ([(vI 0),(vS none 0 0)],[(0,1),(1,1)]):=by kernel_rfl
theorem Sj:tB Tryz.prog 55=some ([(vI 0),(vI 0),(vI 0)],[(0,1),(1,2)]):=by kernel_rfl
theorem VG:tB Tryz.prog 60=some ([(vI 0),(vI 0),(vS none 0 0)],[(0,1),(1,1),(2,1)]):=by kernel_rfl
theorem Rv:tB Tryz.prog 62=some ([(vB false),(vB false),(vI 0),(vI 0),(vI 0),(vI 0),(vS none 0 0)],[(0,1),(1,1),(2,2),(4,3)]):=by kernel_rfl
theorem Gl:tB Tryz.prog 107=some ([(vI 0),(vI 0)],[(0,1),(1,1)]):=by kernel_rfl
theorem Tg:tB Tryz.prog 112=some ([(vS none 0 0),(vI 0),(vS none 0 0),(vS none 0 0),(vI 0),(vI 0),(vI 0),(vS none 0 0),(vS none 0 0),(vI 0),(vS none 0 0),(vS none 0 0),(Value.map none)],[(0,11),(11,1),(12,1)]):=by kernel_rfl
theorem Sm:tB Tryz.prog 153=some ([(vI 0),(vI 0),(vI 0),(vI 0),(vI 0),(vI 0),(vI 0),(Value.int .u8 0),(vI 0)],[(0,1),(1,2),(3,2),(5,2),(7,1),(8,1)]):=by kernel_rfl
theorem Tn:tB Tryz.prog 158=some ([(vI 0),(vI 0),(vI 0)],[(0,1),(1,2)]):=by kernel_rfl
theorem MJ:tB Tryz.prog 160=some ([(vI 0),(vI 0),(vI 0),(vI 0)],[(0,3),(3,1)]):=by kernel_rfl
theorem TQ:tB Tryz.prog 166=some ([(vS none 0 0),(vI 0),(vS none 0 0),(vS none 0 0),(vI 0),(vI 0),(vI 0),(vI 0),(vI 0),(vS none 0 0),(vS none 0 0),(vS none 0 0),(vS none 0 0),(vS none 0 0)],[(0,7),(7,3),(10,1),(11,1),(12,1),(13,1)]):=by kernel_rfl
theorem Cr:tB Tryz.prog 172=some ([(vI 0),(vI 0)],[(0,1),(1,1)]):=by kernel_rfl
theorem F5:tB Tryz.prog 180=some ([Value.nilFunc],[(0,1)]):=by kernel_rfl
theorem TW:tB Tryz.prog 181=some ([Value.nilFunc,Value.nilFunc,Value.nilFunc,Value.nilFunc],[(0,1),(1,1),(2,1),(3,1)]):=by kernel_rfl
theorem Sg:tB Tryz.prog 193=some ([(vI 0),(vI 0)],[(0,1),(1,1)]):=by kernel_rfl
theorem Ta:tB Tryz.prog 237=some ([(vS none 0 0)],[(0,1)]):=by kernel_rfl
theorem SR:tB Tryz.prog 269=some ([(vS none 0 0),(vS none 0 0),(vS none 0 0)],[(0,1),(1,1),(2,1)]):=by kernel_rfl
theorem ym:tE Tryz.prog 22=some (153,9):=by kernel_rfl
theorem uC:tE Tryz.prog 25=some (53,2):=by kernel_rfl
theorem vx:tE Tryz.prog 26=some (160,4):=by kernel_rfl
theorem cK:tE Tryz.prog 29=some (3,1):=by kernel_rfl
theorem nj:tE Tryz.prog 30=some (56,1):=by kernel_rfl
theorem tW:tE Tryz.prog 51=some (55,3):=by kernel_rfl
theorem tm:tE Tryz.prog 56=some (62,7):=by kernel_rfl
theorem wh:tE Tryz.prog 58=some (107,2):=by kernel_rfl
theorem pK:tE Tryz.prog 66=some (29,1):=by kernel_rfl
theorem hU:tE Tryz.prog 109=some (45,2):=by kernel_rfl
theorem GG:tE Tryz.prog 110=some (109,1):=by kernel_rfl
theorem Py:tE Tryz.prog 162=some (124,1):=by kernel_rfl
theorem Gx:tE Tryz.prog 163=some (40,1):=by kernel_rfl
theorem oF:tE Tryz.prog 164=some (170,1):=by kernel_rfl
theorem Kw:tE Tryz.prog 184=some (187,2):=by kernel_rfl
theorem KQ:tE Tryz.prog 251=some (158,3):=by kernel_rfl
theorem G7:tE Tryz.prog 257=some (269,3):=by kernel_rfl
theorem PL:tE Tryz.prog 264=some (4,1):=by kernel_rfl
theorem AZ:(match Tryz.prog.underlying 45 with |some (.struct fs)=>(fs[0]?).map (fun fl=>tK Tryz.prog fl.type)|_=>none)=some (some (false,1)):=by kernel_rfl
theorem By:(match Tryz.prog.underlying 45 with |some (.struct fs)=>(fs[1]?).map (fun fl=>tK Tryz.prog fl.type)|_=>none)=some (some (false,1)):=by kernel_rfl
theorem Wd:tV Tryz.prog 3=some (vI 0):=by kernel_rfl
theorem xI:tV Tryz.prog 45=some (Value.agg [(vI 0),(vI 0)].toArray):=by kernel_rfl
theorem Gd:tX Tryz.prog 181=some (4,180):=by kernel_rfl
theorem Gn:tX Tryz.prog 193=some (2,3):=by kernel_rfl
theorem jA:tZ Tryz.prog 3=some [(vI 0)]:=by kernel_rfl
theorem Wn:tZ Tryz.prog 4=some [(vB false)]:=by kernel_rfl
theorem Bf:tZ Tryz.prog 12=some [(Value.int .u64 0)]:=by kernel_rfl
theorem V8:tZ Tryz.prog 24=some [(vS none 0 0)]:=by kernel_rfl
theorem Se:tZ Tryz.prog 28=some [(vS none 0 0),(vI 0),(vS none 0 0),(vS none 0 0),(vI 0),(vI 0),(vI 0)]:=by kernel_rfl
theorem we:tZ Tryz.prog 29=some [(vS none 0 0)]:=by kernel_rfl
theorem yT:tZ Tryz.prog 32=some [(vS none 0 0),(vI 0),(vS none 0 0),(vS none 0 0),(vI 0),(vI 0),(vI 0),(vS none 0 0),(vS none 0 0),(vI 0),(vS none 0 0)]:=by kernel_rfl
theorem Sq:tZ Tryz.prog 40=some [(Value.map none)]:=by kernel_rfl
theorem dA:tZ Tryz.prog 45=some [(vI 0),(vI 0)]:=by kernel_rfl
theorem V7:tZ Tryz.prog 47=some [(Value.map none)]:=by kernel_rfl
theorem OY:tZ Tryz.prog 53=some [(vI 0),(vS none 0 0)]:=by kernel_rfl
theorem yS:tZ Tryz.prog 55=some [(vI 0),(vI 0),(vI 0)]:=by kernel_rfl
theorem Vn:tZ Tryz.prog 56=some [(vS none 0 0)]:=by kernel_rfl
theorem N7:tZ Tryz.prog 60=some [(vI 0),(vI 0),(vS none 0 0)]:=by kernel_rfl
theorem Oj:tZ Tryz.prog 62=some [(vB false),(vB false),(vI 0),(vI 0),(vI 0),(vI 0),(vS none 0 0)]:=by kernel_rfl
theorem Ui:tZ Tryz.prog 94=some [(Value.pointer none)]:=by kernel_rfl
theorem GI:tZ Tryz.prog 107=some [(vI 0),(vI 0)]:=by kernel_rfl
theorem P0:tZ Tryz.prog 109=some [(vS none 0 0)]:=by kernel_rfl
theorem Up:tZ Tryz.prog 124=some [Value.nilFunc]:=by kernel_rfl
theorem G6:tZ Tryz.prog 153=some [(vI 0),(vI 0),(vI 0),(vI 0),(vI 0),(vI 0),(vI 0),(Value.int .u8 0),(vI 0)]:=by kernel_rfl
theorem Dd:tZ Tryz.prog 158=some [(vI 0),(vI 0),(vI 0)]:=by kernel_rfl
theorem Tb:tZ Tryz.prog 160=some [(vI 0),(vI 0),(vI 0),(vI 0)]:=by kernel_rfl
theorem uu:tZ Tryz.prog 172=some [(vI 0),(vI 0)]:=by kernel_rfl
theorem FX:tZ Tryz.prog 180=some [Value.nilFunc]:=by kernel_rfl
theorem Ss:tZ Tryz.prog 181=some [Value.nilFunc,Value.nilFunc,Value.nilFunc,Value.nilFunc]:=by kernel_rfl
theorem My:tZ Tryz.prog 237=some [(vS none 0 0)]:=by kernel_rfl
theorem PJ:tZ Tryz.prog 266=some [(vS none 0 0),(vS none 0 0),(vS none 0 0)]:=by kernel_rfl
theorem Ti:tZ Tryz.prog 269=some [(vS none 0 0),(vS none 0 0),(vS none 0 0)]:=by kernel_rfl
theorem qy:Tryz.prog.underlying 3=some (.int .i64):=by kernel_rfl
theorem Wc:Tryz.prog.underlying 4=some .bool:=by kernel_rfl
theorem UR:Tryz.prog.underlying 5=some (.int .u8):=by kernel_rfl
theorem Wq:Tryz.prog.underlying 9=some .string:=by kernel_rfl
theorem QX:Tryz.prog.underlying 22=some (.slice 153):=by kernel_rfl
theorem Td:Tryz.prog.underlying 25=some (.slice 53):=by kernel_rfl
theorem Q0:Tryz.prog.underlying 26=some (.slice 160):=by kernel_rfl
theorem Si:Tryz.prog.underlying 29=some (.slice 3):=by kernel_rfl
theorem Uy:Tryz.prog.underlying 30=some (.slice 56):=by kernel_rfl
theorem oy:Tryz.prog.underlying 40=some (.map 3 45):=by kernel_rfl
theorem Ct:Tryz.prog.underlying 47=some (.map 3 4):=by kernel_rfl
theorem UF:Tryz.prog.underlying 50=some (.int .u32):=by kernel_rfl
theorem R_:Tryz.prog.underlying 51=some (.slice 55):=by kernel_rfl
theorem Ua:Tryz.prog.underlying 56=some (.slice 62):=by kernel_rfl
theorem S6:Tryz.prog.underlying 58=some (.slice 107):=by kernel_rfl
theorem Tq:Tryz.prog.underlying 150=some (.int .u64):=by kernel_rfl
theorem pB:Tryz.prog.underlying 170=some (.map 172 3):=by kernel_rfl
theorem RU:Tryz.prog.underlying 205=some (.int .u64):=by kernel_rfl
theorem Ry:fL Tryz.prog 45=some [(3,0),(3,1)]:=by kernel_rfl
theorem PA (d:Nat) (s z:aa) (w:World):(Op.equalIn (d+2) 45 (.agg s.cells.toArray) (.agg z.cells.toArray)).run Tryz.prog w= .ok (decide (s=z)) w:=by
 have hc:(decide (s.Lo=z.Lo)&&(decide (s.Hi=z.Hi)&&true))=decide (s=z):=by rw [Bool.eq_iff_iff]; simp [aa.ext_iff]
 rw [← hc]
 exact yl (d+1) Ry w (tS w (j9 OR U w) (j9 OR U w) (wM _ qy w) (tS w (j9 OR U w) (j9 OR U w) (wM _ qy w) (GN w)))
theorem uD (x y:Operand) (s z:aa):iL Tryz.prog .eql 45 x y (.agg s.cells.toArray) (.agg z.cells.toArray) (.bool (decide (s=z))):=Iq x y (DK Ry) fun w=>PA 9998 s z w
theorem PO (x y:Operand) (s z:aa):iL Tryz.prog .neq 45 x y (.agg s.cells.toArray) (.agg z.cells.toArray) (.bool (!decide (s=z))):=It x y (DK Ry) fun w=>PA 9998 s z w
theorem PV:fL Tryz.prog 172=some [(3,0),(3,1)]:=by kernel_rfl
theorem Qi (d:Nat) (s z:aC) (w:World):(Op.equalIn (d+2) 172 (.agg s.cells.toArray) (.agg z.cells.toArray)).run Tryz.prog w= .ok (decide (s=z)) w:=by
 have hc:(decide (s.right=z.right)&&(decide (s.e9=z.e9)&&true))=decide (s=z):=by rw [Bool.eq_iff_iff]; simp [aC.ext_iff]
 rw [← hc]
 exact yl (d+1) PV w (tS w (j9 OR U w) (j9 OR U w) (wM _ qy w) (tS w (j9 OR U w) (j9 OR U w) (wM _ qy w) (GN w)))
theorem cE:Tryz.prog.follows .mixedOrders=true:=by kernel_rfl
def TT:Ea:=⟨[(1,false,1),(2,false,1),(3,false,1),(4,false,1),(5,false,1),(6,false,1),(7,true,4),(8,true,4),(12,false,1),(15,false,1),(16,false,1),(17,false,1),(18,true,1),(19,true,1),(21,false,1),(22,false,1),(23,true,1),(24,true,1),(25,false,1),(26,false,1),(27,true,7),(28,true,7),(29,false,1),(30,false,1),(31,true,11),(32,true,11),(33,false,1),(34,false,1),(35,false,1),(37,false,1),(38,false,1),(39,false,1),(40,false,1),(42,false,1),(43,false,1),(44,true,2),(45,true,2),(46,false,1),(47,false,1),(49,false,1),(50,false,1),(51,false,1),(52,true,2),(53,true,2),(54,true,3),(55,true,3),(56,false,1),(57,false,1),(58,false,1),(59,true,3),(60,true,3),(61,true,7),(62,true,7),(63,false,1),(65,false,1),(66,false,1),(68,false,1),(69,false,1),(70,false,1),(71,false,1),(72,false,1),(73,false,1),(74,false,1),(75,false,1),(76,false,1),(77,false,1),(78,false,1),(79,false,1),(81,false,1),(82,false,1),(83,false,1),(84,false,1),(86,false,1),(87,false,1),(88,false,1),(89,false,1),(90,false,1),(91,false,1),(92,false,1),(93,false,1),(94,false,1),(96,false,1),(97,false,1),(98,false,1),(99,false,1),(100,false,1),(101,false,1),(102,false,1),(103,false,1),(104,false,1),(105,false,1),(106,true,2),(107,true,2),(108,false,1),(109,false,1),(110,false,1),(111,true,13),(112,true,13),(114,false,1),(115,false,1),(116,false,1),(117,false,1),(118,false,1),(119,false,1),(120,false,1),(121,false,1),(123,false,1),(124,false,1),(125,false,1),(126,false,1),(127,false,1),(128,false,1),(129,false,1),(130,false,1),(131,false,1),(132,false,1),(133,false,1),(134,false,1),(136,false,1),(137,false,1),(138,false,1),(139,false,1),(140,false,1),(141,false,1),(142,false,1),(143,false,1),(144,false,1),(145,false,1),(146,false,1),(147,false,1),(148,false,1),(149,false,1),(150,false,1),(151,false,1),(152,true,9),(153,true,9),(154,false,1),(155,false,1),(156,false,1),(157,true,3),(158,true,3),(159,true,4),(160,true,4),(161,false,1),(162,false,1),(163,false,1),(164,false,1),(165,true,14),(166,true,14),(167,false,1),(168,false,1),(169,false,1),(170,false,1),(171,true,2),(172,true,2),(173,false,1),(174,false,1),(175,false,1),(176,false,1),(178,false,1),(179,false,1),(180,true,1),(181,true,4),(182,false,1),(183,false,1),(184,false,1),(185,false,1),(186,true,2),(187,true,2),(188,true,6),(189,false,1),(190,false,1),(191,false,1),(192,false,1),(193,true,2),(194,false,1),(195,false,1),(196,false,1),(198,false,1),(199,false,1),(200,false,1),(202,false,1),(203,false,1),(204,false,1),(205,false,1),(207,false,1),(208,false,1),(209,false,1),(210,false,1),(211,false,1),(212,false,1),(213,false,1),(214,false,1),(215,false,1),(216,false,1),(217,false,1),(218,false,1),(219,false,1),(220,false,1),(221,false,1),(222,false,1),(223,false,1),(224,false,1),(225,false,1),(226,false,1),(227,false,1),(228,false,1),(229,false,1),(230,false,1),(231,false,1),(232,false,1),(233,false,1),(235,false,1),(236,true,1),(237,true,1),(239,false,1),(240,false,1),(241,false,1),(242,false,1),(243,false,1),(244,false,1),(245,false,1),(246,false,1),(247,false,1),(248,false,1),(250,false,1),(251,false,1),(252,false,1),(253,false,1),(254,false,1),(255,false,1),(256,false,1),(257,false,1),(259,false,1),(260,false,1),(261,false,1),(262,false,1),(263,false,1),(264,false,1),(265,true,3),(266,true,3),(267,false,1),(268,true,3),(269,true,3),(270,false,1),(271,false,1),(272,false,1),(275,true,0),(276,true,0),(277,true,0),(278,false,1),(279,false,1),(280,false,1),(281,false,1),(282,false,1),(283,false,1),(284,false,1),(285,true,11),(286,true,11)],[(7,[some 0,some 1,some 2,some 3]),(8,[some 0,some 1,some 2,some 3]),(18,[some 0]),(19,[some 0]),(23,[some 0]),(24,[some 0]),(27,[some 0,some 1,some 2,some 3,some 4,some 5,some 6]),(28,[some 0,some 1,some 2,some 3,some 4,some 5,some 6]),(31,[some 0,some 7,some 8,some 9,some 10]),(32,[some 0,some 7,some 8,some 9,some 10]),(44,[some 0,some 1]),(45,[some 0,some 1]),(52,[some 0,some 1]),(53,[some 0,some 1]),(54,[some 0,some 1]),(55,[some 0,some 1]),(59,[some 0,some 1,some 2]),(60,[some 0,some 1,some 2]),(61,[some 0,some 1,some 2,some 4]),(62,[some 0,some 1,some 2,some 4]),(106,[some 0,some 1]),(107,[some 0,some 1]),(111,[some 0,some 11,some 12]),(112,[some 0,some 11,some 12]),(152,[some 0,some 1,some 3,some 5,some 7,some 8]),(153,[some 0,some 1,some 3,some 5,some 7,some 8]),(157,[some 0,some 1]),(158,[some 0,some 1]),(159,[some 0,some 3]),(160,[some 0,some 3]),(165,[some 0,some 7,some 10,some 11,some 12,some 13]),(166,[some 0,some 7,some 10,some 11,some 12,some 13]),(171,[some 0,some 1]),(172,[some 0,some 1]),(180,[some 0]),(186,[some 0,some 1]),(187,[some 0,some 1]),(236,[some 0]),(237,[some 0]),(265,[some 0,some 1,some 2]),(266,[some 0,some 1,some 2]),(268,[some 0,some 1,some 2]),(269,[some 0,some 1,some 2]),(285,[some 0,some 1,some 2,some 3,some 4,some 5,some 6,some 7,some 8,some 9,some 10]),(286,[some 0,some 1,some 2,some 3,some 4,some 5,some 6,some 7,some 8,some 9,some 10])],[22,25,26,29,30,51,56,58,66,109,110,162,163,164,184,251,257,264]⟩
theorem qq:lL Tryz.prog TT:=RC kr
theorem cp {t:TypeId} {x:Bool×Nat} (h:TT.KR t=some x:=by rfl):tK Tryz.prog t=some x:=qq.KR h
theorem fc {s f k:Nat} (h:TT.foF s f=some k:=by rfl):rq Tryz.prog s f=some k:=qq.foF h
end
section
open Go.RowKit
/-- blocks that are read -/
def MM (C:List aw) (M:List (Nat×List Value)):Prop:= ∀ p∈M,∀ o vs,(p.2.drop o).take vs.length=vs→At C (some ⟨p.1,o,none⟩) vs
theorem mn {C:List aw}:MM C []:=fun p h=>by cases h
theorem mc {C:List aw} {b t:Nat} {cs:List Value} {M:List (Nat×List Value)} (i:Nat) (hC:C[i]? =some (cm b t cs)) (h:MM C M):MM C ((b,cs)::M):=fun p hp o vs hv=>by
 rcases bx.1 hp with rfl|hp
 ·exact qd i hC hv
 ·exact h p hp o vs hv
theorem mr {C:List aw} {b t:Nat} {cs:List Value} {M:List (Nat×List Value)} (i:Nat) (hC:C[i]? =some (cm b t cs).ro) (h:MM C M):MM C ((b,cs)::M):=fun p hp o vs hv=>by
 rcases bx.1 hp with rfl|hp
 ·exact wD i hC hv
 ·exact h p hp o vs hv
def qi:List Prop→Prop
 |[]=>True
 |p::l=>p∧qi l
theorem ku {p:Prop} {l:List Prop} (h:p) (h2:qi l):qi (p::l):=⟨h,h2⟩
/-- the value of an operation, what it asks for, and what is left of the list of places -/
def pv (T:Ea) (ops:Array Oper) (M:List (Nat×List Value)) (L:dk) (hs:List Nat) (g:Option (Nat×Bool)) (op:Op):Option (Value×List Prop×List Nat):=
 match D4 ops L g with
 |true=>some (undef,[],hs)
 |false=>match jS ops L g with
  |false=>none
  |true=>match op with
   | .move x=>match ev L x with
    |some v=>some (v,[],hs)
    |none=>none
   | .assign x=>match ev L x with
    |some v=>some (v,[],hs)
    |none=>none
   | .pick c x y=>match ev L c with
    |some (.bool true)=>match ev L x with
     |some v=>some (v,[],hs)
     |none=>none
    |some (.bool false)=>match ev L y with
     |some v=>some (v,[],hs)
     |none=>none
    |_=>none
   | .unOp .not _ x=>match ev L x with
    |some (.bool b)=>some (.bool !b,[],hs)
    |_=>none
   | .extract x i=>match ev L x with
    |some (.tuple vs)=>match vs.toList[i]? with
     |some v=>some (v,[],hs)
     |none=>none
    |_=>none
   | .fieldAddr s x f=>match ev L x with
    |some (.pointer (some ⟨b,o,none⟩))=>match T.foF s f with
     |some k=>some (.pointer (some ⟨b,o+k,none⟩),[],hs)
     |none=>none
    |_=>none
   | .binOp op _ x y _=>match ev L x with
    |some (.int .i64 a)=>match ev L y with
     |some (.int .i64 b)=>match op with
      | .lss=>some (.bool (decide (a<b)),[],hs)
      | .leq=>some (.bool (decide (a≤b)),[],hs)
      | .gtr=>some (.bool (decide (b<a)),[],hs)
      | .geq=>some (.bool (decide (b≤a)),[],hs)
      | .eql=>some (.bool (decide (a=b)),[],hs)
      | .neq=>some (.bool (!decide (a=b)),[],hs)
      | .add=>some (.int .i64 (a+b),[-9223372036854775808≤a+b,a+b≤9223372036854775807],hs)
      | .sub=>some (.int .i64 (a-b),[-9223372036854775808≤a-b,a-b≤9223372036854775807],hs)
      |_=>none
     |_=>none
    |_=>none
   | .load t x=>match ev L x with
    |some (.pointer (some ⟨b,o,none⟩))=>match M[hs.headD 0]? with
     |some (b',cs)=>match T.KR t with
      |some (false,_)=>match cs[o]? with
       |some v=>some (v,[b'=b],hs.tail)
       |none=>none
      |some (true,n)=>match Nat.beq o 0 with
       |true=>match Nat.beq cs.length n with
        |true=>some (.agg cs.toArray,[b'=b],hs.tail)
        |false=>none
       |false=>none
      |none=>none
     |none=>none
    |_=>none
   | .call c=>match c with
    |{callee:= .builtin .len,args:=xs,argTypes:=ts}=>match xs.toList with
     |[x]=>match ts.toList with
      |[t]=>match ev L x with
       |some (.slice A n c)=>match Nb T.sl t with
        |true=>some (.int .i64 n,[],hs)
        |false=>none
       |_=>none
      |_=>none
     |_=>none
    |_=>none
   |_=>none
section
variable {E:fr} {T:Ea} {ops:Array Oper} {M:List (Nat×List Value)} {D:List Deferred} {L:List (Nat×Value)} {C:List aw} {hs hs':List Nat}
theorem vN {cs:List Value} {o:Nat} {v:Value} (h:cs[o]? =some v):(cs.drop o).take [v].length=[v]:=by
 obtain ⟨hl,rfl⟩:=aV.1 h
 rw [List.drop_eq_getElem_cons hl]; rfl
theorem TK {o:Oper} {v:Value} {S:List Prop} (hT:lL E.P T) (hM:MM C M) (h:pv T ops M L hs o.guard o.op=some (v,S,hs')) (hS:qi S):SD E ops o D L C v:=by
 obtain ⟨dst,op,ty,ps,af,g⟩:=o
 unfold pv at h
 simp only at h
 split at h
 ·rename_i hg
  cases h
  exact JS hg
 ·split at h
  ·cases h
  ·rename_i hg
   split at h
   ·split at h
    ·rename_i hx; cases h; exact GA hg hx
    ·cases h
   ·split at h
    ·rename_i hx; cases h; exact zk hg hx
    ·cases h
   ·split at h
    ·rename_i hc
     split at h
     ·rename_i hx; cases h; exact zQ hg hc hx
     ·cases h
    ·rename_i hc
     split at h
     ·rename_i hx; cases h; exact zK hg hc hx
     ·cases h
    ·cases h
   ·split at h
    ·rename_i hx; cases h; exact I9 hg hx
    ·cases h
   ·split at h
    ·rename_i vs hx
     split at h
     ·rename_i v' hv; cases h; exact xK (vs:=vs.toList) hg (by simpa using hx) hv
     ·cases h
    ·cases h
   ·split at h
    ·rename_i hx
     split at h
     ·rename_i hk; cases h; exact PX hg hx (hT.foF hk) rfl
     ·cases h
    ·cases h
   ·split at h
    ·rename_i hx
     split at h
     ·rename_i hy
      split at h
      ·cases h; exact cd hg hx hy ib
      ·cases h; exact cd hg hx hy Uz
      ·cases h; exact cd hg hx hy TH
      ·cases h; exact cd hg hx hy Gk
      ·cases h; exact cd hg hx hy mW
      ·cases h; exact cd hg hx hy og
      ·cases h; exact cd hg hx hy (iq ⟨hS.1,hS.2.1⟩)
      ·cases h; exact cd hg hx hy (sN ⟨hS.1,hS.2.1⟩)
      ·cases h
     ·cases h
    ·cases h
   ·split at h
    ·rename_i hx
     split at h
     ·rename_i b' cs hm
      have A:=aS hm
      split at h
      ·rename_i hk
       split at h
       ·rename_i hv
        cases h
        obtain rfl:=hS.1
        exact uU hg hx (hT.KR hk) (hM _ A _ _ (vN hv))
       ·cases h
      ·rename_i n hk
       split at h
       ·rename_i ho
        split at h
        ·rename_i hn
         cases h
         obtain rfl:=hS.1
         have H:=Nat.eq_of_beq_eq_true ho
         subst H
         exact x8 hg hx (hT.KR hk) (hM _ A 0 cs sm) (Nat.eq_of_beq_eq_true hn)
        ·cases h
       ·cases h
      ·cases h
     ·cases h
    ·cases h
   ·split at h
    ·rename_i xs ts
     split at h
     ·rename_i x G
      split at h
      ·rename_i t F
       split at h
       ·rename_i hx
        split at h
        ·rename_i B
         cases h
         obtain ⟨e,he⟩:=hT.sl t (Cb B)
         have AA:xs= #[x]:=by apply Array.ext'; simpa using G
         have J:ts= #[t]:=by apply Array.ext'; simpa using F
         subst AA J
         exact Kf hg hx he
        ·cases h
       ·cases h
      ·cases h
     ·cases h
    ·cases h
   ·cases h
def pr (T:Ea) (n:Nat) (ops:Array Oper) (M:List (Nat×List Value)):Nat→List Nat→dk→List Oper→Option (dk×List Oper×List Prop)
 |0,_,L,rest=>some (L,rest,[])
 |k+1,hs,L,[]=>none
 |k+1,hs,L,o::rest=>match o.dst with
  |none=>none
  |some d=>match Nat.blt d n with
   |false=>none
   |true=>match pv T ops M L hs o.guard o.op with
    |none=>none
    |some (v,S,hs')=>match pr T n ops M k hs' ((d,v)::L) rest with
     |none=>none
     |some (L',rest',S')=>some (L',rest',S++S')
theorem yv: ∀ {S S':List Prop},qi (S++S')→qi S∧qi S'
 |[],S',h=>⟨trivial,h⟩
 |p::S,S',h=>⟨⟨h.1,(yv h.2).1⟩,(yv h.2).2⟩
/-- whatever is closed under single steps -/
theorem Ja {J:List Oper→dk→Prop} (hT:lL E.P T) (hM:MM C M) (hJ: ∀ o rest L d v,SD E ops o D L C v→o.dst=some d→Nat.blt d E.n=true→J rest ((d,v)::L)→J (o::rest) L):
 ∀ (k:Nat) (hs:List Nat) (L:dk) (rest:List Oper) {L':dk} {rest':List Oper} {S:List Prop},pr T E.n ops M k hs L rest=some (L',rest',S)→qi S→J rest' L'→J rest L
 |0,hs,L,rest,L',rest',S,h,hS,hj=>by
  unfold pr at h
  cases h
  exact hj
 |k+1,hs,L,[],L',rest',S,h,hS,hj=>by unfold pr at h; cases h
 |k+1,hs,L,o::rest,L',rest',S,h,hS,hj=>by
  unfold pr at h
  split at h
  ·cases h
  ·rename_i d hd
   split at h
   ·cases h
   ·rename_i hn
    split at h
    ·cases h
    ·rename_i v S1 A hv
     split at h
     ·cases h
     ·rename_i L1 G S2 hr
      cases h
      obtain ⟨B,F⟩:=yv hS
      exact hJ o rest L d v (TK hT hM hv B) hd hn (Ja hT hM hJ k A _ rest hr F hj)
variable {Q:db} {rest rest':List Oper} {L0 L':List (Nat×Value)} {S:List Prop} {F:List (Nat×Value)→Prop}
/-- a run of operations, one after the other -/
theorem rP (k:Nat) (hs:List Nat) (hM:MM C M) (j:RJ E ops Q rest' D L' C) (hT:lL E.P T:=by exact qq) (h:pr T E.n ops M k hs L rest=some (L0,rest',S):=by rfl) (hL:L0=L':=by (try dsimp only)<;>rfl) (hS:qi S:=by repeat' first|exact True.intro |refine ku ?_ ?_ |exact rfl|omega|(dsimp only; omega)):RJ E ops Q rest D L C:=by
 subst hL
 exact Ja (J:=fun r L=>RJ E ops Q r D L C) hT hM (fun o rest L d v A B F G=>S0 A B F G) k hs L rest h hS j
theorem dP (k:Nat) (hs:List Nat) (hM:MM C M) (j:DJ E ops D C F rest' L') (hT:lL E.P T:=by exact qq) (h:pr T E.n ops M k hs L rest=some (L0,rest',S):=by rfl) (hL:L0=L':=by (try dsimp only)<;>rfl) (hS:qi S:=by repeat' first|exact True.intro |refine ku ?_ ?_ |exact rfl|omega):DJ E ops D C F rest L:=by
 subst hL
 exact Ja (J:=fun r L=>DJ E ops D C F r L) hT hM (fun o rest L d v A B G H=>S7 A B G H) k hs L rest h hS j
end
section
variable {P:Program} {r:Option Nat} {n:Nat} {B:BS} {w0:World} {ops:Array Oper} {M:List (Nat×List Value)} {D:List Deferred} {L L':List (Nat×Value)} {C:List aw} {Q:db} {rest rest':List Oper} {S:List Prop} {F:List (Nat×Value)→Prop}
theorem fP (k:Nat) (hs:List Nat) (hM:MM C M) (h:pr TT n ops M k hs L rest=some (L',rest',S)) (j:RJ ⟨P,r,n,B,w0⟩ ops Q rest' D L' C) (hS:qi S:=by repeat' first|exact True.intro |refine ku ?_ ?_ |exact rfl|omega|(dsimp only; omega)) (hT:lL P TT:=by exact qq):RJ ⟨P,r,n,B,w0⟩ ops Q rest D L C:=rP k hs hM j hT h rfl hS
theorem m_ (k:Nat) (hs:List Nat) (hM:MM C M) (h:pr TT n ops M k hs L rest=some (L',rest',S)) (j:DJ ⟨P,r,n,B,w0⟩ ops D C F rest' L') (hS:qi S:=by repeat' first|exact True.intro |refine ku ?_ ?_ |exact rfl|omega|(dsimp only; omega)) (hT:lL P TT:=by exact qq):DJ ⟨P,r,n,B,w0⟩ ops D C F rest L:=dP k hs hM j hT h rfl hS
theorem bk (k:Nat) (h:pr TT n ops [] k [] L rest=some (L',rest',S)) (j:RJ ⟨P,r,n,B,w0⟩ ops Q rest' D L' C) (hS:qi S:=by repeat' first|exact True.intro |refine ku ?_ ?_ |exact rfl|omega|(dsimp only; omega)) (hT:lL P TT:=by exact qq):RJ ⟨P,r,n,B,w0⟩ ops Q rest D L C:=rP k [] mn j hT h rfl hS
theorem mq (k:Nat) (h:pr TT n ops [] k [] L rest=some (L',rest',S)) (j:DJ ⟨P,r,n,B,w0⟩ ops D C F rest' L') (hS:qi S:=by repeat' first|exact True.intro |refine ku ?_ ?_ |exact rfl|omega|(dsimp only; omega)) (hT:lL P TT:=by exact qq):DJ ⟨P,r,n,B,w0⟩ ops D C F rest L:=dP k [] mn j hT h rfl hS
end
end
section
open Go.RowKit
/-- parts of a context, reckoned to the end -/
def lP (C:List aw):List Nat→Option (List aw)
 |[]=>some []
 |i::is=>match C[i]? with
  |some A=>match lP C is with
   |some l=>some (A::l)
   |none=>none
  |none=>none
theorem jl {C:List aw}: ∀ {is:List Nat} {C':List aw},lP C is=some C'→kD C is=C'
 |[],C',h=>by cases h; rfl
 |i::is,C',h=>by
  unfold lP at h
  split at h
  ·rename_i A hA
   split at h
   ·rename_i l hl
    cases h
    show List.filterMap (C[·]?) (i::is)=A::l
    rw [List.filterMap_cons_some hA]
    exact congrArg _ (jl hl)
   ·cases h
  ·cases h
/-- a part of a context in place of the whole -/
theorem aI {S:BS} {w0:World} {C C':List aw} (is:List Nat) (hn:decide is.Nodup=true:=by rfl) (hC:kD C is=C':=by rfl): ∀ w,St S w0 C w→St S w0 C' w:=fun w h=>St.kD is hn hC h
theorem ND {S:BS} {w0:World} {C C':List aw} (is:List Nat) (hC:lP C is=some C') (hn:decide is.Nodup=true:=by rfl): ∀ w,St S w0 C w→St S w0 C' w:=fun w h=>St.kD is hn (jl hC) h
def Pt (C:List aw) (i:Nat) (B:aw):Option (List aw):=match i,C with
 |0,_::C=>some (B::C)
 |i+1,A::C=>match Pt C i B with
  |some l=>some (A::l)
  |none=>none
 |_,[]=>none
theorem GP: ∀ {C:List aw} {i:Nat} {B:aw} {C':List aw},Pt C i B=some C'→C.set i B=C'
 |[],0,B,C',h=>by cases h
 |[],i+1,B,C',h=>by cases h
 |A::C,0,B,C',h=>by cases h; rfl
 |A::C,i+1,B,C',h=>by
  unfold Pt at h
  split at h
  ·rename_i l hl
   cases h
   exact congrArg _ (GP hl)
  ·cases h
theorem ij {E:fr} {K:Act→World→Prop} {D:g5} {L:dk} {C C':List aw} {A B:aw} (i:Nat) (hC:C[i]? =some A) (hh:(∀ w,A.holds w→B.holds w)∧(∀ b,B.fJ b→A.fJ b)∧ ∀ b,B.wf b→A.wf b) (hC':Pt C i B=some C') (h:KJ E K D L C'):KJ E K D L C:=MG i hC hh (GP hC') h
/-- the operations of a region but these; marks of some places -/
def Tt (n:Nat) (T:List Nat):List Nat:=(List.range n).filter fun i=> !T.contains i
def Vg (k:Nat) (t:List Nat):List Bool:=(List.range k).map fun i=>t.contains i
theorem dK {E:fr} {id:Nat} {ops:Array Oper} {Q:db} {D:g5} {L:dk} {C:List aw} (hm:E.P.follows .mixedOrders=true) (T fe tb i1 i2:List Nat) {C' C1:List aw} {free:List Nat} {JO tbb:List Bool}
 (h1:lP C i1=some C') (h2:lP C i2=some C1) (hf:free=Tt ops.size T) (hfe:JO=Vg free.length fe) (htb:tbb=Vg T.length tb)
 (h:qz E ops D C' C1 (fun L'=>TJ E ops D C' C1 (fun L C=>KJ E (Q .normal) D L C) tbb (eY ops T) L' C) JO (eY ops free) L)
 (hc:O_ ops free T JO tbb=true:=by kernel_rfl) (n1:decide i1.Nodup=true:=by rfl) (n2:decide i2.Nodup=true:=by rfl):WJ E (.region id ops true) Q D L C:=
 Ph hm free T JO tbb C' C1 hc (ND i1 h1 n1) (ND i2 h2 n2) h
end
section
open Go.RowKit
def wq (T:Ea) (M:List (Nat×List Value)) (L:dk):List ResultVar→List Nat→Option (List Value×List Prop)
 |[],_=>some ([],[])
 | .tmp t::rs,hs=>match L.lookup t with
  |some v=>match wq T M L rs hs with
   |some (vs,S)=>some (v::vs,S)
   |none=>none
  |none=>none
 | .cell a t::rs,hs=>match L.lookup a with
  |some (.pointer (some ⟨b,o,none⟩))=>match M[hs.headD 0]? with
   |some (b',cs)=>match T.KR t with
    |some (false,_)=>match cs[o]? with
     |some v=>match wq T M L rs hs.tail with
      |some (vs,S)=>some (v::vs,(b'=b)::S)
      |none=>none
     |none=>none
    |some (true,n)=>match Nat.beq o 0 with
     |true=>match Nat.beq cs.length n with
      |true=>match wq T M L rs hs.tail with
       |some (vs,S)=>some (.agg cs.toArray::vs,(b'=b)::S)
       |none=>none
      |false=>none
     |false=>match wq T M L rs hs.tail with
      |some (vs,S)=>some (.agg ((cs.drop o).take n).toArray::vs,(b'=b)::(((cs.drop o).take n).length=n)::S)
      |none=>none
    |none=>none
   |none=>none
  |_=>none
theorem oV {P:Program} {T:Ea} {M:List (Nat×List Value)} {L:dk} {C:List aw} (hT:lL P T) (hM:MM C M): ∀ (rs:List ResultVar) (hs:List Nat) {vs:List Value} {S:List Prop},wq T M L rs hs=some (vs,S)→qi S→HV P L C rs vs
 |[],_,vs,S,h,hS=>by unfold wq at h; cases h; exact trivial
 | .tmp t::rs,hs,vs,S,h,hS=>by
  unfold wq at h
  split at h
  ·rename_i v hv
   split at h
   ·rename_i vs' S' hr
    cases h
    exact ⟨hv,oV hT hM rs hs hr hS⟩
   ·cases h
  ·cases h
 | .cell a t::rs,hs,vs,S,h,hS=>by
  unfold wq at h
  split at h
  ·rename_i b o hl
   split at h
   ·rename_i b' cs hm
    have A:=aS hm
    split at h
    ·rename_i hk
     split at h
     ·rename_i v hv
      split at h
      ·rename_i vs' S' hr
       cases h
       obtain ⟨rfl,hS⟩:=hS
       exact ⟨⟨_,hl,.inr ⟨_,hT.KR hk,hM _ A _ _ (vN hv)⟩⟩,oV hT hM rs _ hr hS⟩
      ·cases h
     ·cases h
    ·rename_i n hk
     split at h
     ·rename_i ho
      split at h
      ·rename_i hn
       split at h
       ·rename_i vs' S' hr
        cases h
        obtain ⟨rfl,hS⟩:=hS
        have D:=Nat.eq_of_beq_eq_true ho
        subst D
        exact ⟨⟨_,hl,.inl ⟨_,cs,hT.KR hk,hM _ A 0 cs sm,Nat.eq_of_beq_eq_true hn,U⟩⟩,oV hT hM rs _ hr hS⟩
       ·cases h
      ·cases h
     ·split at h
      ·rename_i vs' S' hr
       cases h
       obtain ⟨rfl,B,hS⟩:=hS
       exact ⟨⟨_,hl,.inl ⟨_,_,hT.KR hk,hM _ A o _ (by rw [B]),B,U⟩⟩,oV hT hM rs _ hr hS⟩
      ·cases h
    ·cases h
   ·cases h
  ·cases h
section
variable {P:Program} {n:Nat} {fn:Func} {w0:World} {K:Act→World→Prop} {L:List (Nat×Value)} {C:List aw} {M:List (Nat×List Value)} {vs:List Value} {S:List Prop} {u x v:Value}
theorem I3 (hQ: ∀ D L C,LJ ⟨P,none,n,ug,w0⟩ fn (Dc w0 v) D L C→KJ ⟨P,none,n,ug,w0⟩ K D L C) (hs:List Nat) (hM:MM C M) (h:wq TT M L fn.results.toList hs=some ([u],S)) (e:u=v) (hS:qi S:=by repeat' first|exact True.intro |refine ku rfl ?_) (hT:lL P TT:=by exact qq):KJ ⟨P,none,n,ug,w0⟩ K [] L C:=
 hQ _ _ _ (iu (oV hT hM _ _ h hS) fun w hs=>E1 e hs)
theorem lU (hQ: ∀ D L C,LJ ⟨P,none,n,ug,w0⟩ fn (Dc w0 v) D L C→KJ ⟨P,none,n,ug,w0⟩ K D L C) (hs:List Nat) (hM:MM C M) (h:wq TT M L fn.results.toList hs=some (u::x::vs,S)) (e:Value.tuple (u::x::vs).toArray=v) (hS:qi S:=by repeat' first|exact True.intro |refine ku rfl ?_) (hT:lL P TT:=by exact qq):KJ ⟨P,none,n,ug,w0⟩ K [] L C:=
 hQ _ _ _ (iu (oV hT hM _ _ h hS) fun w hs=>E1 e hs)
theorem LX {α:Type} {V:α→Value} {p:α→Prop} {N:α→List aw} (hQ: ∀ D L C,LJ ⟨P,none,n,ug,w0⟩ fn (JG w0 V p N) D L C→KJ ⟨P,none,n,ug,w0⟩ K D L C) (x:α) (is hs:List Nat) (hM:MM C M) (h:wq TT M L fn.results.toList hs=some (vs,S)) (hw:(N x).all (·.wr)=true) (hN:kD C is=N x) (hV:RL vs=V x) (hp:p x) (hn:decide is.Nodup=true:=by rfl) (hS:qi S:=by repeat' first|exact True.intro |refine ku rfl ?_) (hT:lL P TT:=by exact qq):KJ ⟨P,none,n,ug,w0⟩ K [] L C:=
 hQ _ _ _ (iu (oV hT hM _ _ h hS) fun w hs=>Ke x is hV hp hn hN hw hs)
theorem LM {A:aw} {α:Type} {V:α→Value} {p:α→Prop} {A':α→aw} (hQ: ∀ D L C,LJ ⟨P,none,n,⟨A.wf,fun _=>True⟩,w0⟩ fn (Nu w0 A V p A') D L C→KJ ⟨P,none,n,⟨A.wf,fun _=>True⟩,w0⟩ K D L C) (x:α) (i:Nat) (hs:List Nat) (hM:MM C M) (h:wq TT M L fn.results.toList hs=some (vs,S)) (hw:(A' x).wr=true) (hC:C[i]? =some (A' x)) (hV:RL vs=V x) (hp:p x) (hS:qi S:=by repeat' exact True.intro) (hT:lL P TT:=by exact qq):KJ ⟨P,none,n,⟨A.wf,fun _=>True⟩,w0⟩ K [] L C:=
 hQ _ _ _ (iu (oV hT hM _ _ h hS) fun w hs=>TY x i hV hp hC hw hs)
end
end
section
open Go.RowKit
def FT {α:Type _}:List α→List α→Option (List α)
 |[],m=>some m
 |a::l,m=>match FT l m with
  |some r=>some (a::r)
  |none=>none
theorem G8 {α:Type _}: ∀ {l m r:List α},FT l m=some r→l++m=r
 |[],m,r,h=>by cases h; rfl
 |a::l,m,r,h=>by
  unfold FT at h
  split at h
  ·rename_i r' hr
   cases h
   exact congrArg (a:: ·) (G8 hr)
  ·cases h
def UL (L:dk):List Nat→Option (dk)
 |[]=>some []
 |t::ts=>match L.lookup t with
  |some v=>match UL L ts with
   |some r=>some ((t,v)::r)
   |none=>none
  |none=>none
theorem GW {L M:dk} (k:dI L M): ∀ {ts:List Nat} {r:dk},UL L ts=some r→dI L (r++M)
 |[],r,h=>by cases h; exact k
 |t::ts,r,h=>by
  unfold UL at h
  split at h
  ·rename_i v hv
   split at h
   ·rename_i r' hr
    cases h
    exact dI.cons hv (GW k hr)
   ·cases h
  ·cases h
section
variable {E:fr} {Q:db} {D:List Deferred} {L L0:List (Nat×Value)} {C C0:List aw} {ι:Type} {Li:ι→List (Nat×Value)} {Ci:ι→List aw}
theorem bJ {c:Code} (kL kC:List Nat) (hL:UL L kL=some L0) (hC0:lP C kC=some C0) (S:ι→dk) (G:ι→List aw) (hLi: ∀ x,FT L0 (S x)=some (Li x)) (hCi: ∀ x,FT C0 (G x)=some (Ci x)) (μ:ι→Nat) (x0:ι)
 (h0:dI L (S x0)) (hC: ∀ w,St E.S E.w0 C w→St E.S E.w0 (Ci x0) w)
 (round: ∀ x (J:Act→World→Prop),(∀ y D' L' C',D'=D→μ y<μ x→dI L' (Li y)→(∀ w,St E.S E.w0 C' w→St E.S E.w0 (Ci y) w)→KJ E J D' L' C')→WJ E c (Exit.then J Q) D (Li x) (Ci x)):WJ E (.loop c) Q D L C:=
 Qj Li Ci μ x0 (G8 (hLi x0)▸GW h0 hL) hC round
theorem np {x y:Code} (kL kC:List Nat) (hL:UL L kL=some L0) (hC0:lP C kC=some C0) (S:ι→dk) (G:ι→List aw) (hLi: ∀ x,FT L0 (S x)=some (Li x)) (hCi: ∀ x,FT C0 (G x)=some (Ci x))
 (hy: ∀ z,WJ E y Q D (Li z) (Ci z)) (h: ∀ K:Act→World→Prop,(∀ z,KJ E K D (Li z) (Ci z))→WJ E x (Exit.then K Q) D L C):WJ E (.seq x y) Q D L C:=QS Li Ci hy h
end
end
section
open Go.RowKit
set_option linter.unusedSectionVars false
/-- what is asked of keys -/
structure vh (P:Program) (kt:Nat) {K:Type} (kV:K→Value):Prop where
 check: ∀ (e:Bool) (x:K) (w:World),(Instr.checkKey e 10000 kt (kV x)).run P w= .ok () w
 find: ∀ (x:K) (w:World) (es:List MapEntry),(∀ e∈es,∃ k,e.key=kV k)→
  ((Instr.findKey kt (kV x) es).run P w= .ok none w∧ ∀ e∈es,e.key≠kV x)∨ ∃ j e,(Instr.findKey kt (kV x) es).run P w= .ok (some (j,e.val)) w∧es[j]? =some e∧e.key=kV x
 bits: ∀ x,Instr.sameBits 10000 (kV x) (kV x)=true
 inj: ∀ x y,kV x=kV y→x=y
section
variable {K:Type} [DecidableEq K] {kV:K→Value}
def e_ {β:Type} (l:List (K×β)) (x:K) (y:β):List (K×β):=if (l.lookup x).isSome then l.map (fun p=>if p.1=x then (x,y) else p) else l++[(x,y)]
def cH {β:Type} (l:List (K×β)) (x:K):List (K×β):=l.filter fun p=> !decide (p.1=x)
def bW {β γ:Type} (f:β→γ) (l:List (K×β)):List (K×γ):=l.map fun p=>(p.1,f p.2)
theorem IB {β γ:Type} (f:β→γ) (l:List (K×β)):(bW f l).length=l.length:=by simp [bW]
theorem nm {β γ:Type} (f:β→γ) (x:K): ∀ l:List (K×β),(bW f l).lookup x=(l.lookup x).map f
 |[]=>rfl
 |p::l=>by
  obtain ⟨k,v⟩:=p
  have ih:=nm f x l
  by_cases h:x=k
  ·subst h; simp [bW,List.lookup]
  ·have:(x==k)=false:=by simpa using h
   simp only [bW,List.map_cons,List.lookup,this] at ih ⊢
   exact ih
theorem iG {β γ:Type} (f:β→γ) (l:List (K×β)) (x:K) (y:β):bW f (e_ l x y)=e_ (bW f l) x (f y):=by
 unfold e_
 rw [nm,Option.isSome_map]
 split
 ·simp only [bW,List.map_map]
  refine List.map_congr_left fun p _=>?_
  simp only [Function.comp]
  split<;>rfl
 ·simp [bW]
theorem ml {β γ:Type} (f:β→γ) (l:List (K×β)) (x:K):bW f (cH l x)=cH (bW f l) x:=by
 unfold cH bW
 rw [List.filter_map]
 rfl
theorem i_ {β:Type} {x:K}: ∀ {l:List (K×β)},l.lookup x=none↔ ∀ p∈l,p.1≠x
 |[]=>by simp
 |p::l=>by
  obtain ⟨k,v⟩:=p
  by_cases h:x=k
  ·subst h; simp [List.lookup]
  ·have hb:(x==k)=false:=by simpa using h
   simp only [List.lookup,hb,bx,forall_eq_or_imp]
   rw [i_ (l:=l)]
   exact ⟨fun q=>⟨fun e=>h e.symm,q⟩,fun q=>q.2⟩
theorem j7 {β:Type} {x:K} {y:β}: ∀ {l:List (K×β)},(l.map (·.1)).Nodup→((x,y)∈l↔l.lookup x=some y)
 |[],_=>by simp
 |p::l,hn=>by
  obtain ⟨k,v⟩:=p
  simp only [List.map_cons,List.nodup_cons] at hn
  by_cases h:x=k
  ·subst h
   simp only [List.lookup,beq_self_eq_true,bx,Prod.mk.injEq,true_and,Option.some.injEq]
   constructor
   ·rintro (e|e)
    ·exact e.symm
    ·exact absurd (bZ.2 ⟨_,e,U⟩) hn.1
   ·intro e; exact .inl e.symm
  ·have hb:(x==k)=false:=by simpa using h
   simp only [List.lookup,hb,bx,Prod.mk.injEq,h,false_and,false_or]
   exact j7 hn.2
structure jt (kV:K→Value) (es:Array MapEntry) (c:Nat) (m:List (K×Value)):Prop where
 list:es.toList.map (fun (e:MapEntry)=>(e.key,e.val))=m.map (fun p=>(kV p.1,p.2))
 keys:(m.map (·.1)).Nodup
 Ls: ∀ e∈es.toList,e.born<c
 born:(es.toList.map (·.born)).Nodup
def iP (kV:K→Value) (b:Nat) (m:List (K×Value)):aw where
 fJ k:=k=b
 wf k:=k=b
 holds w:= ∃ es c,w.heap[b]? =some (.map es c)∧jt kV es c m
 wr:=true
 kT _ h:=h
 whole _ _ h:=h
 lt w h k hk:=by obtain ⟨es,c,he,_⟩:=h; exact hk▸eD he
 o5 w w' hk h:=by obtain ⟨es,c,he,hm⟩:=h; exact ⟨es,c,(hk b rfl).trans he,hm⟩
theorem jt.nil:jt kV #[] 0 []:=⟨rfl,List.nodup_nil,sm,List.nodup_nil⟩
theorem jt.size {es:Array MapEntry} {c:Nat} {m:List (K×Value)} (h:jt kV es c m):es.size=m.length:=by
 have:=congrArg List.length h.list
 simpa using this
theorem E5 {P:Program} {kt:Nat} (hk:vh P kt kV) (x:K): ∀ (es:List MapEntry) (m:List (K×Value)),es.map (fun (e:MapEntry)=>(e.key,e.val))=m.map (fun p=>(kV p.1,p.2))→
 ((∀ e∈es,e.key≠kV x)→m.lookup x=none)∧ ∀ (j:Nat) (e:MapEntry),es[j]? =some e→e.key=kV x→m[j]? =some (x,e.val):=by
 intro es m h
 refine ⟨fun hn=>i_.2 fun p hp e=>?_,fun j e he hx=>?_⟩
 ·have:(kV p.1,p.2)∈es.map (fun (e:MapEntry)=>(e.key,e.val)):=by rw [h]; exact bZ.2 ⟨p,hp,rfl⟩
  obtain ⟨z,hz,B⟩:=bZ.1 this
  simp only [Prod.mk.injEq] at B
  exact hn z hz (by rw [B.1,e])
 ·have A:(es.map (fun (e:MapEntry)=>(e.key,e.val)))[j]? =some (e.key,e.val):=by rw [eT,he]; rfl
  rw [h,eT] at A
  cases hm:m[j]? with
  |none=>simp [hm] at A
  |some p=>
   simp only [hm,Option.map_some,Option.some.injEq,Prod.mk.injEq] at A
   have:=hk.inj _ _ (A.1.trans hx)
   obtain ⟨k,v⟩:=p
   simp only at this A
   rw [this,A.2]
theorem pg {P:Program} {w:World} {kt:Nat} {x:K} {es:Array MapEntry} {c:Nat} {m:List (K×Value)} (hk:vh P kt kV) (h:jt kV es c m):
 ((Instr.findKey kt (kV x) es.toList).run P w= .ok none w∧m.lookup x=none)∨
 ∃ j v,(Instr.findKey kt (kV x) es.toList).run P w= .ok (some (j,v)) w∧m[j]? =some (x,v)∧m.lookup x=some v:=by
 obtain ⟨D,E⟩:=E5 hk x es.toList m h.list
 rcases hk.find x w es.toList (fun e he=>by
  have:(e.key,e.val)∈m.map (fun p=>(kV p.1,p.2)):=by rw [← h.list]; exact bZ.2 ⟨e,he,rfl⟩
  obtain ⟨p,_,hp⟩:=bZ.1 this
  simp only [Prod.mk.injEq] at hp
  exact ⟨p.1,hp.1.symm⟩) with ⟨A,B⟩|⟨j,e,A,B,C⟩
 ·exact .inl ⟨A,D B⟩
 ·have:=E j e B C
  exact .inr ⟨j,e.val,A,this,(j7 h.keys).1 (aS this)⟩
theorem jg {P:Program} {w:World} {kt:Nat} {x:K} (hk:vh P kt kV) (e:Bool):(Instr.checkKey e 10000 kt (kV x)).run P w= .ok () w:=hk.check e x w
section
variable {E:fr} {ops:Array Oper} {Q:db} {rest:List Oper} {D:List Deferred} {L:List (Nat×Value)} {C:List aw}
variable {dst:Option Tmp} {d:Nat} {ty:TypeId} {ps:String} {af:Array Edge} {g:Option (Nat×Bool)}
theorem pw {t:TypeId} (hg:jS ops L g=true) (hd:Nat.blt d E.n=true) (k: ∀ b,RJ E ops Q rest D ((d,.map (some b))::L) (iP kV b []::C)):RJ E ops Q (⟨some d,.makeMap t none,ty,ps,af,g⟩::rest) D L C:=by
 intro a w B hs
 have hd':d<E.n:=by rw [← Nat.blt_eq]; exact hd
 unfold sB
 rw [if_pos (ek B hg)]
 refine g7 (v:= .map (some w.heap.size)) (w':=w.alloc (.map #[] 0)) sm ?_ ?_
 ·simp [execOp,Instr.makeMap,newObj,Sem.run]
 ·refine k _ _ _ (B.put hd' _) (hs.grow (eh.alloc no w _) (N:=[iP kV w.heap.size []]) ⟨fun A hA=>?_,fun A hA b hb=>?_,List.pairwise_singleton _ _⟩)
  ·simp at hA; subst hA; exact ⟨#[],0,heap_alloc_new w _,jt.nil⟩
  ·simp at hA; subst hA; exact Nat.le_of_eq (Eq.symm hb)
theorem jt.push {es:Array MapEntry} {c:Nat} {m:List (K×Value)} (h:jt kV es c m) {x:K} (hx:m.lookup x=none) (v:Value):jt kV (es.push {key:=kV x,val:=v,born:=c}) (c+1) (m++[(x,v)]):=by
 refine ⟨by simp [h.list],?_,?_,?_⟩
 ·rw [List.map_append,List.nodup_append]
  refine ⟨h.keys,sm,fun a ha b hb=>?_⟩
  simp at hb; subst hb
  obtain ⟨p,hp,rfl⟩:=bZ.1 ha
  exact i_.1 hx p hp
 ·intro e he
  simp only [Array.toList_push,dN,bI] at he
  rcases he with he|rfl
  ·exact Nat.lt_succ_of_lt (h.Ls e he)
  ·exact Nat.lt_succ_self _
 ·simp only [Array.toList_push,List.map_append,List.map_cons,List.map_nil]
  rw [List.nodup_append]
  refine ⟨h.born,sm,fun a ha b hb=>?_⟩
  simp at hb; subst hb
  obtain ⟨p,hp,rfl⟩:=bZ.1 ha
  exact Nat.ne_of_lt (h.Ls p hp)
theorem Oc {m:List (K×Value)} {j:Nat} {x:K} {v0 v:Value} (hn:(m.map (·.1)).Nodup) (hj:m[j]? =some (x,v0)):m.map (fun p=>if p.1=x then (x,v) else p)=m.set j (x,v):=by
 refine List.ext_getElem? fun i=>?_
 rw [eT,List.getElem?_set]
 by_cases e:j=i
 ·subst e
  have hl:=(aV.1 hj).1
  rw [hj]; simp [hl]
 ·rw [if_neg e]
  cases hi:m[i]? with
  |none=>rfl
  |some p=>
   simp only [Option.map_some]
   rw [if_neg]
   intro hp
   have B:(m.map (·.1))[i]? =some x:=by rw [eT,hi]; simp [hp]
   have C:(m.map (·.1))[j]? =some x:=by rw [eT,hj]; rfl
   have A:=(aV.1 B).1
   exact e (((List.getElem?_inj A hn).1 (B.trans C.symm)).symm)
theorem jt.set {es:Array MapEntry} {c:Nat} {m:List (K×Value)} (h:jt kV es c m) {x:K} {j:Nat} {v0:Value} (hj:m[j]? =some (x,v0)) (hx:m.lookup x=some v0) (v:Value):
 jt kV (es.modify j fun e=>{e with key:=kV x,val:=v}) c (e_ m x v):=by
 have C:e_ m x v=m.set j (x,v):=by unfold e_; rw [hx]; simpa using Oc h.keys hj
 have hl:=(aV.1 hj).1
 have E:=h.size
 have A:j<es.size:=by omega
 have B:(es.modify j fun e=>{e with key:=kV x,val:=v}).toList=es.toList.set j {(es[j]) with key:=kV x,val:=v}:=by
  refine List.ext_getElem? fun i=>?_
  rw [Array.getElem?_toList,Array.getElem?_modify,List.getElem?_set]
  by_cases e:j=i
  ·subst e; simp [A]
  ·simp [e]
 have D:(es.toList.set j {(es[j]) with key:=kV x,val:=v}).map (·.born)=es.toList.map (·.born):=by
  rw [List.map_set]
  refine List.ext_getElem? fun i=>?_
  rw [List.getElem?_set]
  by_cases e:j=i
  ·subst e; simp [A]
  ·rw [if_neg e]
 refine ⟨?_,?_,?_,?_⟩
 ·rw [B,C,List.map_set,List.map_set,h.list]
 ·rw [C,List.map_set]
  have:(m.map (·.1)).set j x=m.map (·.1):=by
   refine List.ext_getElem? fun i=>?_
   rw [List.getElem?_set]
   by_cases e:j=i
   ·subst e; simp [hl]; simpa using (congrArg Prod.fst ((aV.1 hj).2)).symm
   ·rw [if_neg e]
  simp only [this]
  exact h.keys
 ·intro e he
  rw [B] at he
  have hb:e.born∈(es.toList.set j {(es[j]) with key:=kV x,val:=v}).map (·.born):=bZ.2 ⟨e,he,rfl⟩
  rw [D] at hb
  obtain ⟨e',he',hq⟩:=bZ.1 hb
  rw [← hq]; exact h.Ls e' he'
 ·rw [B,D]; exact h.born
/-- m[x] = y -/
theorem ks {t kt et:TypeId} {xm xk xv:Operand} {b:Nat} {x:K} {v:Value} {m m':List (K×Value)} {C':List aw} (i:Nat) (hg:jS ops L g=true) (hm:ev L xm=some (.map (some b))) (hk:ev L xk=some (kV x)) (hv:ev L xv=some v)
 (ht:E.P.underlying t=some (.map kt et)) (hkt:vh E.P kt kV) (hC:C[i]? =some (iP kV b m)) (hm':e_ m x v=m') (hC':C.set i (iP kV b m')=C') (k:RJ E ops Q rest D L C'):
 RJ E ops Q (⟨none,.mapUpdate t xm xk xv,ty,ps,af,g⟩::rest) D L C:=by
 subst hm' hC'
 intro a w A hs
 unfold sB
 rw [if_pos (ek A hg)]
 obtain ⟨es,c,he,hi⟩:=hs.holds _ (aS hC)
 have B:(getObj b).run E.P w= .ok (.map es c) w:=MapKept.run_getObj_map he
 rcases pg (P:=E.P) (w:=w) (x:=x) hkt hi with ⟨AA,F⟩|⟨j,N,AA,F,J⟩
 ·refine sf (w':={w with heap:=w.heap.setIfInBounds b (.map (es.push {key:=kV x,val:=v,born:=c}) (c+1))}) sm ?_ ?_
  ·simp [execOp,A.ev hm,A.ev hk,A.ev hv,Instr.mapUpdate,run_underlying ht,B,jg hkt,AA,MapKept.run_setObj_map _ he]
  ·refine k _ _ ⟨A.defers,A.size,A.at_⟩ (hs.D9 (b:=b) i hC U U (nA _) (fun _ h=>h) ⟨_,_,pH he,?_⟩)
   have:e_ m x v=m++[(x,v)]:=by unfold e_; rw [F]; rfl
   rw [this]; exact hi.push F v
 ·have M:=hi.size
  have G:j<es.size:=by have:=(aV.1 F).1; omega
  have H:(es[j]).key=kV x:=by
   have:=congrArg (fun l=>l[j]?) hi.list
   simp [G,F] at this
   exact this.1
  refine sf (w':={w with heap:=w.heap.setIfInBounds b (.map (es.modify j fun e=>{e with key:=kV x,val:=v}) c)}) sm ?_ ?_
  ·simp [execOp,A.ev hm,A.ev hk,A.ev hv,Instr.mapUpdate,run_underlying ht,B,jg hkt,AA,MapKept.run_setObj_map _ he,Instr.keyThatStays,G,H,hkt.bits x]
  ·exact k _ _ ⟨A.defers,A.size,A.at_⟩ (hs.D9 (b:=b) i hC U U (nA _) (fun _ h=>h) ⟨_,_,pH he,hi.set F J v⟩)
theorem jt.del {es:Array MapEntry} {c:Nat} {m:List (K×Value)} (h:jt kV es c m) {x:K} {j:Nat} {v0:Value} (hj:m[j]? =some (x,v0)):jt kV (es.eraseIdxIfInBounds j) c (cH m x):=by
 have hl:=(aV.1 hj).1
 have D:=h.size
 have A:j<es.size:=by omega
 have B:(es.eraseIdxIfInBounds j).toList=es.toList.eraseIdx j:=by simp [Array.eraseIdxIfInBounds,A]
 have E:cH m x=m.eraseIdx j:=by
  have hn:=h.keys
  clear h D A B
  induction m generalizing j with
  |nil=>simp at hj
  |cons p m ih=>
   obtain ⟨k,v⟩:=p
   simp only [List.map_cons,List.nodup_cons] at hn
   cases j with
   |zero=>
    simp at hj
    obtain ⟨rfl,rfl⟩:=hj
    simp only [cH,List.eraseIdx_zero,List.tail_cons]
    rw [List.filter_cons_of_neg sm]
    refine List.filter_eq_self.2 fun p hp=>?_
    have:p.1≠k:=fun e=>hn.1 (bZ.2 ⟨p,hp,e⟩)
    simpa using this
   |succ j=>
    simp only [List.getElem?_cons_succ] at hj
    have C:k≠x:=fun e=>hn.1 (bZ.2 ⟨_,aS hj,e.symm⟩)
    simp only [cH,List.eraseIdx_cons_succ] at ih ⊢
    rw [List.filter_cons_of_pos (by simpa using C),ih hj (by simpa using (aV.1 hj).1) hn.2]
 have sub:(es.eraseIdxIfInBounds j).toList.Sublist es.toList:=by rw [B]; exact List.eraseIdx_sublist _ _
 refine ⟨?_,?_,fun e he=>h.Ls e (sub.subset he),h.born.sublist (sub.map _)⟩
 ·rw [B,E,ChangeMaps.map_eraseIdx,ChangeMaps.map_eraseIdx,h.list]
 ·rw [E]; exact h.keys.sublist ((List.eraseIdx_sublist _ _).map _)
theorem El {m:List (K×Value)} {x:K} (h:m.lookup x=none):cH m x=m:=List.filter_eq_self.2 fun p hp=>by simpa using i_.1 h p hp
/-- y, ok := m[x] -/
theorem Lt {t kt et:TypeId} {xm xk:Operand} {b:Nat} {x:K} {z:Value} {m:List (K×Value)} (hg:jS ops L g=true) (hm:ev L xm=some (.map (some b))) (hk:ev L xk=some (kV x))
 (ht:E.P.underlying t=some (.map kt et)) (hkt:vh E.P kt kV) (hz:tV E.P et=some z) (hC:jh C (iP kV b m).holds):
 SD E ops ⟨dst,.lookup t xm xk true,ty,ps,af,g⟩ D L C (.tuple [(m.lookup x).getD z,.bool (m.lookup x).isSome].toArray):=
 dV hg sm fun a w A hs=>by
  obtain ⟨es,c,he,hi⟩:=hs.has hC
  have B:(getObj b).run E.P w= .ok (.map es c) w:=MapKept.run_getObj_map he
  rcases pg (P:=E.P) (w:=w) (x:=x) hkt hi with ⟨F,G⟩|⟨j,AA,F,G,H⟩
  ·simp [execOp,Instr.lookup,A.ev hm,A.ev hk,run_underlying ht,B,jg hkt,F,G,K7 hz]
  ·simp [execOp,Instr.lookup,A.ev hm,A.ev hk,run_underlying ht,B,jg hkt,F,H]
/-- m[x] -/
theorem Is {t kt et:TypeId} {xm xk:Operand} {b:Nat} {x:K} {z:Value} {m:List (K×Value)} (hg:jS ops L g=true) (hm:ev L xm=some (.map (some b))) (hk:ev L xk=some (kV x))
 (ht:E.P.underlying t=some (.map kt et)) (hkt:vh E.P kt kV) (hz:tV E.P et=some z) (hC:jh C (iP kV b m).holds):
 SD E ops ⟨dst,.lookup t xm xk false,ty,ps,af,g⟩ D L C ((m.lookup x).getD z):=
 dV hg sm fun a w A hs=>by
  obtain ⟨es,c,he,hi⟩:=hs.has hC
  have B:(getObj b).run E.P w= .ok (.map es c) w:=MapKept.run_getObj_map he
  rcases pg (P:=E.P) (w:=w) (x:=x) hkt hi with ⟨F,G⟩|⟨j,AA,F,G,H⟩
  ·simp [execOp,Instr.lookup,A.ev hm,A.ev hk,run_underlying ht,B,jg hkt,F,G,K7 hz]
  ·simp [execOp,Instr.lookup,A.ev hm,A.ev hk,run_underlying ht,B,jg hkt,F,H]
/-- len(m) -/
theorem Kx {t kt et:TypeId} {xm:Operand} {b:Nat} {m:List (K×Value)} (hg:jS ops L g=true) (hm:ev L xm=some (.map (some b))) (ht:E.P.underlying t=some (.map kt et)) (hC:jh C (iP kV b m).holds):
 SD E ops ⟨dst,.call {callee:= .builtin .len,args:= #[xm],argTypes:= #[t]},ty,ps,af,g⟩ D L C (.int .i64 (m.length:Int)):=
 dV hg sm fun a w B hs=>by
  obtain ⟨es,c,he,hi⟩:=hs.has hC
  have A:(getObj b).run E.P w= .ok (.map es c) w:=MapKept.run_getObj_map he
  simp [execOp,resolve,invoke,builtin,B.ev hm,Builtin.len_,run_underlying ht,A,hi.size,goInt]
theorem lf {β:Type} {t kt et:TypeId} {xm xk:Operand} {b:Nat} {x:K} {f:β→Value} {z:β} {l:List (K×β)} (hg:jS ops L g=true) (hm:ev L xm=some (.map (some b))) (hk:ev L xk=some (kV x))
 (ht:E.P.underlying t=some (.map kt et)) (hkt:vh E.P kt kV) (hz:tV E.P et=some (f z)) (hC:jh C (iP kV b (bW f l)).holds):
 SD E ops ⟨dst,.lookup t xm xk true,ty,ps,af,g⟩ D L C (.tuple [f ((l.lookup x).getD z),.bool (l.lookup x).isSome].toArray):=by
 have:=Lt (dst:=dst) (ty:=ty) (ps:=ps) (af:=af) (D:=D) hg hm hk ht hkt hz hC
 rw [nm] at this
 have A:((l.lookup x).map f).getD (f z)=f ((l.lookup x).getD z):=by cases l.lookup x<;>rfl
 rw [A,Option.isSome_map] at this
 exact this
theorem lx {β:Type} {t kt et:TypeId} {xm xk:Operand} {b:Nat} {x:K} {f:β→Value} {z:β} {l:List (K×β)} (hg:jS ops L g=true) (hm:ev L xm=some (.map (some b))) (hk:ev L xk=some (kV x))
 (ht:E.P.underlying t=some (.map kt et)) (hkt:vh E.P kt kV) (hz:tV E.P et=some (f z)) (hC:jh C (iP kV b (bW f l)).holds):
 SD E ops ⟨dst,.lookup t xm xk false,ty,ps,af,g⟩ D L C (f ((l.lookup x).getD z)):=by
 have:=Is (dst:=dst) (ty:=ty) (ps:=ps) (af:=af) (D:=D) hg hm hk ht hkt hz hC
 rw [nm] at this
 have A:((l.lookup x).map f).getD (f z)=f ((l.lookup x).getD z):=by cases l.lookup x<;>rfl
 rw [A] at this
 exact this
theorem Et {β:Type} {t kt et:TypeId} {xm:Operand} {b:Nat} {f:β→Value} {l:List (K×β)} (hg:jS ops L g=true) (hm:ev L xm=some (.map (some b))) (ht:E.P.underlying t=some (.map kt et)) (hC:jh C (iP kV b (bW f l)).holds):
 SD E ops ⟨dst,.call {callee:= .builtin .len,args:= #[xm],argTypes:= #[t]},ty,ps,af,g⟩ D L C (.int .i64 (l.length:Int)):=by
 have:=Kx (dst:=dst) (ty:=ty) (ps:=ps) (af:=af) (D:=D) hg hm ht hC
 rwa [IB] at this
end
theorem fh {β:Type} {x:K} {y:β} {l:List (K×β)} (h:(x,y)∈l):(cH l x).length<l.length:=by
 unfold cH
 exact List.length_filter_lt_length_iff_exists.2 ⟨_,h,sm⟩
theorem kx {β:Type} {x:K} {p:K×β} {l:List (K×β)}:p∈cH l x↔p∈l∧p.1≠x:=by simp [cH]
/-- an iterator over a map: what is left; what came last -/
def zE (kV:K→Value) (r b:Nat) (m left:List (K×Value)) (cur:Option (K×Value)):aw where
 fJ k:=k=r∨k=b
 wf k:=k=r∨k=b
 holds w:=r≠b∧ ∃ (es:Array MapEntry) (c since:Nat) (seen:Array Nat) (st:Nat),w.heap[b]? =some (.map es c)∧jt kV es c m∧w.heap[r]? =some (.mapIter (some b) since seen st)∧(∀ e∈es.toList,e.born<since)∧since≤st∧since≤c∧
  (leftOf es seen).toList.map (fun (e:MapEntry)=>(e.key,e.val))=left.map (fun p=>(kV p.1,p.2))∧
  ∀ p,cur=some p→ ∃ (e:MapEntry) (seen0:Array Nat),e∈es.toList∧seen=seen0.push e.born∧st=c∧e.key=kV p.1∧e.val=p.2
 wr:=true
 kT _ h:=h
 whole _ _ h:=h
 lt w h k hk:=by
  obtain ⟨_,es,c,since,seen,st,h1,_,h2,_⟩:=h
  rcases hk with rfl|rfl
  ·exact eD h2
  ·exact eD h1
 o5 w w' hk h:=by
  obtain ⟨hne,es,c,since,seen,st,h1,h2,h3,h4⟩:=h
  exact ⟨hne,es,c,since,seen,st,(hk b (.inr rfl)).trans h1,h2,(hk r (.inl rfl)).trans h3,h4⟩
theorem wR {r b:Nat} {m left:List (K×Value)} {cur:Option (K×Value)}:(∀ w,(zE kV r b m left cur).holds w→(zE kV r b m left none).holds w)∧(∀ k,(zE kV r b m left none).fJ k→(zE kV r b m left cur).fJ k)∧ ∀ k,(zE kV r b m left none).wf k→(zE kV r b m left cur).wf k:=
 ⟨fun w h=>by
  obtain ⟨A,es,c,since,seen,st,B,C,D,E,F,h5',G,_⟩:=h
  exact ⟨A,es,c,since,seen,st,B,C,D,E,F,h5',G,fun p hp=>by cases hp⟩,fun _ h=>h,fun _ h=>h⟩
theorem KZ {r b:Nat} {m left:List (K×Value)} {cur:Option (K×Value)}:(∀ w,(zE kV r b m left cur).holds w→(iP kV b m).holds w)∧(∀ k,(iP kV b m).fJ k→(zE kV r b m left cur).fJ k)∧ ∀ k,(iP kV b m).wf k→(zE kV r b m left cur).wf k:=
 ⟨fun w h=>by
  obtain ⟨C,es,c,since,seen,st,A,B,_⟩:=h
  exact ⟨es,c,A,B⟩,fun _ h=> .inr h,fun _ h=> .inr h⟩
theorem BV {es:Array MapEntry} {c:Nat} {m:List (K×Value)} (hinj: ∀ x y,kV x=kV y→x=y) (hi:jt kV es c m) {x y:MapEntry} (hx:x∈es.toList) (hy:y∈es.toList) (e:x.key=y.key):x=y:=by
 have hk:(es.toList.map (·.key))=(m.map (·.1)).map kV:=by
  have:=congrArg (List.map Prod.fst) hi.list
  simpa [Function.comp_def] using this
 have h:(es.toList.map (·.key)).Nodup:=by
  rw [hk,List.nodup_iff_pairwise_ne,List.pairwise_map]
  exact hi.keys.imp (fun B he=>B (hinj _ _ he))
 obtain ⟨i,A⟩:=List.getElem?_of_mem hx
 obtain ⟨j,hj⟩:=List.getElem?_of_mem hy
 have C:(es.toList.map (·.key))[i]? =some x.key:=by rw [eT,A]; rfl
 have D:(es.toList.map (·.key))[j]? =some x.key:=by rw [eT,hj,e]; rfl
 have E:=(List.getElem?_inj (aV.1 C).1 h).1 (C.trans D.symm)
 subst E
 exact Option.some.inj (A.symm.trans hj)
section
variable {E:fr} {ops:Array Oper} {Q:db} {rest:List Oper} {D:List Deferred} {L:List (Nat×Value)} {C:List aw}
variable {dst:Option Tmp} {d:Nat} {ty:TypeId} {ps:String} {af:Array Edge} {g:Option (Nat×Bool)}
theorem u6 {t kt et:TypeId} {xm:Operand} {b:Nat} {m:List (K×Value)} (i:Nat) (hg:jS ops L g=true) (hm:ev L xm=some (.map (some b))) (ht:E.P.underlying t=some (.map kt et)) (hC:C[i]? =some (iP kV b m)) (hd:Nat.blt d E.n=true)
 (k: ∀ r,RJ E ops Q rest D ((d,.pointer (some ⟨r,0,none⟩))::L) (C.set i (zE kV r b m m none))):RJ E ops Q (⟨some d,.range t xm,ty,ps,af,g⟩::rest) D L C:=by
 intro a w A hs
 have hd':d<E.n:=by rw [← Nat.blt_eq]; exact hd
 unfold sB
 rw [if_pos (ek A hg)]
 obtain ⟨es,c,he,hi⟩:=hs.holds _ (aS hC)
 have F:b<w.heap.size:=eD he
 have B:(getObj b).run E.P w= .ok (.map es c) w:=MapKept.run_getObj_map he
 refine g7 (v:= .pointer (some ⟨w.heap.size,0,none⟩)) (w':=w.alloc (.mapIter (some b) c #[] c)) sm ?_ ?_
 ·simp [execOp,Instr.range,A.ev hm,run_underlying ht,B,newObj,Sem.run]
 ·refine k _ _ _ (A.put hd' _) (hs.mv i hC ⟨⟨I,es,c,c,#[],c,?_,hi,heap_alloc_new w _,hi.Ls,Nat.le_refl _,Nat.le_refl _,?_,fun p hp=>by cases hp⟩,eh.alloc _ w _,fun q hq=>?_,fun q hq=>?_⟩)
  ·rw [Below.heap_alloc w _ b F]; exact he
  ·have:leftOf es #[]=es:=by unfold leftOf; exact Array.filter_eq_self.2 sm
   rw [this]; exact hi.list
  ·rcases hq with rfl|rfl
   ·exact .inr (Nat.le_refl _)
   ·exact .inl U
  ·rcases hq with rfl|rfl
   ·exact .inr (Nat.le_refl _)
   ·exact .inl U
theorem yF {es:Array MapEntry} {c:Nat} {m left:List (K×Value)} {seen:Array Nat} (hinj: ∀ x y,kV x=kV y→x=y) (hi:jt kV es c m) (h:(leftOf es seen).toList.map (fun (e:MapEntry)=>(e.key,e.val))=left.map (fun p=>(kV p.1,p.2))):(left.map (·.1)).Nodup:=by
 have B:((leftOf es seen).toList.map (·.key)).Sublist (es.toList.map (·.key)):=by
  unfold leftOf; rw [Array.toList_filter]; exact List.filter_sublist.map _
 have D:(es.toList.map (·.key))=(m.map (·.1)).map kV:=by
  have:=congrArg (List.map Prod.fst) hi.list
  simpa [Function.comp_def] using this
 have E:((leftOf es seen).toList.map (·.key))=(left.map (·.1)).map kV:=by
  have:=congrArg (List.map Prod.fst) h
  simpa [Function.comp_def] using this
 rw [D,E] at B
 have F:((m.map (·.1)).map kV).Nodup:=by
  rw [List.nodup_iff_pairwise_ne,List.pairwise_map]
  exact hi.keys.imp (fun A he=>A (hinj _ _ he))
 have C:=F.sublist B
 rw [List.nodup_iff_pairwise_ne,List.pairwise_map] at C
 rw [List.nodup_iff_pairwise_ne]
 exact C.imp (fun A he=>A (by rw [he]))
theorem ME (hinj: ∀ x y,kV x=kV y→x=y) {xi:Operand} {r b:Nat} {m left:List (K×Value)} {cur:Option (K×Value)} (i:Nat) (hg:jS ops L g=true) (hm:ev L xi=some (.pointer (some ⟨r,0,none⟩))) (hC:C[i]? =some (zE kV r b m left cur)) (hd:Nat.blt d E.n=true)
 (k0:left=[]→RJ E ops Q rest D ((d,.tuple [.bool false].toArray)::L) C)
 (k1: ∀ x v,(x,v)∈left→(left.map (·.1)).Nodup→RJ E ops Q rest D ((d,.tuple [.bool true,kV x,v].toArray)::L) (C.set i (zE kV r b m (cH left x) (some (x,v))))):
 RJ E ops Q (⟨some d,.next xi false,ty,ps,af,g⟩::rest) D L C:=by
 intro a w G hs
 have hd':d<E.n:=by rw [← Nat.blt_eq]; exact hd
 unfold sB
 rw [if_pos (ek G hg)]
 obtain ⟨R,es,c,since,seen,st,X,hi,Y,J,V,M,A,_⟩:=hs.holds _ (aS hC)
 rcases run_next_at (P:=E.P) w ty r b since st seen es c Y X J V with ⟨Z,hr⟩|⟨e,he,N,H,hr⟩
 ·refine g7 (v:= .tuple #[.bool false]) (w':=w) sm ?_ ?_
  ·simp [execOp,G.ev hm,hr]
  ·refine k0 ?_ _ _ (G.put hd' _) hs
   have:(leftOf es seen).toList=[]:=by rw [← List.length_eq_zero_iff,Array.length_toList]; exact Z
   rw [this] at A
   exact List.map_eq_nil_iff.1 A.symm
 ·have O:(e.key,e.val)∈left.map (fun p=>(kV p.1,p.2)):=by rw [← A]; exact bZ.2 ⟨e,he,rfl⟩
  obtain ⟨p,hp,S⟩:=bZ.1 O
  obtain ⟨x,v⟩:=p
  simp only [Prod.mk.injEq] at S
  obtain ⟨hk,hv⟩:=S
  refine g7 (v:= .tuple #[.bool true,e.key,e.val]) (w':=ChangeMaps.setBlock N r (.mapIter (some b) since (seen.push e.born) c)) sm ?_ ?_
  ·simp [execOp,G.ev hm,hr]
  ·rw [← hk,← hv]
   have AA:=yF hinj hi A
   have F:e∈es.toList:=by unfold leftOf at he; rw [Array.toList_filter] at he; exact (List.mem_filter.1 he).1
   have f:c=c:=rfl
   have B:N.heap=w.heap:=by rcases H with rfl|rfl<;>rfl
   refine k1 x v hp AA _ _ (G.put hd' _) (hs.mv i hC ⟨⟨R,es,c,since,seen.push e.born,c,?_,hi,?_,J,M,M,?_,fun q hq=>?_⟩,?_,fun q hq=> .inl hq,fun q hq=> .inl hq⟩)
   ·show (N.heap.setIfInBounds r _)[b]? =_
    rw [Array.getElem?_setIfInBounds_ne R,B]; exact X
   ·show (N.heap.setIfInBounds r _)[r]? =_
    rw [Array.getElem?_setIfInBounds_self_of_lt (by rw [B]; exact eD Y)]
   ·have T:leftOf es (seen.push e.born)=(leftOf es seen).filter (fun z=> !(z.born==e.born)):=by
     unfold leftOf
     rw [Array.filter_filter]
     congr 1
     funext z
     simp only [Array.contains_push,Bool.not_or]
     rw [Bool.and_comm]
    rw [T,Array.toList_filter]
    have key: ∀ (l:List MapEntry) (ll:List (K×Value)),(∀ z∈l,z∈es.toList)→l.map (fun (e:MapEntry)=>(e.key,e.val))=ll.map (fun p=>(kV p.1,p.2))→
     (l.filter (fun z=> !(z.born==e.born))).map (fun (e:MapEntry)=>(e.key,e.val))=(cH ll x).map (fun p=>(kV p.1,p.2)):=by
     intro l
     induction l with
     |nil=>intro ll _ h; cases ll with
      |nil=>rfl
      |cons p ll=>simp at h
     |cons z l ih=>
      intro ll hz h
      cases ll with
      |nil=>simp at h
      |cons p ll=>
       simp only [List.map_cons,List.cons.injEq,Prod.mk.injEq] at h
       have ih':=ih ll (fun y hy=>hz y (by simp [hy])) h.2
       have AB:(z.born=e.born)↔(p.1=x):=by
        constructor
        ·intro hb
         have:z=e:=D5 hi.born (hz z sm) F hb
         rw [this] at h
         have:=h.1.1.symm.trans hk.symm
         exact hinj _ _ this
        ·intro hx
         have W:z.key=e.key:=by rw [h.1.1,hx,hk]
         rw [BV hinj hi (hz z sm) F W]
       unfold cH at ih' ⊢
       by_cases hx:p.1=x
       ·rw [List.filter_cons_of_neg (by simp [AB.2 hx]),List.filter_cons_of_neg (by simp [hx])]; exact ih'
       ·rw [List.filter_cons_of_pos (by simpa using fun hb=>hx (AB.1 hb)),List.filter_cons_of_pos (by simpa using hx)]
        simp only [List.map_cons,h.1.1,h.1.2,ih']
    exact key _ _ (fun z hz=>by unfold leftOf at hz; rw [Array.toList_filter] at hz; exact (List.mem_filter.1 hz).1) A
   ·cases hq
    exact ⟨e,seen,F,U,U,hk.symm,hv.symm⟩
   ·refine ⟨?_,?_,?_,?_,fun q hq hn=>?_⟩
    ·rcases H with rfl|rfl<;>rfl
    ·rcases H with rfl|rfl<;>rfl
    ·rcases H with rfl|rfl<;>rfl
    ·show w.heap.size≤(N.heap.setIfInBounds r _).size
     simp [B]
    ·show (N.heap.setIfInBounds r _)[q]? =_
     rw [Array.getElem?_setIfInBounds_ne (fun e=>hn (.inl e.symm)),B]
theorem th {xi:Operand} {r b:Nat} {m left:List (K×Value)} {x:K} {v:Value} (i:Nat) (hg:jS ops L g=true) (hm:ev L xi=some (.pointer (some ⟨r,0,none⟩))) (hC:C[i]? =some (zE kV r b m left (some (x,v)))):
 SD E ops ⟨dst,.entry xi,ty,ps,af,g⟩ D L C (.tuple [kV x,v].toArray):=
 dV hg sm fun a w F hs=>by
  obtain ⟨N,es,c,since,seen,st,J,hi,M,H,O,AA,G,B⟩:=hs.holds _ (aS hC)
  obtain ⟨e,A,he,rfl,rfl,hk,hv⟩:=B _ rfl
  have:=run_entry_at (P:=E.P) w r b since A es st e M J he hi.born
  simp [execOp,F.ev hm,this,hk,hv]
theorem sS (hinj: ∀ x y,kV x=kV y→x=y) {β:Type} {f:β→Value} {xi:Operand} {r b:Nat} {m:List (K×Value)} {ll:List (K×β)} {cur:Option (K×Value)} (i:Nat) (hg:jS ops L g=true) (hm:ev L xi=some (.pointer (some ⟨r,0,none⟩))) (hC:C[i]? =some (zE kV r b m (bW f ll) cur)) (hd:Nat.blt d E.n=true)
 (k0:ll=[]→RJ E ops Q rest D ((d,.tuple [.bool false].toArray)::L) C)
 (k1: ∀ x y,(x,y)∈ll→(ll.map (·.1)).Nodup→RJ E ops Q rest D ((d,.tuple [.bool true,kV x,f y].toArray)::L) (C.set i (zE kV r b m (bW f (cH ll x)) (some (x,f y))))):
 RJ E ops Q (⟨some d,.next xi false,ty,ps,af,g⟩::rest) D L C:=by
 refine ME hinj i hg hm hC hd (fun h=>k0 (List.map_eq_nil_iff.1 h)) (fun x v B hn=>?_)
 obtain ⟨p,hp,A⟩:=bZ.1 B
 simp only [Prod.mk.injEq] at A
 obtain ⟨rfl,rfl⟩:=A
 have:=k1 p.1 p.2 hp (by simpa [bW,Function.comp_def] using hn)
 rwa [ml] at this
end
end
end
section
structure bT where
 Start:Int
 fE:Int
 pq:List Int
 vU:List (List (Int×aa))
 cM:Int
 eg:Int
 M7:Int
def bT.n (w:bT):Nat:=w.pq.length
def fD (s:Int):aC:=if s<0 then ⟨0,1⟩ else ⟨1,0⟩
def dF (a b:aC):aC:=⟨a.right+b.right,a.e9+b.e9⟩
def ui (w:bT) (b:Nat):List (Int×aa):=(w.vU[b]?).getD []
def iN (w:bT) (b:Nat):List (Int×aa):=(-1,⟨w.Start,w.fE⟩)::ui w b
def bM (w:bT) (b:Nat):Int:=(w.pq[b]?).getD 0
def lj (w:bT) (b:Nat) (p:aC×Int) (o:Int×aa):Option (aC×Int):=if max (p.2+bM w b) o.2.Lo≤min o.2.Hi w.fE then some (dF p.1 (fD o.1),max (p.2+bM w b) o.2.Lo) else none
def fwd (w:bT):Nat→List (aC×Int)
 |0=>[(⟨0,0⟩,w.Start)]
 |b+1=>(fwd w b).flatMap fun p=>(iN w b).filterMap (lj w b p)
def oz (w:bT) (b:Nat) (p:aC×Int) (o:Int×aa):Option (aC×Int):=if o.2.Lo≤min p.2 o.2.Hi then some (dF p.1 (fD o.1),min p.2 o.2.Hi-bM w b) else none
def bwd (w:bT):Nat→List (aC×Int)
 |0=>[(⟨0,0⟩,w.fE)]
 |k+1=>(⟨0,0⟩,w.fE)::(bwd w k).flatMap fun p=>(iN w (w.n-(k+1))).filterMap (oz w (w.n-(k+1)) p)
def back (w:bT) (b:Nat):List (aC×Int):=bwd w (w.n-b)
def kI (w:bT) (t:aC):Bool:=decide (t.e9≤w.cM∧w.M7-t.right≤w.eg)
theorem gf {w:bT} {b:Nat} {q:aC×Int}:q∈fwd w (b+1)↔ ∃ p∈fwd w b,∃ o∈iN w b,lj w b p o=some q:=by
 simp only [fwd,List.mem_flatMap,List.mem_filterMap]
theorem vw {w:bT} {b:Nat} (h:w.n≤b):back w b=[(⟨0,0⟩,w.fE)]:=by
 unfold back; rw [Nat.sub_eq_zero_of_le h]; rfl
theorem pb {w:bT} {b:Nat} (h:b<w.n) {q:aC×Int}:q∈back w b↔q=(⟨0,0⟩,w.fE)∨ ∃ p∈back w (b+1),∃ o∈iN w b,oz w b p o=some q:=by
 unfold back
 have e:w.n-b=(w.n-(b+1))+1:=by omega
 rw [e]
 simp only [bwd,bx,List.mem_flatMap,List.mem_filterMap]
 rw [show w.n-(w.n-(b+1)+1)=b by omega]
def uG (m c:List (aC×Int)):Prop:=(∀ t v,m.lookup t=some v→(t,v)∈c)∧ ∀ t y,(t,y)∈c→ ∃ v,m.lookup t=some v∧v≤y
def vC (m c:List (aC×Int)):Prop:=(∀ t v,m.lookup t=some v→(t,v)∈c)∧ ∀ t y,(t,y)∈c→ ∃ v,m.lookup t=some v∧y≤v
def vV (m c:List (aC×Int)):Prop:= ∀ t v,m.lookup t=some v→(t,v)∈c
theorem ng {K β:Type} [DecidableEq K] {m:List (K×β)} {x t:K} {y:β}:(e_ m x y).lookup t=if t=x then some y else m.lookup t:=by
 unfold e_
 by_cases hx:(m.lookup x).isSome
 ·rw [if_pos hx]
  have key: ∀ l:List (K×β),(l.lookup x).isSome∨True→(l.map (fun p=>if p.1=x then (x,y) else p)).lookup t=if t=x then (if (l.lookup x).isSome then some y else none) else l.lookup t:=by
   intro l _
   induction l with
   |nil=>simp
   |cons p l ih=>
    obtain ⟨k,v⟩:=p
    have ih:=ih (.inr trivial)
    by_cases hk:k=x
    ·subst hk
     by_cases ht:t=k
     ·subst ht; simp [List.lookup]
     ·have:(t==k)=false:=by simpa using ht
      simp only [List.map_cons,if_true,List.lookup,this,ih,if_neg ht]
    ·have hk':(x==k)=false:=by simpa using fun e=>hk e.symm
     by_cases ht:t=k
     ·subst ht; simp [List.lookup,hk]
     ·have A:(t==k)=false:=by simpa using ht
      simp only [List.map_cons,if_neg hk,List.lookup,A,ih,hk']
  rw [key m (.inr trivial)]
  by_cases ht:t=x
  ·subst ht
   rw [if_pos rfl,if_pos rfl,if_pos hx]
  ·rw [if_neg ht,if_neg ht]
 ·rw [if_neg hx]
  have hn:m.lookup x=none:=by cases h0:m.lookup x with
   |none=>rfl
   |some v=>exact absurd (by rw [h0]; rfl) hx
  by_cases ht:t=x
  ·subst ht
   rw [if_pos rfl]
   have:=i_.1 hn
   clear hn hx
   induction m with
   |nil=>simp
   |cons p m ih=>
    obtain ⟨k,v⟩:=p
    have hk:(t==k)=false:=by simpa using fun e=>this (k,v) sm e.symm
    simp only [List.cons_append,List.lookup,hk]
    exact ih (fun q hq=>this q (cY _ hq))
  ·rw [if_neg ht]
   clear hn hx
   induction m with
   |nil=>
    have:(t==x)=false:=by simpa using ht
    simp [List.lookup,this]
   |cons p m ih=>
    obtain ⟨k,v⟩:=p
    by_cases hk:t=k
    ·subst hk; simp [List.lookup]
    ·have:(t==k)=false:=by simpa using hk
     simp only [List.cons_append,List.lookup,this]
     exact ih
/-- what a map is after a try -/
def pG (m:List (aC×Int)) (q:aC×Int):List (aC×Int):=match m.lookup q.1 with
 |none=>e_ m q.1 q.2
 |some v=>if q.2<v then e_ m q.1 q.2 else m
def pf (m:List (aC×Int)) (q:aC×Int):List (aC×Int):=match m.lookup q.1 with
 |none=>e_ m q.1 q.2
 |some v=>if v<q.2 then e_ m q.1 q.2 else m
theorem xj {m:List (aC×Int)} {q:aC×Int} {t:aC}:(pG m q).lookup t=if t=q.1 then some (match m.lookup q.1 with |none=>q.2|some v=>min q.2 v) else m.lookup t:=by
 unfold pG
 cases h:m.lookup q.1 with
 |none=>simp only; rw [ng]
 |some v=>
  simp only
  split
  ·rename_i A
   rw [ng,Int.min_eq_left I]
  ·rename_i A
   split
   ·rename_i e; subst e; rw [h,Int.min_eq_right I]
   ·rfl
theorem yO {m:List (aC×Int)} {q:aC×Int} {t:aC}:(pf m q).lookup t=if t=q.1 then some (match m.lookup q.1 with |none=>q.2|some v=>max q.2 v) else m.lookup t:=by
 unfold pf
 cases h:m.lookup q.1 with
 |none=>simp only; rw [ng]
 |some v=>
  simp only
  split
  ·rename_i A
   rw [ng,Int.max_eq_left I]
  ·rename_i A
   split
   ·rename_i e; subst e; rw [h,Int.max_eq_right I]
   ·rfl
def xb (m m':List (aC×Int)):Prop:= ∀ t v,m.lookup t=some v→ ∃ v',m'.lookup t=some v'∧v'≤v
def wZ (m m':List (aC×Int)):Prop:= ∀ t v,m.lookup t=some v→ ∃ v',m'.lookup t=some v'∧v≤v'
theorem xb.refl (m:List (aC×Int)):xb m m:=fun t v h=>⟨v,h,I⟩
theorem wZ.refl (m:List (aC×Int)):wZ m m:=fun t v h=>⟨v,h,I⟩
theorem vX {m:List (aC×Int)} {q:aC×Int}:xb m (pG m q):=fun t v h=>by
 rw [xj]
 split
 ·rename_i e; subst e; rw [h]; exact ⟨_,rfl,by simp only; omega⟩
 ·exact ⟨v,h,I⟩
theorem qJ {m:List (aC×Int)} {q:aC×Int}:wZ m (pf m q):=fun t v h=>by
 rw [yO]
 split
 ·rename_i e; subst e; rw [h]; exact ⟨_,rfl,by simp only; omega⟩
 ·exact ⟨v,h,I⟩
theorem IK {m c:List (aC×Int)} {q:aC×Int} (h:vV m c) (hq:q∈c):vV (pG m q) c:=fun t v hv=>by
 rw [xj] at hv
 split at hv
 ·rename_i e
  subst e
  cases hm:m.lookup q.1 with
  |none=>simp only [hm,Option.some.injEq] at hv; subst hv; exact hq
  |some x=>
   simp only [hm,Option.some.injEq] at hv; subst hv
   rcases Int.lt_or_le q.2 x with A|A
   ·rw [Int.min_eq_left I]; exact hq
   ·rw [Int.min_eq_right I]; exact h _ _ hm
 ·exact h t v hv
theorem HG {m c:List (aC×Int)} {q:aC×Int} (h:vV m c) (hq:q∈c):vV (pf m q) c:=fun t v hv=>by
 rw [yO] at hv
 split at hv
 ·rename_i e
  subst e
  cases hm:m.lookup q.1 with
  |none=>simp only [hm,Option.some.injEq] at hv; subst hv; exact hq
  |some x=>
   simp only [hm,Option.some.injEq] at hv; subst hv
   rcases Int.lt_or_le q.2 x with A|A
   ·rw [Int.max_eq_right I]; exact h _ _ hm
   ·rw [Int.max_eq_left I]; exact hq
 ·exact h t v hv
theorem Hp {m:List (aC×Int)} {q:aC×Int}: ∃ v,(pG m q).lookup q.1=some v∧v≤q.2:=by
 rw [xj,if_pos rfl]
 refine ⟨_,U,?_⟩
 cases m.lookup q.1<;>simp only <;>omega
theorem H0 {m:List (aC×Int)} {q:aC×Int}: ∃ v,(pf m q).lookup q.1=some v∧q.2≤v:=by
 rw [yO,if_pos rfl]
 refine ⟨_,U,?_⟩
 cases m.lookup q.1<;>simp only <;>omega
/-- all that comes of one entry, by some options, is held -/
def jv (w:bT) (b:Nat) (m:List (aC×Int)) (p:aC×Int) (os:List (Int×aa)):Prop:= ∀ o∈os,∀ q,lj w b p o=some q→ ∃ v,m.lookup q.1=some v∧v≤q.2
def jo (w:bT) (b:Nat) (m:List (aC×Int)) (p:aC×Int) (os:List (Int×aa)):Prop:= ∀ o∈os,∀ q,oz w b p o=some q→ ∃ v,m.lookup q.1=some v∧q.2≤v
theorem jv.lower {w:bT} {b:Nat} {m m':List (aC×Int)} {p:aC×Int} {os:List (Int×aa)} (h:jv w b m p os) (hl:xb m m'):jv w b m' p os:=fun o ho q hq=>by
 obtain ⟨v,A,C⟩:=h o ho q hq
 obtain ⟨v',B,D⟩:=hl _ _ A
 exact ⟨v',B,I⟩
theorem jo.upper {w:bT} {b:Nat} {m m':List (aC×Int)} {p:aC×Int} {os:List (Int×aa)} (h:jo w b m p os) (hl:wZ m m'):jo w b m' p os:=fun o ho q hq=>by
 obtain ⟨v,A,C⟩:=h o ho q hq
 obtain ⟨v',B,D⟩:=hl _ _ A
 exact ⟨v',B,I⟩
theorem jv.sub {w:bT} {b:Nat} {m:List (aC×Int)} {p:aC×Int} {os os':List (Int×aa)} (h:jv w b m p os) (hs: ∀ o∈os',o∈os):jv w b m p os':=fun o ho=>h o (hs o ho)
theorem jo.sub {w:bT} {b:Nat} {m:List (aC×Int)} {p:aC×Int} {os os':List (Int×aa)} (h:jo w b m p os) (hs: ∀ o∈os',o∈os):jo w b m p os':=fun o ho=>h o (hs o ho)
theorem jv.add {w:bT} {b:Nat} {m m':List (aC×Int)} {p:aC×Int} {os:List (Int×aa)} {o:Int×aa} (h:jv w b m p os) (hl:xb m m') (hn: ∀ q,lj w b p o=some q→ ∃ v,m'.lookup q.1=some v∧v≤q.2):jv w b m' p (os++[o]):=fun o' ho q hq=>by
 rcases dN.1 ho with ho|ho
 ·exact h.lower hl o' ho q hq
 ·simp only [bI] at ho; subst ho; exact hn q hq
theorem jo.add {w:bT} {b:Nat} {m m':List (aC×Int)} {p:aC×Int} {os:List (Int×aa)} {o:Int×aa} (h:jo w b m p os) (hl:wZ m m') (hn: ∀ q,oz w b p o=some q→ ∃ v,m'.lookup q.1=some v∧q.2≤v):jo w b m' p (os++[o]):=fun o' ho q hq=>by
 rcases dN.1 ho with ho|ho
 ·exact h.upper hl o' ho q hq
 ·simp only [bI] at ho; subst ho; exact hn q hq
theorem fI {m:List (aC×Int)} (hn:(m.map (·.1)).Nodup) {t:aC} {v:Int}:(t,v)∈m↔m.lookup t=some v:=j7 hn
theorem o_ {z t:aC} {x v:Int}:List.lookup t [(z,x)]=some v↔t=z∧v=x:=by
 by_cases e:t=z
 ·subst e; simp [List.lookup,eq_comm]
 ·have:(t==z)=false:=by simpa using e
  simp [List.lookup,this,e]
theorem Im {w:bT}:uG [(⟨0,0⟩,w.Start)] (fwd w 0):=by
 refine ⟨fun t v h=>?_,fun t y h=>?_⟩
 ·obtain ⟨rfl,rfl⟩:=o_.1 h
  simp [fwd]
 ·simp only [fwd,bI,Prod.mk.injEq] at h
  obtain ⟨rfl,rfl⟩:=h
  exact ⟨w.Start,o_.2 ⟨U,U⟩,Int.le_refl _⟩
theorem KB {w:bT} {b:Nat} {mb m:List (aC×Int)} (hn:(mb.map (·.1)).Nodup) (h:uG mb (fwd w b)) (hs:vV m (fwd w (b+1))) (hd: ∀ p∈mb,jv w b m p (iN w b)):uG m (fwd w (b+1)):=⟨hs,fun t y hy=>by
 obtain ⟨p,hp,o,ho,e⟩:=gf.1 hy
 obtain ⟨v,B,E⟩:=h.2 p.1 p.2 hp
 unfold lj at e
 split at e
 ·rename_i D
  simp only [Option.some.injEq,Prod.mk.injEq] at e
  obtain ⟨v',A,C⟩:=hd (p.1,v) ((fI hn).2 B) o ho (dF p.1 (fD o.1),max (v+bM w b) o.2.Lo) (by unfold lj; rw [if_pos (by simp only; omega)])
  simp only at A C
  rw [e.1] at A
  exact ⟨v',A,I⟩
 ·cases e⟩
theorem I6 {w:bT} {b:Nat} (hb:w.n≤b):vC [(⟨0,0⟩,w.fE)] (back w b):=by
 rw [vw hb]
 refine ⟨fun t v h=>?_,fun t y h=>?_⟩
 ·obtain ⟨rfl,rfl⟩:=o_.1 h
  simp
 ·simp only [bI,Prod.mk.injEq] at h
  obtain ⟨rfl,rfl⟩:=h
  exact ⟨w.fE,o_.2 ⟨U,U⟩,Int.le_refl _⟩
theorem Js {w:bT} {b:Nat} (hb:b<w.n) {mb m:List (aC×Int)} (hn:(mb.map (·.1)).Nodup) (h:vC mb (back w (b+1))) (hs:vV m (back w b)) (h0: ∃ v,m.lookup ⟨0,0⟩=some v∧w.fE≤v) (hd: ∀ p∈mb,jo w b m p (iN w b)):vC m (back w b):=⟨hs,fun t y hy=>by
 rcases (pb hb).1 hy with e|⟨p,hp,o,ho,e⟩
 ·simp only [Prod.mk.injEq] at e
  obtain ⟨rfl,rfl⟩:=e
  exact h0
 obtain ⟨v,B,E⟩:=h.2 p.1 p.2 hp
 unfold oz at e
 split at e
 ·rename_i D
  simp only [Option.some.injEq,Prod.mk.injEq] at e
  obtain ⟨v',A,C⟩:=hd (p.1,v) ((fI hn).2 B) o ho (dF p.1 (fD o.1),min v o.2.Hi-bM w b) (by unfold oz; rw [if_pos (by simp only; omega)])
  simp only at A C
  rw [e.1] at A
  exact ⟨v',A,I⟩
 ·cases e⟩
end
section
def jP (w:bT) (b:Nat) (p u:aC×Int) (o:Int×aa):aa:=⟨max (p.2+bM w b) o.2.Lo,min u.2 o.2.Hi⟩
def yj (p u:aC×Int) (o:Int×aa):aC:=dF (dF p.1 u.1) (fD o.1)
def mS (w:bT) (b:Nat) (p u:aC×Int) (o:Int×aa):Option (Int×aa):=if (jP w b p u o).Lo≤(jP w b p u o).Hi∧kI w (yj p u o)=true then some (o.1,jP w b p u o) else none
def qn (w:bT) (b:Nat) (mf mb:List (aC×Int)):List (Int×aa):=(iN w b).flatMap fun o=>mf.flatMap fun p=>mb.filterMap fun u=>mS w b p u o
def fM (w:bT) (b:Nat):List (Int×aa):=qn w b (fwd w b) (back w (b+1))
theorem iB {w:bT} {b:Nat} {mf mb:List (aC×Int)} {q:Int×aa}:q∈qn w b mf mb↔ ∃ o∈iN w b,∃ p∈mf,∃ u∈mb,mS w b p u o=some q:=by
 simp only [qn,List.mem_flatMap,List.mem_filterMap]
theorem jG {w:bT} {b:Nat} {p u:aC×Int} {o q:Int×aa}:mS w b p u o=some q↔(jP w b p u o).Lo≤(jP w b p u o).Hi∧kI w (yj p u o)=true∧q=(o.1,jP w b p u o):=by
 unfold mS
 split
 ·rename_i h
  simp only [Option.some.injEq]
  exact ⟨fun e=>⟨h.1,h.2,e.symm⟩,fun e=>e.2.2.symm⟩
 ·rename_i h
  simp only [reduceCtorEq,false_iff]
  exact fun e=>h ⟨e.1,e.2.1⟩
theorem iR {w:bT} {b:Nat} {mf mb:List (aC×Int)} {q:Int×aa} (h:q∈qn w b mf mb):q.2.Lo≤q.2.Hi:=by
 obtain ⟨o,_,p,_,u,_,e⟩:=iB.1 h
 obtain ⟨A,_,rfl⟩:=jG.1 e
 exact A
/-- what the maps tell is what all ways tell -/
theorem Oi {w:bT} {b:Nat} {mf mb:List (aC×Int)} (hf:uG mf (fwd w b)) (hb:vC mb (back w (b+1))) (nf:(mf.map (·.1)).Nodup) (nb:(mb.map (·.1)).Nodup) {q:Int×aa} (h:q∈qn w b mf mb):q∈fM w b:=by
 obtain ⟨o,ho,p,hp,u,hu,e⟩:=iB.1 h
 exact iB.2 ⟨o,ho,p,hf.1 _ _ ((fI nf).1 hp),u,hb.1 _ _ ((fI nb).1 hu),e⟩
theorem M4 {w:bT} {b:Nat} {mf mb:List (aC×Int)} (hf:uG mf (fwd w b)) (hb:vC mb (back w (b+1))) (nf:(mf.map (·.1)).Nodup) (nb:(mb.map (·.1)).Nodup) {q:Int×aa} (h:q∈fM w b): ∃ q'∈qn w b mf mb,q'.1=q.1∧q'.2.Lo≤q.2.Lo∧q.2.Hi≤q'.2.Hi:=by
 obtain ⟨o,ho,p,hp,u,hu,e⟩:=iB.1 h
 obtain ⟨A,B,rfl⟩:=jG.1 e
 obtain ⟨v,hv,C⟩:=hf.2 p.1 p.2 hp
 obtain ⟨y,hy,D⟩:=hb.2 u.1 u.2 hu
 simp only [jP] at A
 refine ⟨(o.1,jP w b (p.1,v) (u.1,y) o),iB.2 ⟨o,ho,(p.1,v),(fI nf).2 hv,(u.1,y),(fI nb).2 hy,jG.2 ⟨?_,B,U⟩⟩,U,?_,?_⟩
 ·simp only [jP]; omega
 ·simp only [jP]; omega
 ·simp only [jP]; omega
def jk:aa:=⟨1,0⟩
def mV (h x:aa):aa:=if h=jk then x else ⟨min x.Lo h.Lo,max x.Hi h.Hi⟩
def iS (l:List (Int×aa)):aa:=l.foldl (fun h q=>mV h q.2) jk
structure mZ (l:List (Int×aa)) (h:aa):Prop where
 le:h.Lo≤h.Hi
 lo: ∃ x∈l,x.2.Lo=h.Lo
 hi: ∃ x∈l,x.2.Hi=h.Hi
 all: ∀ x∈l,h.Lo≤x.2.Lo∧x.2.Hi≤h.Hi
def kO (l:List (Int×aa)) (h:aa):Prop:=(l=[]∧h=jk)∨mZ l h
theorem mZ.ne {l:List (Int×aa)} {h:aa} (hh:mZ l h):h≠jk:=fun e=>by
 have:=hh.le; rw [e] at this; simp [jk] at this
theorem CW:kO [] jk:= .inl ⟨rfl,rfl⟩
theorem u7 {l:List (Int×aa)} {h:aa} {q:Int×aa} (hh:kO l h) (hq:q.2.Lo≤q.2.Hi):kO (l++[q]) (mV h q.2):=by
 right
 rcases hh with ⟨rfl,rfl⟩|hh
 ·unfold mV
  rw [if_pos rfl]
  exact ⟨hq,⟨q,sm,rfl⟩,⟨q,sm,rfl⟩,fun x hx=>by simp at hx; subst hx; exact ⟨Int.le_refl _,Int.le_refl _⟩⟩
 ·unfold mV
  rw [if_neg hh.ne]
  have A:=hh.le
  obtain ⟨a,ha,ea⟩:=hh.lo
  obtain ⟨c,hc,ec⟩:=hh.hi
  refine ⟨by simp only; omega,?_,?_,fun x hx=>?_⟩
  ·rcases Int.lt_or_le q.2.Lo h.Lo with p|p
   ·exact ⟨q,sm,by simp only; omega⟩
   ·exact ⟨a,by simp [ha],by simp only; omega⟩
  ·rcases Int.lt_or_le h.Hi q.2.Hi with p|p
   ·exact ⟨q,sm,by simp only; omega⟩
   ·exact ⟨c,by simp [hc],by simp only; omega⟩
  ·rcases dN.1 hx with hx|hx
   ·have:=hh.all x hx; simp only; omega
   ·simp at hx; subst hx; simp only; omega
theorem qC {l:List (Int×aa)} (hl: ∀ q∈l,q.2.Lo≤q.2.Hi):kO l (iS l):=by
 have key: ∀ (r d:List (Int×aa)) (h:aa),(∀ q∈r,q.2.Lo≤q.2.Hi)→kO d h→kO (d++r) (r.foldl (fun h q=>mV h q.2) h):=by
  intro r
  induction r with
  |nil=>intro d h _ hd; simpa using hd
  |cons q r ih=>
   intro d h hr hd
   have:=ih (d++[q]) (mV h q.2) (fun x hx=>hr x (cY _ hx)) (u7 hd (hr q sm))
   simpa using this
 have:=key l [] jk hl CW
 rw [List.nil_append] at this
 exact this
def Fh (a b:List (Int×aa)):Prop:= ∀ x∈b,∃ y∈a,y.2.Lo≤x.2.Lo∧x.2.Hi≤y.2.Hi
theorem OT {a b:List (Int×aa)} {h k:aa} (ha:kO a h) (hb:kO b k) (hab:Fh a b) (hba:Fh b a):h=k:=by
 rcases ha with ⟨rfl,rfl⟩|ha
 ·rcases hb with ⟨rfl,rfl⟩|hb
  ·rfl
  ·obtain ⟨x,hx,_⟩:=hb.lo
   obtain ⟨y,hy,_⟩:=hab x hx
   cases hy
 ·rcases hb with ⟨rfl,rfl⟩|hb
  ·obtain ⟨x,hx,_⟩:=ha.lo
   obtain ⟨y,hy,_⟩:=hba x hx
   cases hy
  ·have le: ∀ {a b:List (Int×aa)} {h k:aa},mZ a h→mZ b k→Fh a b→h.Lo≤k.Lo∧k.Hi≤h.Hi:=fun {a b h k} ha hb hab=>by
    obtain ⟨x,hx,ex⟩:=hb.lo
    obtain ⟨z,hz,ez⟩:=hb.hi
    obtain ⟨y,hy,ey⟩:=hab x hx
    obtain ⟨y',hy',ey'⟩:=hab z hz
    have A:=ha.all y hy
    have B:=ha.all y' hy'
    omega
   have A:=le ha hb hab
   have B:=le hb ha hba
   rw [aa.ext_iff]; omega
theorem zO {w:bT} {b:Nat} {mf mb:List (aC×Int)} {l:List (Int×aa)} {h:aa} (hf:uG mf (fwd w b)) (hb:vC mb (back w (b+1))) (nf:(mf.map (·.1)).Nodup) (nb:(mb.map (·.1)).Nodup)
 (hl: ∀ q∈l,q∈qn w b mf mb) (hl2: ∀ q∈qn w b mf mb,q∈l) (hh:kO l h):h=iS (fM w b):=
 OT hh (qC fun q hq=>iR hq) (fun x hx=>by
  obtain ⟨q,hq,_,A,B⟩:=M4 hf hb nf nb hx
  exact ⟨q,hl2 q hq,A,B⟩) (fun x hx=>⟨x,Oi hf hb nf nb (hl x hx),Int.le_refl _,Int.le_refl _⟩)
def jH (w:bT) (m:List (aC×Int)):Bool:=m.any fun p=>kI w p.1
theorem DR {w:bT} {b:Nat} {m:List (aC×Int)} (h:uG m (fwd w b)) (nf:(m.map (·.1)).Nodup):jH w m=jH w (fwd w b):=by
 unfold jH
 rw [Bool.eq_iff_iff,List.any_eq_true,List.any_eq_true]
 constructor
 ·rintro ⟨p,hp,A⟩
  exact ⟨p,h.1 _ _ ((fI nf).1 hp),A⟩
 ·rintro ⟨p,hp,A⟩
  obtain ⟨v,hv,_⟩:=h.2 p.1 p.2 hp
  exact ⟨(p.1,v),(fI nf).2 hv,A⟩
def kK (w:bT) (k:Nat):List Int:=((List.range k).filter fun i=>jH w (fwd w i)).map fun (i:Nat)=>(i:Int)
def jZ (w:bT):List Int:=kK w (w.n+1)
theorem E9 {w:bT} {k:Nat} (h:jH w (fwd w k)=true):kK w (k+1)=kK w k++[(k:Int)]:=by simp [kK,List.range_succ,h]
theorem HQ {w:bT} {k:Nat} (h:jH w (fwd w k)=false):kK w (k+1)=kK w k:=by simp [kK,List.range_succ,h]
theorem w6 {w:bT} {k:Nat}:(kK w k).length≤k:=by
 unfold kK
 rw [List.length_map]
 exact Nat.le_trans (List.length_filter_le _ _) sm
end
section
open Go.RowKit
theorem Ip {P:Program} {t:Nat} {k:IntKind} (hu:P.underlying t=some (.int k)) (e:Bool) (n:Nat) (v:Value) (w:World):(Instr.checkKey e (n+1) t v).run P w= .ok () w:=by
 unfold Instr.checkKey
 simp only [Sem.run_bind,run_underlying hu,Result.andThen]
 cases v<;>rfl
theorem BG {P:Program} {kt:Nat} {l:List (Nat×Nat)} (hl:fL P kt=some l) (e:Bool) (n:Nat) (cs:Array Value) (w:World)
 (hf: ∀ p∈l,(∃ v,(part p.1 cs p.2).run P w= .ok v w)∧ ∃ k,P.underlying p.1=some (.int k)):(Instr.checkKey e (n+2) kt (.agg cs)).run P w= .ok () w:=by
 unfold fL at hl
 cases hu:P.underlying kt with
 |none=>simp [hu] at hl
 |some d=>
  cases d<;>simp [hu] at hl
  rename_i fs
  obtain ⟨hn,hl⟩:=hl
  rw [show n+2=(n+1)+1 from rfl,Instr.checkKey]
  simp only [Sem.run_bind,run_underlying hu,Result.andThen_ok]
  rw [← Array.forIn_toList]
  have A: ∀ f∈fs.toList,(∃ v,(part f.type cs f.offset).run P w= .ok v w)∧ ∃ k,P.underlying f.type=some (.int k):=fun f hf'=>hf (f.type,f.offset) (by rw [← hl]; exact bZ.2 ⟨f,hf',rfl⟩)
  have B: ∀ f∈fs.toList,f.name≠"_":=fun f hf'=>by
   obtain ⟨i,hi,rfl⟩:=List.getElem_of_mem hf'
   exact hn.1.1 i (by simpa using hi)
  clear hl hn hf
  generalize fs.toList=L at A B
  induction L with
  |nil=>simp
  |cons f L ih=>
   obtain ⟨⟨v,hv⟩,k,hk⟩:=A f sm
   have C:=B f sm
   simp only [List.forIn_cons,Sem.run_bind,C,ne_eq,not_false_eq_true,if_true,Result.andThen_ok,hv,Ip hk,Sem.run_pure]
   exact ih (fun y hy=>A y (by simp [hy])) (fun y hy=>B y (by simp [hy]))
theorem Dq {P:Program} {kt:Nat} {K:Type} [DecidableEq K] {kV:K→Value} (hw: ∀ (k:Value) (es:List MapEntry) (w:World),(Instr.findKey kt k es).run P w=(Instr.findAsking kt k es).run P w)
 (heq: ∀ x y w,(Op.equal kt (kV x) (kV y)).run P w= .ok (decide (x=y)) w) (inj: ∀ x y,kV x=kV y→x=y) (x:K) (w:World) (es:List MapEntry) (hk: ∀ e∈es,∃ k,e.key=kV k):
 ((Instr.findKey kt (kV x) es).run P w= .ok none w∧ ∀ e∈es,e.key≠kV x)∨ ∃ j e,(Instr.findKey kt (kV x) es).run P w= .ok (some (j,e.val)) w∧es[j]? =some e∧e.key=kV x:=by
 have key: ∀ (es:List MapEntry) (i:Nat),(∀ e∈es,∃ k,e.key=kV k)→((Instr.findAsking kt (kV x) es i).run P w= .ok none w∧ ∀ e∈es,e.key≠kV x)∨ ∃ j e,(Instr.findAsking kt (kV x) es i).run P w= .ok (some (i+j,e.val)) w∧es[j]? =some e∧e.key=kV x:=by
  intro es
  induction es with
  |nil=>intro i _; exact .inl ⟨by simp [Instr.findAsking],sm⟩
  |cons e es ih=>
   intro i B
   obtain ⟨k,A⟩:=B e sm
   by_cases h:x=k
   ·refine .inr ⟨0,e,?_,U,by rw [A,h]⟩
    subst h
    simp [Instr.findAsking,A,heq]
   ·rcases ih (i+1) (fun y hy=>B y (by simp [hy])) with ⟨C,D⟩|⟨j,e',C,D,E⟩
    ·refine .inl ⟨by simp [Instr.findAsking,A,heq,h,C],fun y hy=>?_⟩
     rcases bx.1 hy with rfl|hy
     ·rw [A]; exact fun q=>h (inj _ _ q).symm
     ·exact D y hy
    ·exact .inr ⟨j+1,e',by simp [Instr.findAsking,A,heq,h,C]; omega,by simpa using D,E⟩
 rw [hw]
 rcases key es 0 hk with h|⟨j,e,C,D,E⟩
 ·exact .inl h
 ·exact .inr ⟨j,e,by simpa using C,D,E⟩
theorem Fs {P:Program} {kt:Nat} {l:List (Nat×Nat)} (hl:fL P kt=some l) (k:Value) (es:List MapEntry) (w:World):(Instr.findKey kt k es).run P w=(Instr.findAsking kt k es).run P w:=by
 refine run_findKey_eq w ?_ k es
 unfold fL at hl
 cases hu:P.underlying kt with
 |none=>simp [hu] at hl
 |some d=>cases d<;>simp [hu] at hl ⊢
theorem OE {P:Program} {kt:Nat} {K:Type} [DecidableEq K] {kV:K→Value} {l:List (Nat×Nat)} (hl:fL P kt=some l) (heq: ∀ x y w,(Op.equal kt (kV x) (kV y)).run P w= .ok (decide (x=y)) w) (inj: ∀ x y,kV x=kV y→x=y)
 (hb: ∀ x,Instr.sameBits 10000 (kV x) (kV x)=true) (hp: ∀ x w,∃ cs,kV x= .agg cs∧ ∀ p∈l,(∃ v,(part p.1 cs p.2).run P w= .ok v w)∧ ∃ k,P.underlying p.1=some (.int k)):vh P kt kV:=
 ⟨fun e x w=>by obtain ⟨cs,A,B⟩:=hp x w; rw [A]; exact BG hl e 9998 cs w B,fun x w es=>Dq (Fs hl) heq inj x w es,hb,inj⟩
end
section
open Go.RowKit
set_option linter.unusedSectionVars false
theorem eZ {P:Program} {kt:Nat} (hk:P.underlying kt=some (.int .i64)):vh P kt (Value.int .i64):=by
 refine ⟨fun e x w=>H7 hk e,fun x w es A=>?_,fun x=>by simp [Instr.sameBits],fun x y h=>by injection h⟩
 have key: ∀ (es:List MapEntry) (i:Nat),(∀ e∈es,∃ k:Int,e.key= .int .i64 k)→(Instr.findNow (.int .i64) (.int .i64 x) es i=some none∧ ∀ e∈es,e.key≠ .int .i64 x)∨ ∃ j e,Instr.findNow (.int .i64) (.int .i64 x) es i=some (some (i+j,e.val))∧es[j]? =some e∧e.key= .int .i64 x:=by
  intro es
  induction es with
  |nil=>intro i _; exact .inl ⟨rfl,sm⟩
  |cons e es ih=>
   intro i A
   obtain ⟨k,B⟩:=A e sm
   by_cases h:x=k
   ·subst h
    exact .inr ⟨0,e,by simp [Instr.findNow,Instr.sameNow,B],U,B⟩
   ·have hb:(x==k)=false:=by simpa using h
    rcases ih (i+1) (fun y hy=>A y (by simp [hy])) with ⟨C,D⟩|⟨j,e',C,D,E⟩
    ·refine .inl ⟨by simp [Instr.findNow,Instr.sameNow,B,hb,C],fun y hy=>?_⟩
     rcases bx.1 hy with rfl|hy
     ·rw [B]; intro q; injection q with _ q; exact h q.symm
     ·exact D y hy
    ·refine .inr ⟨j+1,e',?_,by simpa using D,E⟩
     simp only [Instr.findNow,Instr.sameNow,B,hb,if_true,C]
     simp; omega
 rcases key es 0 A with ⟨C,D⟩|⟨j,e,C,D,E⟩
 ·exact .inl ⟨MapKept.run_findKey hk C,D⟩
 ·exact .inr ⟨j,e,MapKept.run_findKey hk (by simpa using C),D,E⟩
theorem St.NN {S:BS} {w0 w w':World} {C:List aw} {A N:aw} (h:St S w0 C w) (i:Nat) (hA:C[i]? =some A) (k:eh no w w') (hN:N.holds w') (hf: ∀ b,N.fJ b→w.heap.size≤b∨A.fJ b∧ ¬ A.wf b∧ ¬ N.wf b):St S w0 (N::C) w':=by
 have h':=h.same k
 have G:=aS hA
 have hi:=(aV.1 hA).1
 have B:C[i]=A:=(aV.1 hA).2
 refine ⟨h'.keeps,fun X hX=>?_,List.Pairwise.cons (fun X hX b hb hb'=>?_) h'.sep,fun X hX b hb=>?_,fun X hX b hb=>?_⟩
 ·rcases bx.1 hX with rfl|hX
  ·exact hN
  ·exact h'.holds X hX
 ·rcases hf b hb with E|⟨E,AA,H⟩
  ·have:=X.lt w (h.holds X hX) b hb'; omega
  ·refine ⟨H,?_⟩
   obtain ⟨j,hj,D⟩:=List.mem_iff_getElem.1 hX
   by_cases e:j=i
   ·subst e; rw [← D,B]; exact AA
   ·rcases Nat.lt_or_gt_of_ne e with F|F
    ·have:=eV.1 h.sep j i hj hi F b (by rw [D]; exact hb') (by rw [B]; exact E)
     rw [← D]; exact this.1
    ·have:=eV.1 h.sep i j hi hj F b (by rw [B]; exact E) (by rw [D]; exact hb')
     rw [← D]; exact this.2
 ·rcases bx.1 hX with rfl|hX
  ·rcases hf b (X.kT b hb) with E|⟨_,_,H⟩
   ·exact .inl (Nat.le_trans h.keeps.size E)
   ·exact absurd hb H
  ·exact h'.own X hX b hb
 ·rcases bx.1 hX with rfl|hX
  ·rcases hf b hb with E|⟨E,_,_⟩
   ·exact .inl (Nat.le_trans h.keeps.size E)
   ·exact h.seen A G b E
  ·exact h'.seen X hX b hb
section
variable {K:Type} [DecidableEq K] {kV:K→Value}
/-- an iterator over a map that is read alone -/
def zm (kV:K→Value) (r b:Nat) (m left:List (K×Value)) (cur:Option (K×Value)):aw where
 fJ k:=k=r∨k=b
 wf k:=k=r
 holds w:=r≠b∧ ∃ (es:Array MapEntry) (c since:Nat) (seen:Array Nat) (st:Nat),w.heap[b]? =some (.map es c)∧jt kV es c m∧w.heap[r]? =some (.mapIter (some b) since seen st)∧(∀ e∈es.toList,e.born<since)∧since≤st∧since≤c∧
  (leftOf es seen).toList.map (fun (e:MapEntry)=>(e.key,e.val))=left.map (fun p=>(kV p.1,p.2))∧
  ∀ p,cur=some p→ ∃ (e:MapEntry) (seen0:Array Nat),e∈es.toList∧seen=seen0.push e.born∧st=c∧e.key=kV p.1∧e.val=p.2
 wr:=false
 kT _ h:= .inl h
 whole h:=by cases h
 lt w h k hk:=by
  obtain ⟨_,es,c,since,seen,st,h1,_,h2,_⟩:=h
  rcases hk with rfl|rfl
  ·exact eD h2
  ·exact eD h1
 o5 w w' hk h:=by
  obtain ⟨hne,es,c,since,seen,st,h1,h2,h3,h4⟩:=h
  exact ⟨hne,es,c,since,seen,st,(hk b (.inr rfl)).trans h1,h2,(hk r (.inl rfl)).trans h3,h4⟩
theorem fQ {r b:Nat} {m left:List (K×Value)} {cur:Option (K×Value)}:(∀ w,(zm kV r b m left cur).holds w→(zm kV r b m left none).holds w)∧(∀ k,(zm kV r b m left none).fJ k→(zm kV r b m left cur).fJ k)∧ ∀ k,(zm kV r b m left none).wf k→(zm kV r b m left cur).wf k:=
 ⟨fun w h=>by
  obtain ⟨A,es,c,since,seen,st,B,C,D,E,F,h5',G,_⟩:=h
  exact ⟨A,es,c,since,seen,st,B,C,D,E,F,h5',G,fun p hp=>by cases hp⟩,fun _ h=>h,fun _ h=>h⟩
section
variable {E:fr} {ops:Array Oper} {Q:db} {rest:List Oper} {D:List Deferred} {L:List (Nat×Value)} {C:List aw}
variable {dst:Option Tmp} {d:Nat} {ty:TypeId} {ps:String} {af:Array Edge} {g:Option (Nat×Bool)}
theorem j4 {t kt et:TypeId} {xm:Operand} {b:Nat} {m:List (K×Value)} {A:aw} (i:Nat) (hg:jS ops L g=true) (hm:ev L xm=some (.map (some b))) (ht:E.P.underlying t=some (.map kt et)) (hA:C[i]? =some A) (hAf:A.fJ b∧ ¬ A.wf b) (hC:jh C (iP kV b m).holds) (hd:Nat.blt d E.n=true)
 (k: ∀ r,RJ E ops Q rest D ((d,.pointer (some ⟨r,0,none⟩))::L) (zm kV r b m m none::C)):RJ E ops Q (⟨some d,.range t xm,ty,ps,af,g⟩::rest) D L C:=by
 intro a w B hs
 have hd':d<E.n:=by rw [← Nat.blt_eq]; exact hd
 unfold sB
 rw [if_pos (ek B hg)]
 obtain ⟨es,c,he,hi⟩:=hs.has hC
 have G:b<w.heap.size:=eD he
 have F:(getObj b).run E.P w= .ok (.map es c) w:=MapKept.run_getObj_map he
 refine g7 (v:= .pointer (some ⟨w.heap.size,0,none⟩)) (w':=w.alloc (.mapIter (some b) c #[] c)) sm ?_ ?_
 ·simp [execOp,Instr.range,B.ev hm,run_underlying ht,F,newObj,Sem.run]
 ·refine k _ _ _ (B.put hd' _) (hs.NN i hA (eh.alloc no w _) ⟨I,es,c,c,#[],c,?_,hi,heap_alloc_new w _,hi.Ls,Nat.le_refl _,Nat.le_refl _,?_,fun p hp=>by cases hp⟩ (fun q hq=>?_))
  ·rw [Below.heap_alloc w _ b G]; exact he
  ·have:leftOf es #[]=es:=by unfold leftOf; exact Array.filter_eq_self.2 sm
   rw [this]; exact hi.list
  ·rcases hq with rfl|rfl
   ·exact .inl (Nat.le_refl _)
   ·refine .inr ⟨hAf.1,hAf.2,fun (e:q=w.heap.size)=>by omega⟩
theorem IC (hinj: ∀ x y,kV x=kV y→x=y) {xi:Operand} {r b:Nat} {m left:List (K×Value)} {cur:Option (K×Value)} (i:Nat) (hg:jS ops L g=true) (hm:ev L xi=some (.pointer (some ⟨r,0,none⟩))) (hC:C[i]? =some (zm kV r b m left cur)) (hd:Nat.blt d E.n=true)
 (k0:left=[]→RJ E ops Q rest D ((d,.tuple [.bool false].toArray)::L) C)
 (k1: ∀ x v,(x,v)∈left→(left.map (·.1)).Nodup→RJ E ops Q rest D ((d,.tuple [.bool true,kV x,v].toArray)::L) (C.set i (zm kV r b m (cH left x) (some (x,v))))):
 RJ E ops Q (⟨some d,.next xi false,ty,ps,af,g⟩::rest) D L C:=by
 intro a w G hs
 have hd':d<E.n:=by rw [← Nat.blt_eq]; exact hd
 unfold sB
 rw [if_pos (ek G hg)]
 obtain ⟨R,es,c,since,seen,st,X,hi,Y,J,V,M,A,_⟩:=hs.holds _ (aS hC)
 rcases run_next_at (P:=E.P) w ty r b since st seen es c Y X J V with ⟨Z,hr⟩|⟨e,he,N,H,hr⟩
 ·refine g7 (v:= .tuple #[.bool false]) (w':=w) sm ?_ ?_
  ·simp [execOp,G.ev hm,hr]
  ·refine k0 ?_ _ _ (G.put hd' _) hs
   have:(leftOf es seen).toList=[]:=by rw [← List.length_eq_zero_iff,Array.length_toList]; exact Z
   rw [this] at A
   exact List.map_eq_nil_iff.1 A.symm
 ·have O:(e.key,e.val)∈left.map (fun p=>(kV p.1,p.2)):=by rw [← A]; exact bZ.2 ⟨e,he,rfl⟩
  obtain ⟨p,hp,S⟩:=bZ.1 O
  obtain ⟨x,v⟩:=p
  simp only [Prod.mk.injEq] at S
  obtain ⟨hk,hv⟩:=S
  refine g7 (v:= .tuple #[.bool true,e.key,e.val]) (w':=ChangeMaps.setBlock N r (.mapIter (some b) since (seen.push e.born) c)) sm ?_ ?_
  ·simp [execOp,G.ev hm,hr]
  ·rw [← hk,← hv]
   have AA:=yF hinj hi A
   have F:e∈es.toList:=by unfold leftOf at he; rw [Array.toList_filter] at he; exact (List.mem_filter.1 he).1
   have f:c=c:=rfl
   have B:N.heap=w.heap:=by rcases H with rfl|rfl<;>rfl
   refine k1 x v hp AA _ _ (G.put hd' _) (hs.mv i hC ⟨⟨R,es,c,since,seen.push e.born,c,?_,hi,?_,J,M,M,?_,fun q hq=>?_⟩,?_,fun q hq=> .inl hq,fun q hq=> .inl hq⟩)
   ·show (N.heap.setIfInBounds r _)[b]? =_
    rw [Array.getElem?_setIfInBounds_ne R,B]; exact X
   ·show (N.heap.setIfInBounds r _)[r]? =_
    rw [Array.getElem?_setIfInBounds_self_of_lt (by rw [B]; exact eD Y)]
   ·have T:leftOf es (seen.push e.born)=(leftOf es seen).filter (fun z=> !(z.born==e.born)):=by
     unfold leftOf
     rw [Array.filter_filter]
     congr 1
     funext z
     simp only [Array.contains_push,Bool.not_or]
     rw [Bool.and_comm]
    rw [T,Array.toList_filter]
    have key: ∀ (l:List MapEntry) (ll:List (K×Value)),(∀ z∈l,z∈es.toList)→l.map (fun (e:MapEntry)=>(e.key,e.val))=ll.map (fun p=>(kV p.1,p.2))→
     (l.filter (fun z=> !(z.born==e.born))).map (fun (e:MapEntry)=>(e.key,e.val))=(cH ll x).map (fun p=>(kV p.1,p.2)):=by
     intro l
     induction l with
     |nil=>intro ll _ h; cases ll with
      |nil=>rfl
      |cons p ll=>simp at h
     |cons z l ih=>
      intro ll hz h
      cases ll with
      |nil=>simp at h
      |cons p ll=>
       simp only [List.map_cons,List.cons.injEq,Prod.mk.injEq] at h
       have ih':=ih ll (fun y hy=>hz y (by simp [hy])) h.2
       have AB:(z.born=e.born)↔(p.1=x):=by
        constructor
        ·intro hb
         have:z=e:=D5 hi.born (hz z sm) F hb
         rw [this] at h
         have:=h.1.1.symm.trans hk.symm
         exact hinj _ _ this
        ·intro hx
         have W:z.key=e.key:=by rw [h.1.1,hx,hk]
         rw [BV hinj hi (hz z sm) F W]
       unfold cH at ih' ⊢
       by_cases hx:p.1=x
       ·rw [List.filter_cons_of_neg (by simp [AB.2 hx]),List.filter_cons_of_neg (by simp [hx])]; exact ih'
       ·rw [List.filter_cons_of_pos (by simpa using fun hb=>hx (AB.1 hb)),List.filter_cons_of_pos (by simpa using hx)]
        simp only [List.map_cons,h.1.1,h.1.2,ih']
    exact key _ _ (fun z hz=>by unfold leftOf at hz; rw [Array.toList_filter] at hz; exact (List.mem_filter.1 hz).1) A
   ·cases hq
    exact ⟨e,seen,F,U,U,hk.symm,hv.symm⟩
   ·refine ⟨?_,?_,?_,?_,fun q hq hn=>?_⟩
    ·rcases H with rfl|rfl<;>rfl
    ·rcases H with rfl|rfl<;>rfl
    ·rcases H with rfl|rfl<;>rfl
    ·show w.heap.size≤(N.heap.setIfInBounds r _).size
     simp [B]
    ·show (N.heap.setIfInBounds r _)[q]? =_
     rw [Array.getElem?_setIfInBounds_ne (fun e=>hn e.symm),B]
theorem jD {xi:Operand} {r b:Nat} {m left:List (K×Value)} {x:K} {v:Value} (i:Nat) (hg:jS ops L g=true) (hm:ev L xi=some (.pointer (some ⟨r,0,none⟩))) (hC:C[i]? =some (zm kV r b m left (some (x,v)))):
 SD E ops ⟨dst,.entry xi,ty,ps,af,g⟩ D L C (.tuple [kV x,v].toArray):=
 dV hg sm fun a w F hs=>by
  obtain ⟨N,es,c,since,seen,st,J,hi,M,H,O,AA,G,B⟩:=hs.holds _ (aS hC)
  obtain ⟨e,A,he,rfl,rfl,hk,hv⟩:=B _ rfl
  have:=run_entry_at (P:=E.P) w r b since A es st e M J he hi.born
  simp [execOp,F.ev hm,this,hk,hv]
theorem jB (hinj: ∀ x y,kV x=kV y→x=y) {β:Type} {f:β→Value} {xi:Operand} {r b:Nat} {m:List (K×Value)} {ll:List (K×β)} {cur:Option (K×Value)} (i:Nat) (hg:jS ops L g=true) (hm:ev L xi=some (.pointer (some ⟨r,0,none⟩))) (hC:C[i]? =some (zm kV r b m (bW f ll) cur)) (hd:Nat.blt d E.n=true)
 (k0:ll=[]→RJ E ops Q rest D ((d,.tuple [.bool false].toArray)::L) C)
 (k1: ∀ x y,(x,y)∈ll→(ll.map (·.1)).Nodup→RJ E ops Q rest D ((d,.tuple [.bool true,kV x,f y].toArray)::L) (C.set i (zm kV r b m (bW f (cH ll x)) (some (x,f y))))):
 RJ E ops Q (⟨some d,.next xi false,ty,ps,af,g⟩::rest) D L C:=by
 refine IC hinj i hg hm hC hd (fun h=>k0 (List.map_eq_nil_iff.1 h)) (fun x v B hn=>?_)
 obtain ⟨p,hp,A⟩:=bZ.1 B
 simp only [Prod.mk.injEq] at A
 obtain ⟨rfl,rfl⟩:=A
 have:=k1 p.1 p.2 hp (by simpa [bW,Function.comp_def] using hn)
 rwa [ml] at this
theorem zX {t kt et:TypeId} {xm xk xv:Operand} {b:Nat} {x:K} {v:Value} {m m':List (K×Value)} {C':List aw} (i:Nat) (hg:jS ops L g=true) (hm:ev L xm=some (.map (some b))) (hk:ev L xk=some (kV x)) (hv:ev L xv=some v)
 (ht:E.P.underlying t=some (.map kt et)) (hkt:vh E.P kt kV) (hC:C[i]? =some (iP kV b m)) (hm':e_ m x v=m') (hC':C.set i (iP kV b m')=C') (k:RJ E ops Q rest D L C'):
 RJ E ops Q (⟨none,.insert t xm xk xv,ty,ps,af,g⟩::rest) D L C:=by
 subst hm' hC'
 intro a w A hs
 unfold sB
 rw [if_pos (ek A hg)]
 obtain ⟨es,c,he,hi⟩:=hs.holds _ (aS hC)
 have B:(getObj b).run E.P w= .ok (.map es c) w:=MapKept.run_getObj_map he
 rcases pg (P:=E.P) (w:=w) (x:=x) hkt hi with ⟨AA,F⟩|⟨j,N,AA,F,J⟩
 ·refine sf (w':={w with heap:=w.heap.setIfInBounds b (.map (es.push {key:=kV x,val:=v,born:=c}) (c+1))}) sm ?_ ?_
  ·simp [execOp,A.ev hm,A.ev hk,A.ev hv,Instr.mapUpdate,run_underlying ht,B,jg hkt,AA,MapKept.run_setObj_map _ he]
  ·refine k _ _ ⟨A.defers,A.size,A.at_⟩ (hs.D9 (b:=b) i hC U U (nA _) (fun _ h=>h) ⟨_,_,pH he,?_⟩)
   have:e_ m x v=m++[(x,v)]:=by unfold e_; rw [F]; rfl
   rw [this]; exact hi.push F v
 ·have M:=hi.size
  have G:j<es.size:=by have:=(aV.1 F).1; omega
  have H:(es[j]).key=kV x:=by
   have:=congrArg (fun l=>l[j]?) hi.list
   simp [G,F] at this
   exact this.1
  refine sf (w':={w with heap:=w.heap.setIfInBounds b (.map (es.modify j fun e=>{e with key:=kV x,val:=v}) c)}) sm ?_ ?_
  ·simp [execOp,A.ev hm,A.ev hk,A.ev hv,Instr.mapUpdate,run_underlying ht,B,jg hkt,AA,MapKept.run_setObj_map _ he,Instr.keyThatStays,G,H,hkt.bits x]
  ·exact k _ _ ⟨A.defers,A.size,A.at_⟩ (hs.D9 (b:=b) i hC U U (nA _) (fun _ h=>h) ⟨_,_,pH he,hi.set F J v⟩)
end
end
end
section
open Go.RowKit
def VP {σ:Type} (w0:World) (P:Program) (l:Nat) (step:σ→List Value→σ→Prop) (J:σ→aw→Prop) (Z:aw→Prop):Prop:=
 ∀ k x k' A w,step k x k'→J k A→w0.heap.size≤w.heap.size→A.holds w→YieldAt (Fw none) 0 P l x.toArray w fun e w'=>
  (e= .returned (.bool true)∧ ∃ B,J k' B∧Mv A B w w')∨(e= .returned (.bool false)∧ ∃ B,Z B∧Mv A B w w')
def Lh {σ:Type} (J:σ→aw→Prop) (Z:aw→Prop) (fin:σ→Prop) (A0:aw) (w0:World) (e:Ending) (w':World):Prop:=
 ∃ v,e= .returned v∧((∃ s B,fin s∧J s B∧Mv A0 B w0 w')∨ ∃ B,Z B∧Mv A0 B w0 w')
structure FF {σ:Type} (P:Program) (f:FuncId) (fi ca:List Value) (Cp:List aw) (s0:σ) (step:σ→List Value→σ→Prop) (fin:σ→Prop):Prop where
 go:sx P f=true
 run: ∀ (l:Nat) (J:σ→aw→Prop) (Z:aw→Prop) (A0:aw) (w:World),VP w P l step J Z→J s0 A0→A0.holds w→(∀ A∈Cp,A.holds w)→(∀ A∈Cp,Eb A0 A.ro)→
  Calls P f (fi++Value.func (.yield l) #[] #[]::ca).toArray w (Lh J Z fin A0 w)
theorem MT {σ:Type} {J:σ→aw→Prop} {Z:aw→Prop} {n:σ} {fin:σ→Prop} {A0 B:aw} {w0 w:World} {C:List aw} {v:Value} (i:Nat) (hC:C[i]? =some B) (hfin:fin n) (hJ:J n B) (hF:Fo A0 w0 B) (hs:St ⟨A0.wf,fun _=>True⟩ w0 C w):Lh J Z fin A0 w0 (.returned v) w:=
 ⟨v,rfl,.inl ⟨n,B,hfin,hJ,hs.holds B (aS hC),hs.keeps,fun b hb=>(hs.own B (aS hC) b hb).symm,hF⟩⟩
theorem sI {σ:Type} {J:σ→aw→Prop} {Z:aw→Prop} {fin:σ→Prop} {A0 B:aw} {w0 w:World} {C:List aw} {v:Value} (i:Nat) (hC:C[i]? =some B) (hJ:Z B) (hF:Fo A0 w0 B) (hs:St ⟨A0.wf,fun _=>True⟩ w0 C w):Lh J Z fin A0 w0 (.returned v) w:=
 ⟨v,rfl,.inr ⟨B,hJ,hs.holds B (aS hC),hs.keeps,fun b hb=>(hs.own B (aS hC) b hb).symm,hF⟩⟩
theorem tM {σ:Type} {P:Program} {f:FuncId} {fn:Func} {c:Code} {fi ca:List Value} {Cp:List aw} {s0:σ} {step:σ→List Value→σ→Prop} {fin:σ→Prop} (hgo:sx P f=true) (hf:P.funcs[f]? =some fn) (hb:fn.body=some c) (hn:Nat.ble (fi.length+ca.length+1) fn.ntmps=true)
 (h: ∀ (l:Nat) (J:σ→aw→Prop) (Z:aw→Prop) (A0:aw) (w0:World) (Q:db),VP w0 P l step J Z→J s0 A0→Fo A0 w0 A0→
  (∀ D L C,LJ ⟨P,none,fn.ntmps,⟨A0.wf,fun _=>True⟩,w0⟩ fn (Lh J Z fin A0 w0) D L C→KJ ⟨P,none,fn.ntmps,⟨A0.wf,fun _=>True⟩,w0⟩ (Q .ret) D L C)→
  (∀ D L C,LJ ⟨P,none,fn.ntmps,⟨A0.wf,fun _=>True⟩,w0⟩ fn (Lh J Z fin A0 w0) D L C→KJ ⟨P,none,fn.ntmps,⟨A0.wf,fun _=>True⟩,w0⟩ (Q .normal) D L C)→
  WJ ⟨P,none,fn.ntmps,⟨A0.wf,fun _=>True⟩,w0⟩ c Q [] (Qt (fi++Value.func (.yield l) #[] #[]::ca)) (A0::Cp.map aw.ro)):FF P f fi ca Cp s0 step fin:=by
 refine ⟨hgo,fun l J Z A0 w hY hJ hA F E=>?_⟩
 refine Ey hf hb (by simpa [Nat.add_assoc] using hn) (h l J Z A0 w · hY hJ (fun b hb=> .inl hb)) ?_
 have G:=tT F
 refine ⟨eh.refl _ _,fun A hA'=>?_,List.Pairwise.cons (fun B hB=>?_) G.sep,fun A hA' b hb=>?_,fun _ _ _ _=> .inr trivial⟩
 ·rcases bx.1 hA' with rfl|hA'
  ·exact hA
  ·exact G.holds A hA'
 ·obtain ⟨B',hB',rfl⟩:=bZ.1 hB
  exact E B' hB'
 ·rcases bx.1 hA' with rfl|hA'
  ·exact .inr hb
  ·obtain ⟨B',hB',rfl⟩:=bZ.1 hA'
   exact hb.elim
section
variable {E:fr} {ops:Array Oper} {Q:db} {rest:List Oper} {D:List Deferred} {L:List (Nat×Value)} {C:List aw}
variable {d:Nat} {ty:TypeId} {ps:String} {af:Array Edge} {g:Option (Nat×Bool)}
/-- a call of yield -/
theorem kR {σ:Type} {fop:Operand} {xs:Array Operand} {ts:Array TypeId} {l:Nat} {k k':σ} {vs:List Value} {step:σ→List Value→σ→Prop} {J:σ→aw→Prop} {Z:aw→Prop} {A0 A:aw} {w1:World} (i:Nat) (hw1:w1.heap.size≤E.w0.heap.size) (hY:VP w1 E.P l step J Z) (hJ:J k A) (hF:Fo A0 w1 A) (hg:jS ops L g=true) (hf:ev L fop=some (.func (.yield l) #[] #[]))
 (hx:evs L xs.toList=some vs) (hk:step k vs k') (hC:C[i]? =some A) (hd:Nat.blt d E.n=true)
 (k1: ∀ B,J k' B→Fo A0 w1 B→RJ E ops Q rest D ((d,.bool true)::L) (C.set i B))
 (k2: ∀ B,Z B→Fo A0 w1 B→RJ E ops Q rest D ((d,.bool false)::L) (C.set i B)):
 RJ E ops Q (⟨some d,.call {callee:= .value fop,args:=xs,argTypes:=ts},ty,ps,af,g⟩::rest) D L C:=by
 intro a w F hs
 have hd':d<E.n:=by rw [← Nat.blt_eq]; exact hd
 unfold sB
 rw [if_pos (ek F hg)]
 have K:xs.map a.eval=vs.toArray:=by
  have:=F.evs hx
  apply Array.ext'
  simp [this]
 obtain ⟨fn,tmps,assign,body,hy,hr⟩:=hY k vs k' A w hk hJ (Nat.le_trans hw1 hs.keeps.size) (hs.holds A (aS hC))
 have H:(execOp a.eval ⟨some d,.call {callee:= .value fop,args:=xs,argTypes:=ts},ty,ps,af,g⟩).run E.P w= .ok (.round l fn tmps assign body) w:=by
  simp [execOp,resolve,F.ev hf,Deferred.ofValue,invoke,K,hy]
 refine ⟨fun _ _=>trivial,?_⟩
 rw [Oper.semAt_eq _ _ _ sm,H]
 refine ⟨fun h=>by simp at h,?_⟩
 have G: ∀ (B:aw) (w':World),Mv A B w w'→Fo A0 w1 B:=fun B w' m b hb=>by
  rcases m.fJ b hb with AA|AA
  ·exact hF b AA
  ·exact .inr (Nat.le_trans hw1 (Nat.le_trans hs.keeps.size AA))
 have hr':RoundIn (Fw E.r) 0 E.P l fn tmps assign body w _:=hr
 refine hr'.mono fun e w' he=>?_
 rcases he with ⟨rfl,B,hB,m⟩|⟨rfl,B,hB,m⟩
 ·exact k1 B hB (G B w' m) _ _ (F.put hd' _) (hs.mv i hC m)
 ·exact k2 B hB (G B w' m) _ _ (F.put hd' _) (hs.mv i hC m)
end
theorem oi {σ:Type} {E:fr} {Q:db} {D:g5} {L L0:dk} {C F:List aw} {g:Operand} {ps:Array Tmp} {assign body:Code} {f:FuncId} {fi ca:List Value} {Cp:List aw} {s0:σ} {step:σ→List Value→σ→Prop} {fin_:σ→Prop} {ι κ:Type}
 (inv:σ→ι→Prop) (Ci:σ→ι→List aw) (invx:Code→κ→Prop) (Cx:Code→κ→List aw) (isJ isF:List Nat) (y0:ι)
 (hr:E.r=none) (hg:ev L g=some (.func (.func f) fi.toArray ca.toArray)) (hs:FF E.P f fi ca Cp s0 step fin_)
 (hnd:decide (isJ++isF).Nodup=true) (hJ:kD C isJ=Ci s0 y0) (hF:kD C isF=F) (h0:inv s0 y0) (hCp: ∀ A∈Cp,∃ B∈F,Nj B A)
 (hps: ∀ k x k',step k x k'→x.length=ps.size) (hpn:ps.toList.all (fun t=>Nat.blt t E.n)=true) (hL:dI L L0)
 (round: ∀ (k:σ) (x:List Value) (k':σ) (y:ι) (l:Nat) (ra rb:Loop) (S:BS) (w0:World) (K:Act→World→Prop) (Qr:db),E.w0.heap.size≤w0.heap.size→step k x k'→inv k y→
  (∀ L' C',WJ ⟨E.P,some l,E.n,S,w0⟩ body Qr [] L' (lS l (.loop rb)::C')→KJ ⟨E.P,some l,E.n,S,w0⟩ K [] L' (lS l (.loop ra)::C'))→
  (∀ y' L' C',inv k' y'→(∀ w,St S w0 C' w→St S w0 (lS l (.loop rb)::Ci k' y') w)→KJ ⟨E.P,some l,E.n,S,w0⟩ (Qr .normal) [] L' C')→
  (∀ id z L' C',invx (.exit id) z→(∀ w,St S w0 C' w→St S w0 (lS l (.loop rb)::Cx (.exit id) z) w)→KJ ⟨E.P,some l,E.n,S,w0⟩ (Qr (.exit id)) [] L' C')→
  (∀ z L' C',invx .ret z→(∀ w,St S w0 C' w→St S w0 (lS l (.loop rb)::Cx .ret z) w)→KJ ⟨E.P,some l,E.n,S,w0⟩ (Qr .ret) [] L' C')→
  WJ ⟨E.P,some l,E.n,S,w0⟩ assign (Exit.then K (fun _ _ _=>False)) [] (Dt ps.toList x L0) (lS l (.loop ra)::Ci k y))
 (fin: ∀ r s y,fin_ s→inv s y→KJ E (Q .normal) (lW r::D) L0 (lS r (.deferred (some []))::(F++Ci s y)))
 (finx: ∀ r id z,invx (.exit id) z→KJ E (Q (.exit id)) (lW r::D) L0 (lS r (.deferred (some []))::(F++Cx (.exit id) z)))
 (finr: ∀ r z,invx .ret z→KJ E (Q .ret) (lW r::D) L0 (lS r (.deferred (some []))::(F++Cx .ret z))):WJ E (.rangeFunc g ps assign body) Q D L C:=by
 intro a w hf q
 refine wpIn_rangeFunc fun fn _=>?_
 show ∃ l lW w₁ d w₁' f args w₂,(Instr.enterLoop fn a.tmps ps assign body E.r).run E.P w= .ok (l,lW) w₁∧_
 rw [hr]
 obtain ⟨rec,G⟩: ∃ rec:LoopState→Option Code→Loop,rec=fun st pe=>{state:=st,pending:=pe,fn,tmps:=a.tmps,params:=ps,assign,body,defers:=w.heap.size}:=⟨_,rfl⟩
 obtain ⟨W1,R⟩: ∃ W1,(w.alloc (.deferred (some []))).alloc (.loop (rec .ready none))=W1:=⟨_,rfl⟩
 have A2:a.eval g= .func (.func f) fi.toArray ca.toArray:=hf.ev hg
 have p:(Instr.enterLoop fn a.tmps ps assign body none).run E.P w= .ok (w.heap.size+1,[lW w.heap.size]) W1:=by
  rw [← R,G]; exact run_enterLoop_outer _ _ _ _ _
 -- the state with the record and the block
 have u:St E.S E.w0 ((lS (w.heap.size+1) (.loop (rec .ready none))::Ci s0 y0)++(lS w.heap.size (.deferred (some []))::F)) W1:=by
  have X:St E.S E.w0 (Ci s0 y0++F) w:=St.kD (isJ++isF) hnd (by have X:=hJ; have j:=hF; unfold Go.Proofs.YtlajhejcfcoddaaGreatDoor.kD at X j ⊢; rw [List.filterMap_append,X,j]) q
  have hn:N2 w W1 [lS (w.heap.size+1) (.loop (rec .ready none)),lS w.heap.size (.deferred (some []))]:=by
   refine ⟨fun A hA=>?_,fun A hA b hb=>?_,?_⟩
   ·rcases bx.1 hA with rfl|hA
    ·show W1.heap[w.heap.size+1]? =_
     rw [← R]; have:=World.alloc_heap_new (w.alloc (.deferred (some []))) (.loop (rec .ready none)); rwa [World.size_alloc] at this
    ·simp only [bI] at hA; subst hA
     show W1.heap[w.heap.size]? =_
     rw [← R]; exact (Below.heap_alloc _ _ _ sm).trans (World.alloc_heap_new w _)
   ·rcases bx.1 hA with rfl|hA
    ·have:b=w.heap.size+1:=hb
     omega
    ·simp only [bI] at hA; subst hA
     have:b=w.heap.size:=hb
     omega
   ·refine List.Pairwise.cons (fun B hB b X j=>?_) (List.pairwise_singleton _ _)
    simp only [bI] at hB; subst hB
    have V:b=w.heap.size+1:=X
    have O:b=w.heap.size:=j
    omega
  have hk:eh no w W1:=by rw [← R]; exact (eh.alloc no w _).trans (eh.alloc no _ _)
  have j:=X.grow hk hn
  refine j.perm ?_
  simp only [List.cons_append,List.nil_append]
  exact List.Perm.cons _ (List.perm_middle.symm)
 have Y:=u.tied
 obtain ⟨H,A7⟩:=List.pairwise_cons.1 Y.sep
 have A0:=Y.holds _ (cv ..)
 let J:σ→aw→Prop:=fun k A=> ∃ y,inv k y∧A=br (lS (w.heap.size+1) (.loop (rec .ready none))::Ci k y)
 let Z:aw→Prop:=fun A=> ∃ c z,(c= .ret∨ ∃ id,c= .exit id)∧invx c z∧A=br (lS (w.heap.size+1) (.loop (rec .done (some c)))::Cx c z)
 refine ⟨w.heap.size+1,[lW w.heap.size],W1,{target:= .fn (.func f) ca.toArray,args:=fi.toArray++ #[.func (.yield (w.heap.size+1)) #[] #[]]},W1,f,
  (fi++Value.func (.yield (w.heap.size+1)) #[] #[]::ca).toArray,W1,p,?_,fun _ _=>trivial,?_,fun h=>by simp at h,?_⟩
 ·simp only [resolve,A2]
  simp [Deferred.ofValue,Act.eval]
 ·have:fi.toArray++ #[Value.func (.yield (w.heap.size+1)) #[] #[]]++ca.toArray=(fi++Value.func (.yield (w.heap.size+1)) #[] #[]::ca).toArray:=by simp
  simp [invoke,pT hs.go]
 ·refine (qN E.r (hs.run (w.heap.size+1) J Z _ W1 ?_ ⟨y0,h0,U⟩ A0 ?_ ?_)).mono ?_
  ·-- a round
   rintro k x k' A W hx ⟨y,hy,rfl⟩ A1 hA
   have hl:W.heap[w.heap.size+1]? =some (.loop (rec .ready none)):=hA.1 _ (cv ..)
   have AC:=run_yield (P:=E.P) (args:=x.toArray) hl (by rw [G]; simpa using hps k x k' hx)
   rw [G] at AC
   refine ⟨fn,_,assign,body,AC,roundIn_of_wpIn trivial ?_⟩
   let A:aw:=br (lS (w.heap.size+1) (.loop (rec .ready none))::Ci k y)
   have A3:Fr E.n [] (Dt ps.toList x L0) {tmps:=(ps.zip x.toArray).foldl (fun tmps (t,a)=>tmps.setIfInBounds t a) a.tmps,defers:=[]}:=by
    have X:=Ju ps.toList x L0 a.tmps (fun t ht=>by have:=cV.1 hpn t ht; rwa [Nat.blt_eq] at this) ⟨rfl,hf.size,fun t v hv=>hf.at_ t v (hL t v hv)⟩
    rw [← Array.foldl_toList]
    simpa using X
   have o: ∀ (c:Option Code) (b:Bool),({rec .busy none with state:=if b then .ready else .done,pending:=c}:Loop)=rec (if b then .ready else .done) c:=fun c b=>by rw [G]
   have T: ∀ (c:Option Code) (N:World) (C':List aw) (S:BS),St S W (lS (w.heap.size+1) (.loop (rec .busy none))::C') N→
    ∃ M,(Instr.endRound (w.heap.size+1) c).run E.P N= .ok (.bool c.isNone) M∧St S W (lS (w.heap.size+1) (.loop (rec (if c.isNone then .ready else .done) c))::C') M:=fun c N C' S H=>by
    have AB:N.heap[w.heap.size+1]? =some (.loop (rec .busy none)):=H.holds _ (cv ..)
    refine ⟨_,run_endRound c AB,?_⟩
    have:=H.D9 (b:=w.heap.size+1) (A':=lS (w.heap.size+1) (.loop (rec (if c.isNone then .ready else .done) c))) 0 rfl rfl rfl (jL _) (fun _ h=>h) (World.putObj_heap_same (eD AB))
    rw [o]
    exact this
   refine round k x k' y (w.heap.size+1) (rec .ready none) (rec .busy none) ⟨A.wf,A.fJ⟩ W _ (roundPost E.P (w.heap.size+1) (fun e w'=>(e= .returned (.bool true)∧ ∃ B,J k' B∧Mv A B W w')∨(e= .returned (.bool false)∧ ∃ B,Z B∧Mv A B W w'))) (Nat.le_trans (Nat.le_trans q.keeps.size (by rw [← R]; simp; omega)) A1) hx hy ?_ ?_ ?_ ?_ _ _ A3 (St.GF hA)
   ·intro L' C' hW a1 N i H
    have AB:N.heap[w.heap.size+1]? =some (.loop (rec .ready none)):=H.holds _ (cv ..)
    refine ⟨_,run_beginRound AB (by rw [G]),hW _ _ i ?_⟩
    have:=H.D9 (b:=w.heap.size+1) (A':=lS (w.heap.size+1) (.loop (rec .busy none))) 0 rfl rfl rfl (jL _) (fun _ h=>h) (World.putObj_heap_same (eD AB))
    have e:({rec .ready none with state:= .busy}:Loop)=rec .busy none:=by rw [G]
    rw [e]; exact this
   ·intro y' L' C' hy' hC' a1 N i H
    obtain ⟨M,V,O⟩:=T none N _ _ (hC' _ H)
    exact ⟨_,M,V,.inl ⟨U,_,⟨y',hy',U⟩,Mv.of O⟩⟩
   ·intro id z L' C' hz hC' a1 N i H
    obtain ⟨M,V,O⟩:=T (some (.exit id)) N _ _ (hC' _ H)
    exact ⟨_,M,V,.inr ⟨U,_,⟨_,z,.inr ⟨id,U⟩,hz,U⟩,Mv.of O⟩⟩
   ·intro z L' C' hz hC' a1 N i H
    obtain ⟨M,V,O⟩:=T (some .ret) N _ _ (hC' _ H)
    exact ⟨_,M,V,.inr ⟨U,_,⟨_,z,.inl U,hz,U⟩,Mv.of O⟩⟩
  ·intro A hA
   obtain ⟨B,hB,hc⟩:=hCp A hA
   exact hc.holds _ (Y.holds B (cY _ (cY _ hB)))
  ·intro A hA b hb hb'
   obtain ⟨B,hB,hc⟩:=hCp A hA
   exact ⟨(H B (cY _ hB) b hb (hc.fJ b hb')).1,fun h=>h⟩
  ·rintro e w' ⟨v,rfl,hh⟩
   have AA:Fr E.n (lW w.heap.size::D) L0 {a with defers:=[lW w.heap.size]++a.defers}:=⟨by simp [hf.defers],hf.size,fun t v hv=>hf.at_ t v (hL t v hv)⟩
   have hleave: ∀ (st:LoopState) (c:Option Code) (C':List aw),st≠ .busy→Mv (br (lS (w.heap.size+1) (.loop (rec .ready none))::Ci s0 y0)) (br (lS (w.heap.size+1) (.loop (rec st c))::C')) W1 w'→
    ∃ M,(Instr.endLoop (w.heap.size+1)).run E.P w'= .ok c M∧St E.S E.w0 (lS w.heap.size (.deferred (some []))::(F++C')) M:=fun st c C' A5 m=>by
    have X:=(Y.mv 0 rfl m).iw
    have h1':St E.S E.w0 ((lS (w.heap.size+1) (.loop (rec st c))::C')++(lS w.heap.size (.deferred (some []))::F)) w':=X
    have AB:w'.heap[w.heap.size+1]? =some (.loop (rec st c)):=h1'.holds (lS (w.heap.size+1) (.loop (rec st c))) sm
    refine ⟨_,by have:=run_endLoop (P:=E.P) AB (by rw [G]; exact A5); rw [this,G],?_⟩
    have j:=h1'.D9 (b:=w.heap.size+1) (A':=lS (w.heap.size+1) (.loop {rec st c with state:= .exhausted})) 0 rfl rfl rfl (jL _) (fun _ h=>h) (World.putObj_heap_same (eD AB))
    have h3:St E.S E.w0 (C'++(lS w.heap.size (.deferred (some []))::F)) _:=j.take (List.sublist_cons_self _ _)
    rw [G] at h3
    refine h3.perm ?_
    exact (List.perm_append_comm).trans sm
   rcases hh with ⟨s,B,A4,⟨y,hy,rfl⟩,m⟩|⟨B,⟨c,z,hc,hz,rfl⟩,m⟩
   ·obtain ⟨M,V,O⟩:=hleave .ready none _ sm m
    exact ⟨none,M,V,fin w.heap.size s y A4 hy _ _ AA O⟩
   ·obtain ⟨M,V,O⟩:=hleave .done (some c) _ sm m
    refine ⟨some c,M,V,?_⟩
    rcases hc with rfl|⟨id,rfl⟩
    ·exact wpIn_ret (finr w.heap.size z hz _ _ AA O)
    ·exact wpIn_exit (finx w.heap.size id z hz _ _ AA O)
end
section
open Go.RowKit
/-- where a row lies, and its capacity -/
abbrev RA:=OA×Nat
/-- what is asked of memory by all elements -/
def aR {M A:Type} (f:M→A→List aw):List M→List A→List aw
 |m::ms,a::asl=>f m a++aR f ms asl
 |_,_=>[]
theorem bY {M A:Type} {f:M→A→List aw}: ∀ {ms:List M} {asl:List A} {k:Nat} {m:M} {a:A} {X:aw},ms[k]? =some m→asl[k]? =some a→X∈f m a→X∈aR f ms asl
 |[],_,k,m,a,X,h,_,_=>by simp at h
 |_::_,[],k,m,a,X,_,h,_=>by simp at h
 |x::ms,y::asl,0,m,a,X,h,h2,hX=>by
  simp at h h2; subst h h2
  exact List.mem_append_left _ hX
 |x::ms,y::asl,k+1,m,a,X,h,h2,hX=>List.mem_append_right _ (bY (ms:=ms) (asl:=asl) (k:=k) (by simpa using h) (by simpa using h2) hX)
theorem j_ {M A:Type} {f:M→A→List aw}: ∀ {ms:List M} {asl:List A} {X:aw},X∈aR f ms asl→ ∃ (k:Nat) (m:M) (a:A),ms[k]? =some m∧asl[k]? =some a∧X∈f m a
 |[],_,X,h=>by cases h
 |_::_,[],X,h=>by cases h
 |x::ms,y::asl,X,h=>by
  rcases dN.1 h with h|h
  ·exact ⟨0,x,y,U,U,h⟩
  ·obtain ⟨k,m,a,B,C,D⟩:=j_ h
   exact ⟨k+1,m,a,by simpa using B,by simpa using C,D⟩
theorem jy {M A:Type} {f:M→A→List aw}: ∀ {ms:List M} {asl:List A} {ns:List M} {bs:List A},ms.length=asl.length→aR f (ms++ns) (asl++bs)=aR f ms asl++aR f ns bs
 |[],[],ns,bs,_=>rfl
 |[],_::_,ns,bs,h=>by simp at h
 |_::_,[],ns,bs,h=>by simp at h
 |x::ms,y::asl,ns,bs,h=>by
  simp only [List.cons_append,aR,List.append_assoc]
  rw [jy (by simpa using h)]
theorem dB {M A β:Type} {f:M→A→β} {ms:List M} {asl:List A} {k:Nat} {m:M} {a:A} (h:ms[k]? =some m) (h2:asl[k]? =some a):(List.zipWith f ms asl)[k]? =some (f m a):=by
 rw [List.getElem?_zipWith,h,h2]
theorem dC {C L:List aw} {A:aw} (i:Nat) (hC:C[i]? =some (fp L).ro) (hm:A∈L):jh C A.holds:=fun w hw=>hw _ (aS hC) A hm
theorem dg {M A:Type} {f g:M→A→List aw} {ms:List M} {asl:List A} {C:List aw} (i:Nat) (hC:C[i]? =some (br (aR g ms asl))) (h: ∀ m a w,(∀ X∈g m a,X.holds w)→ ∀ X∈f m a,X.holds w):jh C (fp (aR f ms asl)).holds:=fun w hw X hX=>by
 have hb:=hw _ (aS hC)
 obtain ⟨k,m,a,B,D,E⟩:=j_ hX
 exact h m a w (fun Y hY=>hb.1 Y (bY B D hY)) X E
/-- a row that is part of another one -/
theorem N4 {C:List aw} {A:OA} {n k sz:Nat} {es:List (List Value)} (hR:jh C (rd A n sz es).holds) (hk:k≤n):jh C (rd A k sz (es.take k)).holds:=fun w hw=>by
 obtain ⟨D,E,F⟩:=hR w hw
 refine ⟨by rw [List.length_take,D]; omega,fun x hx=>E x (List.mem_of_mem_take hx),fun hp=>?_⟩
 have G:0<k:=Nat.pos_of_mul_pos_right hp
 have hs:0<sz:=Nat.pos_of_mul_pos_left hp
 obtain ⟨ad,hA,B⟩:=F (Nat.mul_pos I hs)
 refine ⟨ad,hA,fun i e j v he hv=>B i e j v ?_ hv⟩
 rw [List.getElem?_take] at he
 split at he
 ·exact he
 ·cases he
section
variable {E:fr} {ops:Array Oper} {Q:db} {rest:List Oper} {D:List Deferred} {L:List (Nat×Value)} {C:List aw}
variable {d:Nat} {ty:TypeId} {ps:String} {af:Array Edge} {g:Option (Nat×Bool)}
/-- an element of a slice that is the head of a row -/
theorem SK (k:Nat) {x ix:Operand} {A:OA} {n n' c sz e t:Nat} {es:List (List Value)} {j:Int} (h:bF E.n ops L d g x ix=some (.slice A n' c,.int .i64 j)) (hR:jh C (rd A n sz es).holds)
 (ht:tE E.P t=some (e,sz)) (hz:0<sz) (hj:j=(k:Int)) (hk:k<n') (hn:n'≤n):SE E ops ⟨some d,.indexAddr t x ix,ty,ps,af,g⟩ D L C (.pointer (mw A (k*sz))) d:=IA k h (N4 hR hn) ht hz hj hk
end
theorem St.tie {S:BS} {w0 w:World} {C:List aw} {A:aw} {L L':List aw} (h:St S w0 (A::br L::C) w) (e:L++[A]=L'):St S w0 (br L'::C) w:=by
 subst e
 have B:St S w0 (br L::A::C) w:=h.perm (List.Perm.swap _ _ _)
 have D:St S w0 (L++(A::C)) w:=B.iw
 have E:St S w0 ((L++[A])++C) w:=by simpa using D
 exact E.tied
theorem St.Rb {S:BS} {w0 w:World} {C:List aw} (h:St S w0 C w):St S w0 (br []::C) w:=St.tied (C1:=[]) h
section
variable {E:fr} {Q:db} {D:List Deferred} {L:List (Nat×Value)} {C:List aw}
theorem l9 {c:Code} (h:WJ E c Q D L (br []::C)):WJ E c Q D L C:=fun a w hf hs=>h a w hf hs.Rb
theorem xG {ops:Array Oper} {rest:List Oper} (h:RJ E ops Q rest D L (br []::C)):RJ E ops Q rest D L C:=fun a w hf hs=>h a w hf hs.Rb
theorem Aj {K:Act→World→Prop} {C1:List aw} {A:aw} {X X':List aw} (i j:Nat) (hn:decide (j::i::(List.range C.length).filter fun k=>k != i&&k != j).Nodup=true) (hC:kD C (j::i::(List.range C.length).filter fun k=>k != i&&k != j)=A::br X::C1) (e:X++[A]=X')
 (h:KJ E K D L (br X'::C1)):KJ E K D L C:=fun a w hf hs=>h a w hf ((St.kD _ hn hC hs).tie e)
theorem PE {ops:Array Oper} {rest:List Oper} {C1:List aw} {A:aw} {X X':List aw} (i j:Nat) (hn:decide (j::i::(List.range C.length).filter fun k=>k != i&&k != j).Nodup=true) (hC:kD C (j::i::(List.range C.length).filter fun k=>k != i&&k != j)=A::br X::C1) (e:X++[A]=X')
 (h:RJ E ops Q rest D L (br X'::C1)):RJ E ops Q rest D L C:=fun a w hf hs=>h a w hf ((St.kD _ hn hC hs).tie e)
end
end
section
open Go.RowKit
abbrev ep:aa→Value:=fun s=>vA (aa.cells s)
abbrev eE:aC→Value:=fun s=>vA (aC.cells s)
abbrev TM:=List (Int×aa)
abbrev FM:=List (aC×Int)
def gV {α:Type} (m:α) (b:Nat):List Value:=[Value.map (some b)]
def sr (m:TM) (b:Nat):List aw:=[iP iV b (bW ep m)]
def ow (m:FM) (b:Nat):List aw:=[iP eE b (bW iV m)]
theorem x5 {M A:Type} {f:M→A→List aw}: ∀ (m:M) (a:A) (w:World),(∀ X∈f m a,X.holds w)→ ∀ X∈f m a,X.holds w:=fun _ _ _ h=>h
/-- untied -/
theorem OO {E:fr} {ops:Array Oper} {Q:db} {rest:List Oper} {D:g5} {L:dk} {C X C1:List aw} (i:Nat) (hn:decide (i::(List.range C.length).filter fun k=>k != i).Nodup=true) (hC:kD C (i::(List.range C.length).filter fun k=>k != i)=br X::C1)
 (h:RJ E ops Q rest D L (X++C1)):RJ E ops Q rest D L C:=fun a w hf hs=>h a w hf (St.iw (St.kD _ hn hC hs))
end
section
def cO (ln:b_) (rd:dp) (e:List Int) (tms:List TM):bT:=⟨rd.Start,rd.fE,e,tms,ln.cM,ln.eg,(rd.ah.n:Int)⟩
def PQ (o:Int×aa):List Value:=[.int .i64 o.1,.agg (aa.cells o.2).toArray]
structure II (w:bT):Prop where
 n:w.n≤6
 times:w.vU.length=w.n
 now:0≤w.Start∧w.Start≤w.fE∧w.fE≤86400000
 least: ∀ x∈w.pq,1≤x∧x≤500000000
 GZ: ∀ t∈w.vU,∀ p∈t,(0≤p.1∧p.1≤10)∧0≤p.2.Lo∧p.2.Lo≤p.2.Hi∧p.2.Hi≤86400000
theorem II.opt {w:bT} (h:II w) {b:Nat} {o:Int×aa} (ho:o∈iN w b):(-1≤o.1∧o.1≤10)∧0≤o.2.Lo∧o.2.Lo≤o.2.Hi∧o.2.Hi≤86400000:=by
 unfold iN ui at ho
 rcases bx.1 ho with rfl|ho
 ·have:=h.now; simp only; omega
 ·cases ht:w.vU[b]? with
  |none=>simp [ht] at ho
  |some t=>
   rw [ht] at ho
   have:=h.GZ t (aS ht) o ho
   omega
theorem II.bM {w:bT} (h:II w) (b:Nat):0≤bM w b∧bM w b≤500000000:=by
 unfold Go.Proofs.YtlajhejcfcoddaaGreatDoor.bM
 cases ht:w.pq[b]? with
 |none=>simp
 |some x=>have:=h.least x (aS ht); simp only [Option.getD_some]; omega
theorem u0 (s:Int):(0≤(fD s).right∧0≤(fD s).e9)∧(fD s).right+(fD s).e9=1:=by unfold fD; split<;>simp
theorem Lz {w:bT} (h:II w): ∀ (b:Nat) p,p∈fwd w b→(0≤p.2∧p.2≤86400000)∧(0≤p.1.right∧0≤p.1.e9)∧p.1.right+p.1.e9=(b:Int):=by
 intro b
 induction b with
 |zero=>
  intro p hp
  simp only [fwd,bI] at hp
  subst hp
  have:=h.now; simp only; omega
 |succ b ih=>
  intro q hq
  obtain ⟨p,hp,o,ho,e⟩:=gf.1 hq
  have A:=ih p hp
  have B:=h.opt ho
  have C:=h.bM b
  have D:=h.now
  have E:=u0 o.1
  unfold lj at e
  split at e
  ·simp only [Option.some.injEq] at e
   subst e
   simp only [dF]
   omega
  ·cases e
theorem TZ {w:bT} (h:II w): ∀ (k:Nat) p,p∈bwd w k→(-(500000000*(k:Int))≤p.2∧p.2≤86400000)∧(0≤p.1.right∧0≤p.1.e9)∧p.1.right+p.1.e9≤(k:Int):=by
 intro k
 induction k with
 |zero=>
  intro p hp
  simp only [bwd,bI] at hp
  subst hp
  have:=h.now; simp only; omega
 |succ k ih=>
  intro q hq
  simp only [bwd,bx,List.mem_flatMap,List.mem_filterMap] at hq
  rcases hq with rfl|⟨p,hp,o,ho,e⟩
  ·have:=h.now; simp only; omega
  ·have A:=ih p hp
   have B:=h.opt ho
   have C:=h.bM (w.n-(k+1))
   have D:=h.now
   have E:=u0 o.1
   unfold oz at e
   split at e
   ·simp only [Option.some.injEq] at e
    subst e
    simp only [dF]
    omega
   ·cases e
theorem Jt {w:bT} (h:II w) {b:Nat} {p:aC×Int} (hp:p∈back w b):(-3000000000≤p.2∧p.2≤86400000)∧(0≤p.1.right∧0≤p.1.e9)∧p.1.right+p.1.e9≤6:=by
 have:=TZ h _ _ hp
 have:=h.n
 omega
theorem yh {w:bT} {b:Nat} {t:TM} (ht:w.vU[b]? =some t) {o:Int×aa}:o∈iN w b↔o=(-1,⟨w.Start,w.fE⟩)∨o∈t:=by
 unfold iN ui; rw [ht]; simp
theorem mj {K β:Type} [DecidableEq K] {l:List (K×β)} {x:K} {y:β} (hn:(l.map (·.1)).Nodup) (hm:(x,y)∈l) {o:K×β} (h:o∈l):o∈cH l x∨o=(x,y):=by
 by_cases e:o.1=x
 ·right
  obtain ⟨k,v⟩:=o
  simp only at e
  subst e
  have B:=(j7 hn).1 h
  have A:=(j7 hn).1 hm
  rw [B] at A
  cases A; rfl
 ·exact .inl (kx.2 ⟨h,e⟩)
theorem Hx {K β:Type} [DecidableEq K] {t l ys:List (K×β)} {x:K} {y:β} (hn:(l.map (·.1)).Nodup) (hm:(x,y)∈l) (h: ∀ o∈t,o∈l∨o∈ys): ∀ o∈t,o∈cH l x∨o∈ys++[(x,y)]:=fun o ho=>by
 rcases h o ho with h|h
 ·rcases mj hn hm h with h|h
  ·exact .inl h
  ·exact .inr (by simp [h])
 ·exact .inr (by simp [h])
theorem mN {K β:Type} [DecidableEq K] {t l:List (K×β)} {x:K} (h: ∀ o∈l,o∈t): ∀ o∈cH l x,o∈t:=fun o ho=>h o (kx.1 ho).1
theorem Mi {w:bT} {m left:List (aC×Int)} (h: ∀ p∈m,p∈left∨kI w p.1=false) (h0:left=[]):jH w m=false:=by
 unfold jH
 rw [List.any_eq_false]
 intro p hp
 rcases h p hp with q|q
 ·rw [h0] at q; cases q
 ·simp [q]
theorem Oq {w:bT} {m:List (aC×Int)} {p:aC×Int} (hp:p∈m) (h:kI w p.1=true):jH w m=true:=List.any_eq_true.2 ⟨p,hp,h⟩
theorem Jq {w:bT} {m left:List (aC×Int)} {t:aC} {v:Int} (hn:(left.map (·.1)).Nodup) (hm:(t,v)∈left) (h: ∀ p∈m,p∈left∨kI w p.1=false) (hf:kI w t=false): ∀ p∈m,p∈cH left t∨kI w p.1=false:=fun p hp=>by
 rcases h p hp with q|q
 ·rcases mj hn hm q with q|q
  ·exact .inl q
  ·right; rw [q]; exact hf
 ·exact .inr q
/-- what the maps of a watch are -/
structure yC (w:bT) (fs:List (List (aC×Int))):Prop where
 len:fs.length=w.n+1
 min: ∀ (b:Nat) m,fs[b]? =some m→uG m (fwd w b)
 keys: ∀ (b:Nat) m,fs[b]? =some m→(m.map (·.1)).Nodup
structure vd (w:bT) (bs:List (List (aC×Int))):Prop where
 len:bs.length=w.n+1
 max: ∀ (b:Nat) m,bs[b]? =some m→vC m (back w b)
 keys: ∀ (b:Nat) m,bs[b]? =some m→(m.map (·.1)).Nodup
theorem yC.mem {w:bT} {fs:List (List (aC×Int))} (h:yC w fs) {b:Nat} {m:List (aC×Int)} (hm:fs[b]? =some m) {p:aC×Int} (hp:p∈m):p∈fwd w b:=(h.min b m hm).1 _ _ ((fI (h.keys b m hm)).1 hp)
theorem vd.mem {w:bT} {fs:List (List (aC×Int))} (h:vd w fs) {b:Nat} {m:List (aC×Int)} (hm:fs[b]? =some m) {p:aC×Int} (hp:p∈m):p∈back w b:=(h.max b m hm).1 _ _ ((fI (h.keys b m hm)).1 hp)
theorem Iy {w:bT} {b:Nat} {t l ys:List (Int×aa)} (ht:w.vU[b]? =some t) (h: ∀ o∈t,o∈l∨o∈ys) (h0:l=[]) (hs:(-1,(⟨w.Start,w.fE⟩:aa))∈ys): ∀ o∈iN w b,o∈ys:=fun o ho=>by
 rcases (yh ht).1 ho with rfl|ho
 ·exact hs
 ·rcases h o ho with q|q
  ·rw [h0] at q; cases q
  ·exact q
end
section
/-- by these options all is yielded -/
def l0 (w:bT) (b:Nat) (mf mb:List (aC×Int)) (os ys:List (Int×aa)):Prop:= ∀ o∈os,∀ p∈mf,∀ u∈mb,∀ q,mS w b p u o=some q→q∈ys
def nU (w:bT) (b:Nat) (mf mb:List (aC×Int)) (o:Int×aa) (left:List (aC×Int)) (ys:List (Int×aa)):Prop:= ∀ p∈mf,p∈left∨ ∀ u∈mb,∀ q,mS w b p u o=some q→q∈ys
def nO (w:bT) (b:Nat) (mb:List (aC×Int)) (o:Int×aa) (p:aC×Int) (left:List (aC×Int)) (ys:List (Int×aa)):Prop:= ∀ u∈mb,u∈left∨ ∀ q,mS w b p u o=some q→q∈ys
variable {w:bT} {b:Nat} {mf mb left:List (aC×Int)} {o x:Int×aa} {os ys:List (Int×aa)} {p u:aC×Int}
theorem l0.nil:l0 w b mf mb [] ys:=fun o ho=>by cases ho
theorem l0.app (h:l0 w b mf mb os ys):l0 w b mf mb os (ys++[x]):=fun o ho p hp u hu q e=>List.mem_append_left _ (h o ho p hp u hu q e)
theorem nU.app (h:nU w b mf mb o left ys):nU w b mf mb o left (ys++[x]):=fun p hp=>(h p hp).imp id fun h u hu q e=>List.mem_append_left _ (h u hu q e)
theorem nU.start:nU w b mf mb o mf ys:=fun p hp=> .inl hp
theorem nO.start:nO w b mb o p mb ys:=fun p hp=> .inl hp
theorem nO.skip {t:aC} {v:Int} (hn:(left.map (·.1)).Nodup) (hm:(t,v)∈left) (h:nO w b mb o p left ys) (he:mS w b p (t,v) o=none):nO w b mb o p (cH left t) ys:=fun u hu=>by
 rcases h u hu with q|q
 ·rcases mj hn hm q with q|q
  ·exact .inl q
  ·right; intro z hz; rw [q,he] at hz; cases hz
 ·exact .inr q
theorem nO.Vq {t:aC} {v:Int} (hn:(left.map (·.1)).Nodup) (hm:(t,v)∈left) (h:nO w b mb o p left ys) (he:mS w b p (t,v) o=some x):nO w b mb o p (cH left t) (ys++[x]):=fun u hu=>by
 rcases h u hu with q|q
 ·rcases mj hn hm q with q|q
  ·exact .inl q
  ·right; intro z hz; rw [q,he] at hz; cases hz; simp
 ·right; intro z hz; exact List.mem_append_left _ (q z hz)
theorem nU.next {t:aC} {v:Int} {l2:List (aC×Int)} (hn:(left.map (·.1)).Nodup) (hm:(t,v)∈left) (h:nU w b mf mb o left ys) (hq:nO w b mb o (t,v) l2 ys) (h0:l2=[]):nU w b mf mb o (cH left t) ys:=fun p hp=>by
 rcases h p hp with q|q
 ·rcases mj hn hm q with q|q
  ·exact .inl q
  ·right; intro u hu z hz; subst q
   rcases hq u hu with q|q
   ·rw [h0] at q; cases q
   ·exact q z hz
 ·exact .inr q
theorem l0.next (h:l0 w b mf mb os ys) (hp:nU w b mf mb o left ys) (h0:left=[]):l0 w b mf mb (os++[o]) ys:=fun o' ho p hp' u hu q e=>by
 rcases dN.1 ho with ho|ho
 ·exact h o' ho p hp' u hu q e
 ·simp only [bI] at ho; subst ho
  rcases hp p hp' with z|z
  ·rw [h0] at z; cases z
  ·exact z u hu q e
theorem l0.fin (h:l0 w b mf mb os ys) (ho: ∀ o∈iN w b,o∈os): ∀ q∈qn w b mf mb,q∈ys:=fun q hq=>by
 obtain ⟨o,A,p,B,u,C,e⟩:=iB.1 hq
 exact h o (ho o A) p B u C q e
theorem Ig (h:max (p.2+bM w b) o.2.Lo≤min u.2 o.2.Hi) (h2:kI w (dF (dF p.1 u.1) (fD o.1))=true):mS w b p u o=some (o.1,⟨max (p.2+bM w b) o.2.Lo,min u.2 o.2.Hi⟩):=by
 unfold mS jP yj; rw [if_pos ⟨h,h2⟩]
theorem MK (h: ¬ max (p.2+bM w b) o.2.Lo≤min u.2 o.2.Hi):mS w b p u o=none:=by
 unfold mS jP; rw [if_neg (fun q=>h q.1)]
theorem Hs (h2:kI w (dF (dF p.1 u.1) (fD o.1))=false):mS w b p u o=none:=by
 unfold mS yj; rw [if_neg (fun q=>by rw [h2] at q; exact absurd q.2 dc)]
theorem oa {v:Int} (h:w.pq[b]? =some v):bM w b=v:=by unfold bM; rw [h]; rfl
theorem DL {t q:aC} {v z y:Int} (hy:w.pq[b]? =some y) (h:max (v+y) o.2.Lo≤min z o.2.Hi) (h2:kI w (dF (dF t q) (fD o.1))=true):mS w b (t,v) (q,z) o=some (o.1,⟨max (v+y) o.2.Lo,min z o.2.Hi⟩):=by
 have e:=oa hy
 subst e
 exact Ig h h2
theorem HZ {t q:aC} {v z y:Int} (hy:w.pq[b]? =some y) (h: ¬ max (v+y) o.2.Lo≤min z o.2.Hi):mS w b (t,v) (q,z) o=none:=by
 have e:=oa hy
 subst e
 exact MK h
theorem oU {m:List (aC×Int)} {k:aC} {y:Int} (h:(m.map (·.1)).Nodup):((e_ m k y).map (·.1)).Nodup:=by
 unfold e_
 by_cases hx:(m.lookup k).isSome
 ·rw [if_pos hx,List.map_map]
  have e:m.map ((fun p=>p.1)∘fun p=>if p.1=k then (k,y) else p)=m.map (·.1):=by
   apply List.map_congr_left
   intro p _
   simp only [Function.comp]
   split
   ·rename_i e; exact e.symm
   ·rfl
  rw [e]; exact h
 ·rw [if_neg hx,List.map_append,List.nodup_append]
  refine ⟨h,sm,?_⟩
  intro a ha c hc
  simp only [List.map_cons,List.map_nil,bI] at hc
  rw [hc]
  obtain ⟨p,hp,rfl⟩:=bZ.1 ha
  have hn:m.lookup k=none:=by cases h0:m.lookup k with
   |none=>rfl
   |some v=>exact absurd (by rw [h0]; rfl) hx
  exact i_.1 hn p hp
theorem Cc {m:List (aC×Int)} {q:aC×Int} (h:(m.map (·.1)).Nodup):((pG m q).map (·.1)).Nodup:=by
 unfold pG; split
 ·exact oU h
 ·split
  ·exact oU h
  ·exact h
theorem Db {m:List (aC×Int)} {q:aC×Int} (h:(m.map (·.1)).Nodup):((pf m q).map (·.1)).Nodup:=by
 unfold pf; split
 ·exact oU h
 ·split
  ·exact oU h
  ·exact h
/-- a map of the first times, on its way -/
structure yc (w:bT) (b:Nat) (m:List (aC×Int)):Prop where
 snd:vV m (fwd w (b+1))
 keys:(m.map (·.1)).Nodup
structure wk (w:bT) (b:Nat) (m:List (aC×Int)):Prop where
 snd:vV m (back w b)
 keys:(m.map (·.1)).Nodup
 zero: ∃ v,m.lookup ⟨0,0⟩=some v∧w.fE≤v
theorem J0 (h:max (p.2+bM w b) o.2.Lo≤min o.2.Hi w.fE):lj w b p o=some (dF p.1 (fD o.1),max (p.2+bM w b) o.2.Lo):=by unfold lj; rw [if_pos h]
theorem OW (h: ¬ max (p.2+bM w b) o.2.Lo≤min o.2.Hi w.fE):lj w b p o=none:=by unfold lj; rw [if_neg h]
theorem Km (h:o.2.Lo≤min p.2 o.2.Hi):oz w b p o=some (dF p.1 (fD o.1),min p.2 o.2.Hi-bM w b):=by unfold oz; rw [if_pos h]
theorem On (h: ¬ o.2.Lo≤min p.2 o.2.Hi):oz w b p o=none:=by unfold oz; rw [if_neg h]
theorem yc.start:yc w b []:=⟨fun t v h=>by simp at h,List.nodup_nil⟩
theorem yc.add {m:List (aC×Int)} {q:aC×Int} (h:yc w b m) (hp:p∈fwd w b) (ho:o∈iN w b) (he:lj w b p o=some q):yc w b (pG m q):=⟨IK h.snd (gf.2 ⟨p,hp,o,ho,he⟩),Cc h.keys⟩
theorem wk.start (hb:b<w.n):wk w b [(⟨0,0⟩,w.fE)]:=⟨fun t v h=>by
 obtain ⟨rfl,rfl⟩:=o_.1 h
 exact (pb hb).2 (.inl U),sm,w.fE,o_.2 ⟨U,U⟩,Int.le_refl _⟩
theorem wk.add {m:List (aC×Int)} {q:aC×Int} (hb:b<w.n) (h:wk w b m) (hp:p∈back w (b+1)) (ho:o∈iN w b) (he:oz w b p o=some q):wk w b (pf m q):=⟨HG h.snd ((pb hb).2 (.inr ⟨p,hp,o,ho,he⟩)),Db h.keys,by
 obtain ⟨v,A,C⟩:=h.zero
 obtain ⟨v',B,D⟩:=qJ (q:=q) _ _ A
 exact ⟨v',B,I⟩⟩
theorem jv.none_ {m:List (aC×Int)} (h:jv w b m p os) (he:lj w b p o=none):jv w b m p (os++[o]):=h.add (xb.refl _) fun q hq=>by rw [he] at hq; cases hq
theorem jv.JN {m:List (aC×Int)} {q:aC×Int} (h:jv w b m p os) (he:lj w b p o=some q):jv w b (pG m q) p (os++[o]):=h.add vX fun q' hq=>by rw [he] at hq; cases hq; exact Hp
theorem jo.none_ {m:List (aC×Int)} (h:jo w b m p os) (he:oz w b p o=none):jo w b m p (os++[o]):=h.add (wZ.refl _) fun q hq=>by rw [he] at hq; cases hq
theorem jo.JN {m:List (aC×Int)} {q:aC×Int} (h:jo w b m p os) (he:oz w b p o=some q):jo w b (pf m q) p (os++[o]):=h.add qJ fun q' hq=>by rw [he] at hq; cases hq; exact H0
/-- what of a map of the beam before is used already -/
def kh (w:bT) (b:Nat) (mb m left:List (aC×Int)):Prop:= ∀ p∈mb,p∈left∨jv w b m p (iN w b)
def jY (w:bT) (b:Nat) (mb m left:List (aC×Int)):Prop:= ∀ p∈mb,p∈left∨jo w b m p (iN w b)
theorem kh.start {m:List (aC×Int)}:kh w b mb m mb:=fun p hp=> .inl hp
theorem jY.start {m:List (aC×Int)}:jY w b mb m mb:=fun p hp=> .inl hp
theorem kh.lower {m m':List (aC×Int)} (h:kh w b mb m left) (hl:xb m m'):kh w b mb m' left:=fun p hp=>(h p hp).imp id fun h=>h.lower hl
theorem jY.upper {m m':List (aC×Int)} (h:jY w b mb m left) (hl:wZ m m'):jY w b mb m' left:=fun p hp=>(h p hp).imp id fun h=>h.upper hl
theorem kh.next {m:List (aC×Int)} {t:aC} {v:Int} (hn:(left.map (·.1)).Nodup) (hm:(t,v)∈left) (h:kh w b mb m left) (hd:jv w b m (t,v) os) (ho: ∀ o∈iN w b,o∈os):kh w b mb m (cH left t):=fun p hp=>by
 rcases h p hp with q|q
 ·rcases mj hn hm q with q|q
  ·exact .inl q
  ·right; rw [q]; exact hd.sub ho
 ·exact .inr q
theorem jY.next {m:List (aC×Int)} {t:aC} {v:Int} (hn:(left.map (·.1)).Nodup) (hm:(t,v)∈left) (h:jY w b mb m left) (hd:jo w b m (t,v) os) (ho: ∀ o∈iN w b,o∈os):jY w b mb m (cH left t):=fun p hp=>by
 rcases h p hp with q|q
 ·rcases mj hn hm q with q|q
  ·exact .inl q
  ·right; rw [q]; exact hd.sub ho
 ·exact .inr q
theorem kh.fin {m:List (aC×Int)} (h:kh w b mb m left) (h0:left=[]): ∀ p∈mb,jv w b m p (iN w b):=fun p hp=>by
 rcases h p hp with q|q
 ·rw [h0] at q; cases q
 ·exact q
theorem jY.fin {m:List (aC×Int)} (h:jY w b mb m left) (h0:left=[]): ∀ p∈mb,jo w b m p (iN w b):=fun p hp=>by
 rcases h p hp with q|q
 ·rw [h0] at q; cases q
 ·exact q
end
section
def mR (a b:aa):aa:=⟨a.Lo+b.Lo,a.Hi+b.Hi⟩
def dL:aa:=⟨0,0⟩
def kW (a:aa) (l:List aa):aa:=l.foldl mR a
def lV (z:aa):Prop:=(-1000000000≤z.Lo∧z.Lo≤1000000000)∧ -1000000000≤z.Hi∧z.Hi≤1000000000
theorem zn {a:aa} {l:List aa} {i:Nat} {z:aa} (h:l[i]? =some z):kW a (l.take (i+1))=mR (kW a (l.take i)) z:=by
 rw [List.take_add_one,h]; unfold kW; simp
theorem Q5 {a:aa} {l:List aa} (ha:lV a) (hl: ∀ z∈l,lV z): ∀ i:Nat,(-1000000000-1000000000*(i:Int)≤(kW a (l.take i)).Lo∧(kW a (l.take i)).Lo≤1000000000+1000000000*(i:Int))∧ -1000000000-1000000000*(i:Int)≤(kW a (l.take i)).Hi∧(kW a (l.take i)).Hi≤1000000000+1000000000*(i:Int):=by
 intro i
 induction i with
 |zero=>unfold lV at ha; simp [kW]; omega
 |succ i ih=>
  cases h:l[i]? with
  |none=>rw [List.take_add_one,h]; simp only [Option.toList_none,List.append_nil]; omega
  |some z=>
   have hz:=hl z (aS h)
   unfold lV at hz
   rw [zn h]
   simp only [mR]
   omega
theorem LV {a:aa} {l:List aa} {i:Nat} (h:l.length≤i):kW a (l.take i)=kW a l:=by rw [List.take_of_length_le h]
theorem nM {a z:aa}:vA (aa.cells (kW a [z]))=vA (aa.cells (mR a z)):=rfl
theorem D1 {a y z:aa}:vA (aa.cells (kW a [y,z]))=vA (aa.cells (mR (mR a y) z)):=rfl
/-- how long the run is from one mark, over so many stretches; by how much it falls -/
def eO (ts:List al) (f:Nat):Nat→aa
 |0=>dL
 |k+1=>match ts[f+k]? with
  |some x=>mR (eO ts f k) x.kS
  |none=>eO ts f k
def gG (ts:List al) (f:Nat):Nat→aa
 |0=>dL
 |k+1=>match ts[f+k]? with
  |some x=>mR (gG ts f k) x.l3
  |none=>gG ts f k
theorem qe {ts:List al} {f k:Nat} {x:al} (h:ts[f+k]? =some x):eO ts f (k+1)=mR (eO ts f k) x.kS:=by simp [eO,h]
theorem qc {ts:List al} {f k:Nat} {x:al} (h:ts[f+k]? =some x):gG ts f (k+1)=mR (gG ts f k) x.l3:=by simp [gG,h]
theorem mD {ts:List al} (ht: ∀ x∈ts,bP x) (f:Nat): ∀ k:Nat,(0≤(eO ts f k).Lo∧(eO ts f k).Lo≤(eO ts f k).Hi)∧(eO ts f k).Hi≤30000*(k:Int):=by
 intro k
 induction k with
 |zero=>simp [eO,dL]
 |succ k ih=>
  simp only [eO]
  cases h:ts[f+k]? with
  |none=>simp only; omega
  |some x=>
   have hx:=(ht x (aS h)).2.1
   simp only [dZ] at hx
   simp only [mR]
   omega
theorem Gt {ts:List al} (ht: ∀ x∈ts,bP x) (f:Nat): ∀ k:Nat,(0≤(gG ts f k).Lo∧(gG ts f k).Lo≤(gG ts f k).Hi)∧(gG ts f k).Hi≤5000*(k:Int):=by
 intro k
 induction k with
 |zero=>simp [gG,dL]
 |succ k ih=>
  simp only [gG]
  cases h:ts[f+k]? with
  |none=>simp only; omega
  |some x=>
   have hx:=(ht x (aS h)).2.2.1
   simp only [dZ] at hx
   simp only [mR]
   omega
theorem qM {ts:List al} (ht: ∀ x∈ts,bP x) {f k:Nat} (hk:k≤13):lV (eO ts f k):=by
 have:=mD ht f k; unfold lV; omega
theorem yq {ts:List al} (ht: ∀ x∈ts,bP x) {f k:Nat} (hk:k≤13):lV (gG ts f k):=by
 have:=Gt ht f k; unfold lV; omega
theorem vm {x:al} (h:bP x):lV x.kS:=by have:=h.2.1; simp only [dZ] at this; unfold lV; omega
theorem vt {x:al} (h:bP x):lV x.l3:=by have:=h.2.2.1; simp only [dZ] at this; unfold lV; omega
theorem z5 {ts:List al} (h: ¬ (if de ts=true then (0:Int) else 10)=0):de ts=false∧(if de ts=true then (0:Int) else 10)=10:=by
 cases ht:de ts with
 |true=>rw [ht] at h; exact absurd rfl h
 |false=>exact ⟨rfl,rfl⟩
theorem Fu {ts:List al} (h:(if de ts=true then (0:Int) else 10)=0):de ts=true:=by
 cases ht:de ts with
 |true=>rfl
 |false=>rw [ht] at h; exact absurd h dc
/-- what the iterator of marks yields -/
def tD (ts:List al) (f:Nat):List (List Value):=(List.range (ts.length-f+1)).map fun (k:Nat)=>[.agg (eO ts f k).cells.toArray,.agg (gG ts f k).cells.toArray]
theorem uy {ts:List al} {f:Nat}:(tD ts f).length=ts.length-f+1:=by simp [tD]
theorem z8 {ts:List al} {f k:Nat} (h:k≤ts.length-f):(tD ts f)[k]? =some [.agg (eO ts f k).cells.toArray,.agg (gG ts f k).cells.toArray]:=by
 simp [tD,List.getElem?_range (show k<ts.length-f+1 by omega)]
theorem H_ {ts:List al} {f k:Nat} {x:List Value} (h:(tD ts f)[k]? =some x):k≤ts.length-f∧x=[.agg (eO ts f k).cells.toArray,.agg (gG ts f k).cells.toArray]:=by
 have hi:k<ts.length-f+1:=by
  have:=(aV.1 h).1
  simpa [tD] using this
 rw [z8 I] at h
 exact ⟨I,(Option.some.inj h).symm⟩
theorem EF {ts:List al} {f:Nat}: ∀ x∈tD ts f,x.length=2:=fun x hx=>by
 obtain ⟨k,_,rfl⟩:=bZ.1 hx; rfl
end
section
def fH (ts:List al) (s:cN):Prop:=(0≤s.a_∧s.a_<(ts.length:Int))∧ ∃ x,ts[s.a_.toNat]? =some x∧dZ s.mX 0 (x.kS.Lo-1)
noncomputable instance (ts:List al) (s:cN):Decidable (fH ts s):=Classical.propDecidable _
theorem CR {ts:List al} {s:cN} {x:al} (h:0≤s.a_∧s.a_<(ts.length:Int)) (hx:ts[s.a_.toNat]? =some x):fH ts s↔dZ s.mX 0 (x.kS.Lo-1):=
 ⟨fun A=>by obtain ⟨y,hy,B⟩:=A.2; rw [hx] at hy; cases hy; exact B,fun A=>⟨h,x,hx,A⟩⟩
theorem CV {ts:List al} {s:cN} (h: ¬ (0≤s.a_∧s.a_<(ts.length:Int))): ¬ fH ts s:=fun A=>h A.1
theorem Bn {ts:List al} {s:cN} (ht: ∀ x∈ts,bP x) (h:fH ts s):(0≤s.mX.Lo∧s.mX.Lo≤s.mX.Hi)∧s.mX.Hi≤30000:=by
 obtain ⟨x,hx,A⟩:=h.2
 have:=(ht x (aS hx)).2.1
 simp only [dZ] at A this
 omega
theorem E4 {ts:List al} {a:cN}:vB (decide (∀ s∈[a],fH ts s))=vB (decide (fH ts a)):=congrArg _ (gN.2 sm)
theorem FN {ts:List al} {a b:cN}:vB (decide (∀ s∈[a,b],fH ts s))=vB (decide (fH ts a∧fH ts b)):=congrArg _ (gN.2 sm)
def oD (z:aa):aa:=⟨-z.Hi,-z.Lo⟩
def Ni (ts:List al) (s:cN):aa:=mR (eO ts 0 s.a_.toNat) s.mX
noncomputable def F7 (ts:List al) (s:cN):Int:=if de ts=true then (if fH ts s then 0 else 12) else 10
noncomputable def Qd (ts:List al) (s:cN):aa:=if F7 ts s=0 then Ni ts s else dL
theorem LI {ts:List al} {s:cN} (h:de ts=false):F7 ts s=10∧Qd ts s=dL:=by
 have e:F7 ts s=10:=by unfold F7; rw [h]; rfl
 exact ⟨e,by unfold Qd; rw [e]; rfl⟩
theorem Ko {ts:List al} {s:cN} (h:de ts=true) (h2: ¬ fH ts s):F7 ts s=12∧Qd ts s=dL:=by
 have e:F7 ts s=12:=by unfold F7; rw [if_pos h,if_neg h2]
 exact ⟨e,by unfold Qd; rw [e]; rfl⟩
theorem xB {ts:List al} {s:cN} (h:de ts=true) (h2:fH ts s):F7 ts s=0∧Qd ts s=Ni ts s:=by
 have e:F7 ts s=0:=by unfold F7; rw [if_pos h,if_pos h2]
 exact ⟨e,if_pos e⟩
theorem FZ {ts:List al} {s:cN} (h:de ts=true):F7 ts s=0↔fH ts s:=by
 unfold F7; rw [if_pos h]; split<;>simp [*]
def x4 (ts:List al) (a b:cN):aa:=eO ts (min a.a_ b.a_).toNat (max a.a_ b.a_-min a.a_ b.a_).toNat
def kj (ts:List al) (a b:cN):aa:=mR (mR (if b.a_<a.a_ then oD (x4 ts a b) else x4 ts a b) b.mX) (oD a.mX)
noncomputable def l5 (ts:List al) (a b:cN):Int:=if de ts=true then (if fH ts a∧fH ts b then 0 else 12) else 10
noncomputable def ld (ts:List al) (a b:cN):aa:=if l5 ts a b=0 then kj ts a b else dL
theorem vu {ts:List al} {a b:cN} (h:de ts=false):l5 ts a b=10∧ld ts a b=dL:=by
 have e:l5 ts a b=10:=by unfold l5; rw [h]; rfl
 exact ⟨e,by unfold ld; rw [e]; rfl⟩
theorem pE {ts:List al} {a b:cN} (h:de ts=true) (h2: ¬ (fH ts a∧fH ts b)):l5 ts a b=12∧ld ts a b=dL:=by
 have e:l5 ts a b=12:=by unfold l5; rw [if_pos h,if_neg h2]
 exact ⟨e,by unfold ld; rw [e]; rfl⟩
theorem lI {ts:List al} {a b:cN} (h:de ts=true) (h2:fH ts a∧fH ts b):l5 ts a b=0∧ld ts a b=kj ts a b:=by
 have e:l5 ts a b=0:=by unfold l5; rw [if_pos h,if_pos h2]
 exact ⟨e,if_pos e⟩
theorem AX {z:aa} (h:lV z):lV (oD z):=by unfold lV oD at *; simp only; omega
theorem qD {ts:List al} {s:cN} (ht: ∀ x∈ts,bP x) (h:fH ts s):lV s.mX:=by have:=Bn ht h; unfold lV; omega
theorem Rw {ts:List al} {a b:cN} (ht: ∀ x∈ts,bP x) (hl:ts.length≤12) (ha:fH ts a) (hb:fH ts b):(0≤(x4 ts a b).Lo∧(x4 ts a b).Lo≤(x4 ts a b).Hi)∧(x4 ts a b).Hi≤360000:=by
 have h:=mD ht (min a.a_ b.a_).toNat (max a.a_ b.a_-min a.a_ b.a_).toNat
 have A:=ha.1
 have B:=hb.1
 unfold x4
 omega
theorem xX {ts:List al} {a b:cN} (ht: ∀ x∈ts,bP x) (hl:ts.length≤12) (ha:fH ts a) (hb:fH ts b):(-400000≤(kj ts a b).Lo∧(kj ts a b).Lo≤(kj ts a b).Hi)∧(kj ts a b).Hi≤400000:=by
 have h:=Rw ht hl ha hb
 have A:=Bn ht ha
 have B:=Bn ht hb
 unfold kj mR oD
 split<;>simp only <;>omega
theorem RZ {ts:List al} {s:cN} (ht: ∀ x∈ts,bP x) (hl:ts.length≤12) (h:fH ts s):(0≤(Ni ts s).Lo∧(Ni ts s).Lo≤(Ni ts s).Hi)∧(Ni ts s).Hi≤400000:=by
 have A:=mD ht 0 s.a_.toNat
 have B:=Bn ht h
 have C:=h.1
 unfold Ni mR
 simp only; omega
theorem IE {α:Type} {p:Nat→α→Bool} {l:List α}:((l.zipIdx.filter fun q=>p q.2 q.1).map fun q=>(q.2:Int))=[]↔ ∀ (i:Nat) x,l[i]? =some x→p i x=false:=by
 rw [List.map_eq_nil_iff,List.filter_eq_nil_iff]
 constructor
 ·intro h i x hx
  have:=h (x,i) (by rw [List.mem_zipIdx_iff_getElem?]; simpa using hx)
  simpa using this
 ·rintro h ⟨x,i⟩ hm
  rw [List.mem_zipIdx_iff_getElem?] at hm
  simpa using h i x (by simpa using hm)
/-- the places of a list at which something is so -/
def sT {α:Type} (p:Nat→α→Bool) (l:List α) (n:Nat):List Int:=(((l.take n).zipIdx.filter fun q=>p q.2 q.1).map fun q=>(q.2:Int))
theorem Lw {α:Type} {p:Nat→α→Bool} {l:List α} {i:Nat} {x:α} (hx:l[i]? =some x) (h:p i x=true):sT p l (i+1)=sT p l i++[(i:Int)]:=by
 have hi:=(aV.1 hx).1
 unfold sT
 rw [List.take_add_one,hx,List.zipIdx_append,List.filter_append,List.map_append]
 simp [Nat.min_eq_left (Nat.le_of_lt hi),h]
theorem O9 {α:Type} {p:Nat→α→Bool} {l:List α} {i:Nat} {x:α} (hx:l[i]? =some x) (h:p i x=false):sT p l (i+1)=sT p l i:=by
 have hi:=(aV.1 hx).1
 unfold sT
 rw [List.take_add_one,hx,List.zipIdx_append,List.filter_append,List.map_append]
 simp [Nat.min_eq_left (Nat.le_of_lt hi),h]
theorem Dv {α:Type} {p:Nat→α→Bool} {l:List α} {n:Nat}:(sT p l n).length≤n:=by
 unfold sT
 rw [List.length_map]
 refine Nat.le_trans (List.length_filter_le _ _) ?_
 rw [List.length_zipIdx,List.length_take]; omega
def KE {α:Type} (p:Nat→α→Bool) (l:List α):List Int:=sT p l l.length
theorem NL {α:Type} {p:Nat→α→Bool} {l:List α} {n:Nat} (h:n=l.length):sT p l n=KE p l:=by rw [h]; rfl
theorem G_ {α:Type} {p:Nat→α→Bool} {l:List α}:(KE p l).length=0↔ ∀ (i:Nat) x,l[i]? =some x→p i x=false:=by
 unfold KE sT
 rw [List.length_eq_zero_iff,List.take_length]
 exact IE
end
section
theorem Ab (p:Int→Bool) (n:Nat): ∃ r:Int,r=((List.range n).findIdx fun (k:Nat)=>p (k:Int):Nat):=⟨_,rfl⟩
noncomputable def fu (p:Int→Bool) (n:Nat):Int:=Classical.choose (Ab p n)
theorem s9 (p:Int→Bool) (n:Nat):fu p n=((List.range n).findIdx fun (k:Nat)=>p (k:Int):Nat):=Classical.choose_spec (Ab p n)
theorem iE {p:Int→Bool} {n:Nat}:0≤fu p n∧fu p n≤n:=by
 rw [s9]
 have:=List.findIdx_le_length (xs:=List.range n) (p:=fun (k:Nat)=>p (k:Int))
 rw [List.length_range] at this
 omega
theorem uL {p:Int→Bool} {n:Nat} {x:Int} (h0:0≤x) (h:x<fu p n):p x=false:=by
 have hb:=iE (p:=p) (n:=n)
 rw [s9] at h
 have B:x.toNat<(List.range n).findIdx fun (k:Nat)=>p (k:Int):=by omega
 have A:=List.not_of_lt_findIdx B
 simp only [List.getElem_range] at A
 rw [show (x.toNat:Int)=x by omega] at A
 simpa using A
theorem zB {p:Int→Bool} {n:Nat} (h:fu p n<n):p (fu p n)=true:=by
 rw [s9] at h ⊢
 have A:((List.range n).findIdx fun (k:Nat)=>p (k:Int))<(List.range n).length:=by rw [List.length_range]; omega
 have:=List.findIdx_getElem (w:=A)
 simpa using this
theorem zN {p:Int→Bool} {n:Nat} {r:Int} (h0:0≤r) (hn:r<n) (hr:p r=true) (hb: ∀ x,0≤x→x<r→p x=false):fu p n=r:=by
 have A:=iE (p:=p) (n:=n)
 rcases Int.lt_trichotomy (fu p n) r with h|h|h
 ·have:=hb _ A.1 h
  have e:=zB (p:=p) (n:=n) I
  rw [e] at this; cases this
 ·exact h
 ·have:=uL h0 h
  rw [hr] at this; cases this
end
section
def pI (n by_:Int):Int:=(n+by_-1)/by_
/-- by how much a sync may be off -/
def sj (c:ar) (at_:Int) (x:cr):Int:=pI (c.dv*max (at_-x.At) (x.At-at_)) 1000000
def ly (c:ar) (at_:Int) (s:aa) (x:cr):aa:=⟨max s.Lo (x.er.Lo-sj c at_ x),min s.Hi (x.er.Hi+sj c at_ x)⟩
def gI (c:ar) (at_:Int) (k:Nat):aa:=(c.aX.take k).foldl (ly c at_) ⟨-1099511627776,1099511627776⟩
def gQ (c:ar) (at_:Int):aa:=c.aX.foldl (ly c at_) ⟨-1099511627776,1099511627776⟩
theorem kf {c:ar} {at_:Int} {k:Nat} {x:cr} (h:c.aX[k]? =some x):gI c at_ (k+1)=ly c at_ (gI c at_ k) x:=by
 unfold gI; rw [List.take_add_one,h,List.foldl_append]; rfl
theorem n7 {c:ar} {at_:Int} {k:Nat} (h:c.aX.length≤k):gI c at_ k=gQ c at_:=by unfold gI gQ; rw [List.take_of_length_le h]
def kH (c:ar) (i:Nat):Int:=if i=0 then-1 else ((c.aX[i-1]?).map (·.At)).getD 0
def fG (c:ar) (i:Nat) (x:cr):Prop:=(kH c i<x.At∧x.At≤86400000)∧ -10000≤x.er.Lo∧x.er.Lo≤x.er.Hi∧x.er.Hi≤10000
def n_ (c:ar) (x o:cr):Prop:=x.er.Lo-o.er.Hi≤pI (c.dv*(x.At-o.At)) 1000000∧o.er.Lo-x.er.Hi≤pI (c.dv*(x.At-o.At)) 1000000
structure eJ (c:ar):Prop where
 sM:0≤c.dv∧c.dv≤1000
 len:1≤c.aX.length∧c.aX.length≤5
 sync: ∀ (i:Nat) x,c.aX[i]? =some x→fG c i x
 pair: ∀ (i k:Nat) x o,c.aX[i]? =some x→k<i→c.aX[k]? =some o→n_ c x o
noncomputable instance (c:ar):Decidable (eJ c):=Classical.propDecidable _
theorem gO {c:ar} {i:Nat} (h:i=0):kH c i= -1:=if_pos h
theorem xn {c:ar} {i:Nat} {y:cr} (h:0<i) (hy:c.aX[i-1]? =some y):kH c i=y.At:=by unfold kH; rw [if_neg I,hy]; rfl
theorem oH {c:ar} {i:Nat} {y:cr} (hy:c.aX[i]? =some y):kH c (i+1)=y.At:=by unfold kH; rw [if_neg I,Nat.add_sub_cancel,hy]; rfl
/-- the times of the syncs -/
theorem Ot {c:ar} (h: ∀ (i:Nat) x,c.aX[i]? =some x→fG c i x): ∀ (i:Nat) x,c.aX[i]? =some x→0≤x.At∧ ∀ (k:Nat) o,k<i→c.aX[k]? =some o→o.At<x.At:=by
 intro i
 induction i with
 |zero=>
  intro x hx
  have:=(h 0 x hx).1.1
  rw [gO rfl] at this
  exact ⟨I,fun k o hk=>by omega⟩
 |succ i ih=>
  intro x hx
  have hi:=(aV.1 hx).1
  have hy:c.aX[i]? =some (c.aX[i]'I):=eN I
  have B:=ih _ hy
  have A:=(h (i+1) x hx).1.1
  rw [oH hy] at A
  refine ⟨I,fun k o hk ho=>?_⟩
  by_cases e:k=i
  ·subst e; rw [hy] at ho; cases ho; exact A
  ·have:=B.2 k o I ho; omega
theorem eJ.sV {c:ar} (h:eJ c) {i:Nat} {x:cr} (hx:c.aX[i]? =some x):(0≤x.At∧x.At≤86400000)∧ -10000≤x.er.Lo∧x.er.Lo≤x.er.Hi∧x.er.Hi≤10000:=by
 have A:=h.sync i x hx
 exact ⟨⟨(Ot h.sync i x hx).1,A.1.2⟩,A.2⟩
theorem F6 {d a b:Int} (hd:0≤d∧d≤1000) (ha:0≤a∧a≤90000000) (hb:0≤b∧b≤90000000):0≤d*max (a-b) (b-a)∧d*max (a-b) (b-a)≤90000000000:=by
 have:=QO (a:=d) (b:=max (a-b) (b-a)) (A:=1000) (B:=90000000) hd.1 hd.2 I I
 omega
theorem vl {c:ar} {at_:Int} {x:cr} (hd:0≤c.dv∧c.dv≤1000) (ha:0≤at_∧at_≤90000000) (hx:0≤x.At∧x.At≤86400000):0≤sj c at_ x∧sj c at_ x≤90001:=by
 have h:=F6 hd ha (show 0≤x.At∧x.At≤90000000 by omega)
 unfold sj pI; omega
theorem DA {c:ar} {at_:Int} (h:eJ c) (ha:0≤at_∧at_≤90000000): ∀ k:Nat,(-1099511627776≤(gI c at_ k).Lo∧(gI c at_ k).Lo≤10000)∧ -10000≤(gI c at_ k).Hi∧(gI c at_ k).Hi≤1099511627776:=by
 intro k
 induction k with
 |zero=>simp [gI]
 |succ k ih=>
  cases hx:c.aX[k]? with
  |none=>unfold gI at ih ⊢; rw [List.take_add_one,hx]; simpa using ih
  |some x=>
   have hb:=h.sV hx
   have ho:=vl h.sM ha hb.1
   rw [kf hx]
   unfold ly
   simp only
   omega
theorem q8 {c:ar} {at_:Int} (h:eJ c) (ha:0≤at_∧at_≤90000000):(-110000≤(gQ c at_).Lo∧(gQ c at_).Lo≤10000)∧ -10000≤(gQ c at_).Hi∧(gQ c at_).Hi≤110000:=by
 obtain ⟨n,hn⟩: ∃ n,c.aX.length=n+1:=⟨c.aX.length-1,by have:=h.len; omega⟩
 have hx:c.aX[n]? =some (c.aX[n]'I):=eN I
 have hb:=h.sV hx
 have ho:=vl h.sM ha hb.1
 have A:=DA h ha n
 rw [← n7 (k:=n+1) I,kf hx]
 unfold ly
 simp only
 omega
/-- as time goes on, time and what a clock may be ahead, together, never go back -/
theorem Ek {c:ar} (h:eJ c) {a b:Int} (ha:0≤a) (hab:a≤b) (hb:b≤90000000): ∀ k:Nat,(a+(gI c a k).Lo≤b+(gI c b k).Lo∨(gI c a k).Lo= -1099511627776)∧a+(gI c a k).Hi≤b+(gI c b k).Hi:=by
 have step: ∀ (x:cr),0≤x.At∧x.At≤86400000→ ∀ a b:Int,0≤a→a≤b→b≤90000000→sj c a x≤sj c b x+(b-a)∧sj c b x≤sj c a x+(b-a):=by
  intro x hx a b ha hab hb
  have hd:=h.sM
  have e: ∀ u v:Int,u≤v+1000000*(b-a)→pI u 1000000≤pI v 1000000+(b-a):=by intro u v C; unfold pI; omega
  have m: ∀ p q:Int,p≤q+(b-a)→c.dv*p≤c.dv*q+1000000*(b-a):=by
   intro p q A
   have D:c.dv*p≤c.dv*(q+(b-a)):=Int.mul_le_mul_of_nonneg_left A hd.1
   have E:c.dv*(q+(b-a))=c.dv*q+c.dv*(b-a):=Int.mul_add _ _ _
   have F:c.dv*(b-a)≤1000*(b-a):=Int.mul_le_mul_of_nonneg_right hd.2 I
   omega
  exact ⟨e _ _ (m _ _ I),e _ _ (m _ _ I)⟩
 intro k
 induction k with
 |zero=>simp [gI]; omega
 |succ k ih=>
  cases hx:c.aX[k]? with
  |none=>
   have e: ∀ t,gI c t (k+1)=gI c t k:=fun t=>by unfold gI; rw [List.take_add_one,hx]; simp
   rw [e,e]; exact ih
  |some x=>
   have hs:=h.sV hx
   have:=step x hs.1 a b ha hab hb
   have B:=vl (at_:=a) h.sM ⟨ha,I⟩ hs.1
   rw [kf hx,kf hx]
   unfold ly
   simp only
   omega
theorem oI {c:ar} (h:eJ c) {a b:Int} (ha:0≤a) (hab:a≤b) (hb:b≤90000000):a+(gQ c a).Lo≤b+(gQ c b).Lo∧a+(gQ c a).Hi≤b+(gQ c b).Hi:=by
 have A:=Ek h ha hab hb c.aX.length
 have B:=q8 h (at_:=a) ⟨ha,I⟩
 rw [n7 (Nat.le_refl _),n7 (Nat.le_refl _)] at A
 omega
noncomputable def mB (l:aY) (i:Nat):Int:=match l.ag[i]? with
 |some b=>if i=0 then (Ni l.aL b.m0).Lo else (match l.ag[i-1]? with
  |some a=>(kj l.aL a.m0 b.m0).Lo
  |none=>0)
 |none=>0
theorem z7 {l:aY} {b:bE} (h:l.ag[0]? =some b):mB l 0=(Ni l.aL b.m0).Lo:=by unfold mB; rw [h]; rfl
theorem Dx {l:aY} {i:Nat} {a b:bE} (hi:0<i) (h:l.ag[i]? =some b) (ha:l.ag[i-1]? =some a):mB l i=(kj l.aL a.m0 b.m0).Lo:=by unfold mB; rw [h,ha]; simp only; rw [if_neg I]
def kl (l:aY) (b:bE):Prop:=fH l.aL b.m0∧0≤b.jC∧b.jC<(l.ai.length:Int)
def gH (l:aY):Prop:=(1≤l.gK∧l.gK≤5000)∧(1≤(l.ai.length:Int)∧(l.ai.length:Int)≤4)∧(1≤(l.ag.length:Int)∧(l.ag.length:Int)≤6)∧(0≤l.bS∧l.bS≤(l.ag.length:Int)-1)∧(0≤l.eg∧l.eg≤3)∧0≤l.cM∧l.cM≤3
structure lJ (l:aY):Prop where
 head:gH l
 clock: ∀ c∈l.ai,eJ c
 sk: ∀ b∈l.ag,kl l b
 RM: ∀ i,i<l.ag.length→1≤mB l i
noncomputable instance (l:aY):Decidable (lJ l):=Classical.propDecidable _
noncomputable def c_ (l:aY):Int:=if de l.aL=true then (if lJ l then 0 else 50) else 10
theorem zR {l:aY} (h:de l.aL=false):c_ l=10:=by unfold c_; rw [h]; rfl
theorem rl {l:aY} (h:de l.aL=true) (h2: ¬ lJ l):c_ l=50:=by unfold c_; rw [if_pos h,if_neg h2]
theorem yk {l:aY} (h:de l.aL=true) (h2:lJ l):c_ l=0:=by unfold c_; rw [if_pos h,if_pos h2]
theorem fy {l:aY} (h:c_ l=0):de l.aL=true∧lJ l:=by
 unfold c_ at h
 split at h
 ·split at h
  ·exact ⟨asm,asm⟩
  ·omega
 ·omega
theorem GB {l:aY} (ht:de l.aL=true) (hb: ∀ b∈l.ag,kl l b) (i:Nat): -400000≤mB l i∧mB l i≤400000:=by
 have A:=kg ht
 have hl:=lh ht
 unfold mB
 cases h:l.ag[i]? with
 |none=>simp
 |some b=>
  have B:=(hb b (aS h)).1
  simp only
  split
  ·have:=RZ A hl B; omega
  ·cases h2:l.ag[i-1]? with
   |none=>simp
   |some a=>
    have C:=(hb a (aS h2)).1
    have:=xX A hl C B
    simp only; omega
def lQ (l:aY) (s:aH):ar:=((l.ag[s.fR.toNat]?).bind fun b=>l.ai[b.jC.toNat]?).getD ⟨0,[]⟩
def fU (c:ar) (r t:Int):Bool:=decide (r≤t+(gQ c t).Hi)
def fV (c:ar) (r t:Int):Bool:=decide (r<t+(gQ c t).Lo)
noncomputable def lX (c:ar) (r:Int):aa:=⟨fu (fU c r) 86400001,fu (fV c r) 86400001-1⟩
noncomputable def cD (l:aY) (s:aH):aa:=lX (lQ l s) s.Read
noncomputable def ej (l:aY) (i:Nat):Int:=pI (1000*mB l i) l.gK
end
section
open Go.RowKit
def BK (n:Int):Int:=IntKind.i64.wrap n
theorem Be {n:Int} (h:qH n):BK n=n:=ny h
theorem Sk (n:Int): -9223372036854775808≤BK n∧BK n≤9223372036854775807:=by
 unfold BK
 rw [IntKind.wrap_i64]
 omega
section
variable {P:Program} {t:TypeId} {x y:Operand} {a b:Int}
theorem RH:iL P .add t x y (.int .i64 a) (.int .i64 b) (.int .i64 (BK (a+b))):=fun w=>by simp [eqGuard_add,binOp_add,Op.intArith,BK]
theorem JM:iL P .sub t x y (.int .i64 a) (.int .i64 b) (.int .i64 (BK (a-b))):=fun w=>by simp [eqGuard_sub,binOp_sub,Op.intArith,BK]
theorem QA:iL P .mul t x y (.int .i64 a) (.int .i64 b) (.int .i64 (BK (a*b))):=fun w=>by simp [eqGuard_mul,binOp_mul,Op.intArith,BK]
end
/-- divided, and rounded up, as it comes out -/
def So (n by_:Int):Int:=(BK (BK (n+by_)-1)).tdiv by_
theorem Rf {a b:Int} (ha: -9223372036854775808≤a∧a≤9223372036854775807) (hb:2≤b):qH (a.tdiv b):=by
 have A:a.tdiv b=a/b+if a % b≠0∧a<0 then 1 else 0:=by
  rcases Int.lt_or_le a 0 with h|h
  ·rw [Int.tdiv_eq_ediv]
   have:b.sign=1:=Int.sign_eq_one_of_pos I
   rw [this]
   by_cases hd:b∣a
   ·have:a % b=0:=Int.emod_eq_zero_of_dvd hd
    simp [hd,this]
   ·have:a % b≠0:=fun e=>hd (Int.dvd_of_emod_eq_zero e)
    have hn: ¬ 0≤a:=by omega
    simp [hd,this,h,hn]
  ·rw [Int.tdiv_eq_ediv_of_nonneg h]
   have: ¬ a<0:=by omega
   simp [this]
 have B:a/b*b+a % b=a:=by rw [Int.mul_comm]; exact Int.mul_ediv_add_emod a b
 have C:0≤a % b:=Int.emod_nonneg _ I
 have D:a % b<b:=Int.emod_lt_of_pos _ I
 have E: -9223372036854775808≤a/b∧a/b≤4611686018427387904:=by
  constructor
  ·refine Int.le_ediv_of_mul_le I ?_
   have:(-9223372036854775808:Int)*b≤ -9223372036854775808*1:=Int.mul_le_mul_of_nonpos_left I I
   omega
  ·refine Int.ediv_le_of_le_mul I ?_
   have:(4611686018427387904:Int)*2≤4611686018427387904*b:=Int.mul_le_mul_of_nonneg_left hb I
   omega
 rw [A]
 unfold qH
 split<;>omega
theorem Qy {n by_:Int} (h0:0≤n) (h1:n≤1000000000000000000) (hb:1≤by_∧by_≤1000000000000):So n by_=(n+by_-1)/by_:=by
 unfold So
 rw [Be (show qH (n+by_) from ⟨I,I⟩),Be (show qH (n+by_-1) from ⟨I,I⟩),Int.tdiv_eq_ediv_of_nonneg I]
end
section
def mI (c:ar) (i:Nat) (x:cr) (k:Nat):Prop:=fG c i x∧ ∀ (j:Nat) o,j<k→c.aX[j]? =some o→n_ c x o
def ti (c:ar) (n:Nat):Prop:= ∀ (i:Nat) x,i<n→c.aX[i]? =some x→mI c i x i
noncomputable instance (c:ar) (i:Nat) (x:cr) (k:Nat):Decidable (mI c i x k):=Classical.propDecidable _
instance (c:ar) (i:Nat) (x:cr):Decidable (fG c i x):=by unfold fG; infer_instance
theorem Fz {c:ar} {i:Nat} {x:cr}:mI c i x 0↔fG c i x:=⟨fun h=>h.1,fun h=>⟨h,fun j o hj=>by omega⟩⟩
theorem tq {c:ar} {i k:Nat} {x o:cr} (h:c.aX[k]? =some o):mI c i x (k+1)↔mI c i x k∧n_ c x o:=by
 constructor
 ·intro hr
  exact ⟨⟨hr.1,fun j o' hj ho=>hr.2 j o' I ho⟩,hr.2 k o I h⟩
 ·rintro ⟨hr,hp⟩
  refine ⟨hr.1,fun j o' hj ho=>?_⟩
  by_cases e:j=k
  ·subst e; rw [h] at ho; cases ho; exact hp
  ·exact hr.2 j o' I ho
theorem HA {c:ar}:ti c 0:=fun i x hi=>by omega
theorem Hh {c:ar} {i:Nat} {x:cr} (h:ti c i) (hx:c.aX[i]? =some x) (hr:mI c i x i):ti c (i+1):=fun j y hj hy=>by
 by_cases e:j=i
 ·subst e; rw [hx] at hy; cases hy; exact hr
 ·exact h j y I hy
theorem Ks {c:ar} {i:Nat} {x:cr} (hx:c.aX[i]? =some x) (h: ¬ mI c i x i): ¬ eJ c:=fun hc=>h ⟨hc.sync i x hx,fun j o hj ho=>hc.pair i j x o hx hj ho⟩
theorem Hf {c:ar} (h1:0≤c.dv∧c.dv≤1000) (h2:1≤c.aX.length∧c.aX.length≤5) (h:ti c c.aX.length):eJ c:=
 ⟨h1,h2,fun i x hx=>(h i x (aV.1 hx).1 hx).1,fun i k x o hx hk ho=>(h i x (aV.1 hx).1 hx).2 k o hk ho⟩
/-- syncs so far -/
theorem uY {c:ar} {n:Nat} (h: ∀ (i:Nat) x,i<n→c.aX[i]? =some x→fG c i x): ∀ (i:Nat) x,i<n→c.aX[i]? =some x→0≤x.At∧ ∀ (k:Nat) o,k<i→c.aX[k]? =some o→o.At<x.At:=by
 intro i
 induction i with
 |zero=>
  intro x hn hx
  have:=(h 0 x hn hx).1.1
  rw [gO rfl] at this
  exact ⟨I,fun k o hk=>by omega⟩
 |succ i ih=>
  intro x hn hx
  have hi:=(aV.1 hx).1
  have hy:c.aX[i]? =some (c.aX[i]'I):=eN I
  have B:=ih _ I hy
  have A:=(h (i+1) x hn hx).1.1
  rw [oH hy] at A
  refine ⟨I,fun k o hk ho=>?_⟩
  by_cases e:k=i
  ·subst e; rw [hy] at ho; cases ho; exact A
  ·have:=B.2 k o I ho; omega
theorem KU {c:ar} {i:Nat} (hi:i≤c.aX.length) (h: ∀ (j:Nat) y,j<i→c.aX[j]? =some y→fG c j y): -1≤kH c i∧kH c i≤86400000:=by
 cases i with
 |zero=>rw [gO rfl]; omega
 |succ i=>
  have hy:c.aX[i]? =some (c.aX[i]'I):=eN I
  have A:=(uY (n:=i+1) h i _ I hy).1
  have B:=(h i _ I hy).1.2
  rw [oH hy]; omega
theorem QE {c:ar} {i:Nat} (hi:i≤c.aX.length) (h:ti c i): -1≤kH c i∧kH c i≤86400000:=KU hi fun j y hj hy=>(h j y hj hy).1
theorem uK {c:ar} {i k:Nat} {x o:cr} (hs: ∀ (j:Nat) y,j<i→c.aX[j]? =some y→fG c j y) (hx:c.aX[i]? =some x) (hok:fG c i x) (hk:k<i) (ho:c.aX[k]? =some o):
 (0≤o.At∧o.At<x.At∧x.At≤86400000)∧(-10000≤x.er.Lo∧x.er.Lo≤x.er.Hi∧x.er.Hi≤10000)∧ -10000≤o.er.Lo∧o.er.Lo≤o.er.Hi∧o.er.Hi≤10000:=by
 have h: ∀ (j:Nat) y,j<i+1→c.aX[j]? =some y→fG c j y:=fun j y hj hy=>by
  by_cases e:j=i
  ·subst e; rw [hx] at hy; cases hy; exact hok
  ·exact hs j y I hy
 have A:=(uY h i x I hx).2 k o hk ho
 have B:=(uY h k o I ho).1
 exact ⟨⟨B,A,hok.1.2⟩,hok.2,(h k o I ho).2⟩
theorem Nq {d a b:Int} (hd:0≤d∧d≤1000) (h:0≤b∧b<a∧a≤86400000):So (BK (d*BK (a-b))) 1000000=pI (d*(a-b)) 1000000:=by
 have C:0≤d*(a-b)∧d*(a-b)≤90000000000:=by
  have:=QO (a:=d) (b:=a-b) (A:=1000) (B:=90000000) hd.1 hd.2 I I
  omega
 rw [Be (show qH (a-b) from ⟨I,I⟩),Be (show qH (d*(a-b)) from ⟨I,I⟩),Qy C.1 I I]
 rfl
/-- what is asked of a line, however wrong it is -/
structure eA (l:aY) (asl:List RA):Prop where
 si:l.aL.length≤1000000
 side: ∀ x∈l.aL,0≤x.js∧x.js≤255
 rr:l.ai.length≤1000000
 nD:asl.length=l.ai.length
 su:l.ag.length≤1000000
 Px: ∀ (k:Nat) m (a:RA),l.ai[k]? =some m→asl[k]? =some a→m.aX.length≤a.2∧m.aX.length≤1000000
noncomputable instance (l:aY):Decidable (gH l):=by unfold gH; infer_instance
noncomputable instance (l:aY) (b:bE):Decidable (kl l b):=Classical.propDecidable _
theorem Al {l:aY} (h:gH l) (h2: ∀ c∈l.ai,eJ c) (h3: ∀ b∈l.ag,kl l b) (h4: ∀ i,i<l.ag.length→1≤mB l i):lJ l:=⟨h,h2,h3,h4⟩
theorem Ed {l:aY}:((!(l.ai.any fun m=> !decide (eJ m)))=true)↔ ∀ c∈l.ai,eJ c:=by simp
theorem Hl {l:aY}:((!(l.ag.any fun b=> !decide (kl l b)))=true)↔ ∀ b∈l.ag,kl l b:=by simp
theorem km {c:ar} (h:eJ c) {r x:Int} (h0:0≤x) (h1:x<86400001):
 (x<fu (fU c r) 86400001→fU c r x=false)∧(fu (fU c r) 86400001≤x→fU c r x=true)∧(x<fu (fV c r) 86400001→fV c r x=false)∧(fu (fV c r) 86400001≤x→fV c r x=true):=by
 have up: ∀ (q:Int→Bool),(∀ a b,0≤a→a≤b→b<86400001→q a=true→q b=true)→fu q 86400001≤x→q x=true:=fun q hq hx=>by
  have hb:=iE (p:=q) (n:=86400001)
  exact hq _ _ hb.1 hx h1 (zB I)
 refine ⟨uL h0,up _ fun a b ha A hb hq=>?_,uL h0,up _ fun a b ha A hb hq=>?_⟩
 ·have:=oI h ha A I
  simp only [fU,decide_eq_true_eq] at hq ⊢; omega
 ·have:=oI h ha A I
  simp only [fV,decide_eq_true_eq] at hq ⊢; omega
theorem sQ {l:aY} {s:aH} {b:bE} {c:ar} (hb:l.ag[s.fR.toNat]? =some b) (hc:l.ai[b.jC.toNat]? =some c):lQ l s=c:=by
 unfold lQ; rw [hb]; simp only [Option.bind_some]; rw [hc]; rfl
end
section
def m7 (sg:List aH) (i:Nat):aH:=if i=0 then ⟨-1,0⟩ else (sg[i-1]?).getD ⟨-1,0⟩
theorem pM {sg:List aH} {i:Nat} {s:aH} (h:sg[i]? =some s):m7 sg (i+1)=s:=by unfold m7; rw [if_neg I,Nat.add_sub_cancel,h]; rfl
def lz (l:aY) (s:aH):Prop:=(0≤s.fR∧s.fR≤(l.ag.length:Int)-1)∧0≤s.Read∧s.Read≤86400000
def kF (l:aY) (sg:List aH) (i:Nat) (s:aH):Prop:=lz l s∧ ¬ s.fR<(m7 sg i).fR∧ ¬ (s.fR=(m7 sg i).fR∧s.Read≤(m7 sg i).Read)
def q_ (l:aY) (sg:List aH) (i:Nat):Prop:= ∀ (j:Nat) s,j<i→sg[j]? =some s→kF l sg j s
structure eX (l:aY) (r:cx):Prop where
 time:0≤r.Start∧r.Start≤r.fE∧r.fE≤86400000
 len:r.ah.length≤10
 sig: ∀ (i:Nat) s,r.ah[i]? =some s→kF l r.ah i s
noncomputable instance (l:aY) (r:cx):Decidable (eX l r):=Classical.propDecidable _
theorem zD {l:aY} {sg:List aH}:q_ l sg 0:=fun j s hj=>absurd hj (Nat.not_lt_zero _)
theorem mo {l:aY} {sg:List aH} {i:Nat} {s:aH} (h:q_ l sg i) (hs:sg[i]? =some s) (ho:kF l sg i s):q_ l sg (i+1):=fun j z hj hz=>by
 rcases Nat.lt_or_ge j i with q|q
 ·exact h j z q hz
 ·obtain rfl:j=i:=by omega
  rw [hs] at hz; cases hz; exact ho
theorem Ch {l:aY} {r:cx} {i:Nat} (h1:0≤r.Start∧r.Start≤r.fE∧r.fE≤86400000) (h2:r.ah.length≤10) (h:q_ l r.ah i) (hi:r.ah.length≤i):eX l r:=
 ⟨h1,h2,fun j s hs=>h j s (by have:=(aV.1 hs).1; omega) hs⟩
noncomputable def ot (l:aY) (sg:List aH) (b k:Nat):Option (Int×aa):=(sg[k]?).bind fun s=>if s.fR=(b:Int)∧(cD l s).Lo≤(cD l s).Hi then some ((k:Int),cD l s) else none
noncomputable def k8 (l:aY) (sg:List aH) (i b:Nat):TM:=(List.range i).filterMap (ot l sg b)
noncomputable def ew (l:aY) (sg:List aH) (i:Nat):List TM:=(List.range l.ag.length).map (k8 l sg i)
noncomputable def cJ (l:aY) (n:Nat):List Int:=(List.range n).map (ej l)
theorem wc {l:aY} {n:Nat}:cJ l (n+1)=cJ l n++[ej l n]:=by simp [cJ,List.range_succ]
theorem dH {l:aY} {n:Nat}:(cJ l n).length=n:=by simp [cJ]
theorem jF {l:aY} {sg:List aH} {i:Nat}:(ew l sg i).length=l.ag.length:=by simp [ew]
theorem pC {l:aY} {sg:List aH} {i b:Nat} (h:b<l.ag.length):(ew l sg i)[b]? =some (k8 l sg i b):=by simp [ew,h]
theorem pL {l:aY} {sg:List aH} {b k:Nat} {q:Int×aa}:ot l sg b k=some q↔ ∃ s,sg[k]? =some s∧(s.fR=(b:Int)∧(cD l s).Lo≤(cD l s).Hi)∧q=((k:Int),cD l s):=by
 unfold ot
 cases h:sg[k]? with
 |none=>simp
 |some s=>
  simp only [Option.bind_some,Option.some.injEq]
  by_cases e:s.fR=(b:Int)∧(cD l s).Lo≤(cD l s).Hi
  ·rw [if_pos e]
   constructor
   ·intro h; cases h; exact ⟨s,rfl,e,rfl⟩
   ·rintro ⟨s',rfl,_,rfl⟩; rfl
  ·rw [if_neg e]
   constructor
   ·intro h; cases h
   ·rintro ⟨s',rfl,e',_⟩; exact absurd e' e
theorem sY {l:aY} {sg:List aH} {i b:Nat} {q:Int×aa}:q∈k8 l sg i b↔ ∃ k,k<i∧ ∃ s,sg[k]? =some s∧(s.fR=(b:Int)∧(cD l s).Lo≤(cD l s).Hi)∧q=((k:Int),cD l s):=by
 unfold k8
 simp only [List.mem_filterMap,List.mem_range,pL]
theorem lq {l:aY} {sg:List aH} {i b:Nat}:k8 l sg (i+1) b=k8 l sg i b++(ot l sg b i).toList:=by
 unfold k8
 rw [List.range_succ,List.filterMap_append]
 congr 1
theorem E2 {l:aY} {sg:List aH}:ew l sg 0=List.replicate l.ag.length []:=by
 unfold ew
 rw [List.eq_replicate_iff]
 refine ⟨sm,fun t ht=>?_⟩
 obtain ⟨b,_,rfl⟩:=bZ.1 ht
 rfl
theorem yG {l:aY} {sg:List aH} {i:Nat} {s:aH} (hs:sg[i]? =some s) (h: ¬ (cD l s).Lo≤(cD l s).Hi):ew l sg (i+1)=ew l sg i:=by
 unfold ew
 apply List.map_congr_left
 intro b _
 rw [lq]
 have:ot l sg b i=none:=by
  cases e:ot l sg b i with
  |none=>rfl
  |some q=>obtain ⟨s',A,⟨_,B⟩,_⟩:=pL.1 e; rw [hs] at A; cases A; exact absurd B h
 rw [this]; simp
theorem zl {l:aY} {sg:List aH} {i:Nat} {s:aH} (hs:sg[i]? =some s) (hb:0≤s.fR∧s.fR≤(l.ag.length:Int)-1) (h:(cD l s).Lo≤(cD l s).Hi) {x:TM} (hx:(ew l sg i)[s.fR.toNat]? =some x):
 (ew l sg i).set s.fR.toNat (e_ x (i:Int) (cD l s))=ew l sg (i+1):=by
 have A:s.fR.toNat<l.ag.length:=by omega
 rw [pC A] at hx
 cases hx
 have B:e_ (k8 l sg i s.fR.toNat) (i:Int) (cD l s)=k8 l sg (i+1) s.fR.toNat:=by
  have hn:(k8 l sg i s.fR.toNat).lookup (i:Int)=none:=i_.2 fun p hp e=>by
   obtain ⟨k,hk,_,_,_,rfl⟩:=sY.1 hp
   simp only at e; omega
  have ho:ot l sg s.fR.toNat i=some ((i:Int),cD l s):=pL.2 ⟨s,hs,⟨I,h⟩,rfl⟩
  rw [lq,ho]
  unfold e_; rw [hn]; rfl
 rw [B]
 apply List.ext_getElem?
 intro b
 rw [List.getElem?_set]
 by_cases e:s.fR.toNat=b
 ·rw [if_pos e,jF,← e,if_pos A,pC A]
 ·rw [if_neg e]
  by_cases hb':b<l.ag.length
  ·rw [pC hb',pC hb',lq]
   have:ot l sg b i=none:=by
    cases e2:ot l sg b i with
    |none=>rfl
    |some q=>obtain ⟨s',C,⟨D,_⟩,_⟩:=pL.1 e2; rw [hs] at C; cases C; exact absurd I e
   rw [this]; simp
  ·rw [List.getElem?_eq_none (by rw [jF]; omega),List.getElem?_eq_none (by rw [jF]; omega)]
noncomputable def bV (l:aY) (r:cx):bT:=⟨r.Start,r.fE,cJ l l.ag.length,ew l r.ah r.ah.length,l.cM,l.eg,(r.ah.length:Int)⟩
theorem Da {l:aY} (ht:de l.aL=true) (h:lJ l) {i:Nat} (hi:i<l.ag.length):1≤ej l i∧ej l i≤500000000:=by
 have A:=GB ht h.sk i
 have B:=h.RM i hi
 have C:=h.head.1
 unfold ej pI
 refine ⟨(Int.le_ediv_iff_mul_le I).2 I,?_⟩
 have:(1000*mB l i+l.gK-1)/l.gK≤1000*mB l i+l.gK-1:=Int.ediv_le_self _ I
 omega
theorem Nn (l:aY) (s:aH):0≤(cD l s).Lo∧(cD l s).Hi≤86400000:=by
 have A:=iE (p:=fU (lQ l s) s.Read) (n:=86400001)
 have B:=iE (p:=fV (lQ l s) s.Read) (n:=86400001)
 unfold cD lX
 simp only
 omega
theorem mT {l:aY} {r:cx} (ht:de l.aL=true) (h:lJ l) (hr:eX l r):II (bV l r):=by
 have hh:=h.head
 unfold gH at hh
 refine ⟨?_,by simp [bV,jF,bT.n,dH],hr.time,fun x hx=>?_,fun t A p hp=>?_⟩
 ·show (cJ l l.ag.length).length≤6
  rw [dH]; omega
 ·obtain ⟨i,hi,rfl⟩:=bZ.1 hx
  exact Da ht h (List.mem_range.1 hi)
 ·obtain ⟨b,hb,rfl⟩:=bZ.1 A
  obtain ⟨k,hk,s,hs,⟨_,B⟩,rfl⟩:=sY.1 hp
  have C:=Nn l s
  have D:=hr.len
  simp only
  omega
noncomputable def dU (l:aY) (r:cx) (me:Int):Int:=if c_ l=0 then (if eX l r then (if me=0 then (if jZ (bV l r)=[] then 8 else 0) else me) else 51) else c_ l
theorem oW {l:aY} {r:cx} {me:Int} (h: ¬ c_ l=0):dU l r me=c_ l:=if_neg h
theorem jE {l:aY} {r:cx} {me:Int} (h:c_ l=0) (h2: ¬ eX l r):dU l r me=51:=by unfold dU; rw [if_pos h,if_neg h2]
theorem qX {l:aY} {r:cx} {me:Int} (h:c_ l=0) (h2:eX l r) (h3: ¬ me=0):dU l r me=me:=by unfold dU; rw [if_pos h,if_pos h2,if_neg h3]
theorem p7 {l:aY} {r:cx} {me:Int} (h:c_ l=0) (h2:eX l r) (h3:me=0) (h4:jZ (bV l r)=[]):dU l r me=8:=by unfold dU; rw [if_pos h,if_pos h2,if_pos h3,if_pos h4]
theorem l6 {l:aY} {r:cx} {me:Int} (h:c_ l=0) (h2:eX l r) (h3:me=0) (h4: ¬ jZ (bV l r)=[]):dU l r me=0:=by unfold dU; rw [if_pos h,if_pos h2,if_pos h3,if_neg h4]
theorem jM {l:aY} {r:cx} {me:Int} (h:dU l r me=0):c_ l=0∧eX l r∧me=0∧ ¬ jZ (bV l r)=[]:=by
 unfold dU at h
 split at h
 ·split at h
  ·split at h
   ·split at h
    ·omega
    ·exact ⟨asm,asm,asm,asm⟩
   ·omega
  ·omega
 ·omega
end
section
def yz (l:List Int):Int:=(l.drop 1).foldl min (l.headD 0)
def EC (l:List Int):Int:=(l.drop 1).foldl max (l.headD 0)
theorem DC: ∀ (l:List Int) (a:Int),(l.foldl min a=a∨l.foldl min a∈l)∧l.foldl min a≤a∧ ∀ x∈l,l.foldl min a≤x
 |[],a=>⟨.inl rfl,sm,sm⟩
 |y::l,a=>by
  obtain ⟨A,C,B⟩:=DC l (min a y)
  simp only [List.foldl_cons]
  refine ⟨?_,I,?_⟩
  ·rcases A with A|A
   ·rw [A]
    rcases Int.le_total a y with q|q
    ·left; omega
    ·right; rw [show min a y=y by omega]; simp
   ·right; exact cY _ A
  ·intro x hx
   rcases bx.1 hx with rfl|hx
   ·omega
   ·exact B x hx
theorem BU: ∀ (l:List Int) (a:Int),(l.foldl max a=a∨l.foldl max a∈l)∧a≤l.foldl max a∧ ∀ x∈l,x≤l.foldl max a
 |[],a=>⟨.inl rfl,sm,sm⟩
 |y::l,a=>by
  obtain ⟨A,C,B⟩:=BU l (max a y)
  simp only [List.foldl_cons]
  refine ⟨?_,I,?_⟩
  ·rcases A with A|A
   ·rw [A]
    rcases Int.le_total a y with q|q
    ·right; rw [show max a y=y by omega]; simp
    ·left; omega
   ·right; exact cY _ A
  ·intro x hx
   rcases bx.1 hx with rfl|hx
   ·omega
   ·exact B x hx
theorem G9 {l:List Int} (h:l≠[]):yz l∈l∧ ∀ x∈l,yz l≤x:=by
 cases l with
 |nil=>exact absurd rfl h
 |cons y ys=>
  obtain ⟨A,B,C⟩:=DC ys y
  refine ⟨?_,fun x hx=>?_⟩
  ·rcases A with A|A
   ·simp [yz,A]
   ·exact cY _ (by simpa [yz] using A)
  ·rcases bx.1 hx with rfl|hx
   ·simpa [yz] using B
   ·simpa [yz] using C x hx
theorem Ps {l:List Int} (h:l≠[]):EC l∈l∧ ∀ x∈l,x≤EC l:=by
 cases l with
 |nil=>exact absurd rfl h
 |cons y ys=>
  obtain ⟨A,B,C⟩:=BU ys y
  refine ⟨?_,fun x hx=>?_⟩
  ·rcases A with A|A
   ·simp [EC,A]
   ·exact cY _ (by simpa [EC] using A)
  ·rcases bx.1 hx with rfl|hx
   ·simpa [EC] using B
   ·simpa [EC] using C x hx
noncomputable def lK (l:aY) (r:cx):List Int:=if dU l r 0=0 then jZ (bV l r) else []
theorem l_ {l:aY} {r:cx} (h:dU l r 0=0):lK l r=jZ (bV l r):=if_pos h
theorem uM {l:aY} {r:cx} (h: ¬ dU l r 0=0):lK l r=[]:=if_neg h
theorem uV {l:aY} {r:cx} (h:dU l r 0=0):lK l r≠[]:=by rw [l_ h]; exact (jM h).2.2.2
noncomputable def Fp (l:aY) (r:cx):Int:=if dU l r 0=0 then (if l.bS<yz (lK l r) then 2 else if EC (lK l r)≤l.bS then 0 else 1) else 0
noncomputable def ik (l:aY) (b:Int):Int:=if 0≤b∧b≤(l.ag.length:Int)-1 then 0 else 2
theorem xx {l:aY} {b:Int} (h:0≤b∧b≤(l.ag.length:Int)-1):ik l b=0:=if_pos h
theorem EL {l:aY} {b:Int} (h:ik l b=0):0≤b∧b≤(l.ag.length:Int)-1:=by
 unfold ik at h
 split at h
 ·assumption
 ·omega
noncomputable def kP (l:aY) (r:cx) (b:Nat):aa:=iS (fM (bV l r) b)
noncomputable def dw (l:aY) (r:cx) (b:Int):Int:=if dU l r (ik l b)=0 then (if kP l r b.toNat=jk then 6 else 0) else dU l r (ik l b)
noncomputable def dJ (l:aY) (r:cx) (b:Int):aa:=if dw l r b=0 then kP l r b.toNat else dL
theorem jJ {l:aY} {r:cx} {b:Int} (h: ¬ dU l r (ik l b)=0):dw l r b=dU l r (ik l b)∧dJ l r b=dL:=by
 have e:dw l r b=dU l r (ik l b):=if_neg h
 exact ⟨e,by unfold dJ; rw [if_neg (by rw [e]; exact h)]⟩
theorem lp {l:aY} {r:cx} {b:Nat} (h:dU l r (ik l b)=0) (h2:kP l r b=jk):dw l r b=6∧dJ l r b=dL:=by
 have e:dw l r b=6:=by unfold dw; rw [if_pos h,Int.toNat_natCast,if_pos h2]
 exact ⟨e,by unfold dJ; rw [if_neg (by rw [e]; omega)]⟩
theorem iW {l:aY} {r:cx} {b:Nat} (h:dU l r (ik l b)=0) (h2: ¬ kP l r b=jk):dw l r b=0∧dJ l r b=kP l r b:=by
 have e:dw l r b=0:=by unfold dw; rw [if_pos h,Int.toNat_natCast,if_neg h2]
 exact ⟨e,by unfold dJ; rw [if_pos e,Int.toNat_natCast]⟩
theorem J_ {w:bT} (h:II w) {b:Nat} {q:Int×aa} (hq:q∈fM w b):0≤q.2.Lo∧q.2.Lo≤q.2.Hi∧q.2.Hi≤86400000:=by
 have A:=iR hq
 obtain ⟨o,ho,p,hp,u,hu,e⟩:=iB.1 hq
 obtain ⟨_,_,rfl⟩:=jG.1 e
 have B:=h.opt ho
 simp only [jP] at A ⊢
 omega
theorem yu {l:aY} {r:cx} {b:Int} (h:dw l r b=0):0≤(dJ l r b).Lo∧(dJ l r b).Lo≤(dJ l r b).Hi∧(dJ l r b).Hi≤86400000:=by
 have ho:dU l r (ik l b)=0:=by
  by_cases e:dU l r (ik l b)=0
  ·exact e
  ·rw [(jJ e).1] at h; exact absurd h e
 obtain ⟨B,C,_⟩:=jM ho
 obtain ⟨ht,A⟩:=fy B
 have hw:=mT ht A C
 have hv:dJ l r b=kP l r b.toNat:=by unfold dJ; rw [if_pos h]
 have hn:kP l r b.toNat≠jk:=fun e=>by unfold dw at h; rw [if_pos ho,if_pos e] at h; omega
 have hh:=qC (l:=fM (bV l r) b.toNat) fun q hq=>iR hq
 rw [hv]
 unfold kP at hn ⊢
 rcases hh with ⟨_,e⟩|hh
 ·exact absurd e hn
 ·obtain ⟨x,hx,ex⟩:=hh.lo
  obtain ⟨y,hy,ey⟩:=hh.hi
  have:=J_ hw hx
  have:=J_ hw hy
  have:=hh.le
  omega
noncomputable def t_ (l:aY) (r:cx):aa:=if dw l r l.bS=0 then ⟨(dJ l r l.bS).Lo-r.Start,(dJ l r l.bS).Hi-r.Start⟩ else dL
theorem ye {l:aY} {r:cx} (h:dw l r l.bS=0):t_ l r=⟨(dJ l r l.bS).Lo-r.Start,(dJ l r l.bS).Hi-r.Start⟩:=if_pos h
theorem Fq {l:aY} {r:cx} (h: ¬ dw l r l.bS=0):t_ l r=dL:=if_neg h
theorem mJ {l:aY} {r:cx} {b:Int} (h:dw l r b=0):eX l r:=by
 by_cases e:dU l r (ik l b)=0
 ·exact (jM e).2.1
 ·rw [(jJ e).1] at h; exact absurd h e
theorem zM {k:List (Int×aa)} {h:aa} {q:Int×aa} {z:aa} (hh:kO k h) (hq:q.2.Lo≤q.2.Hi) (hz:mV h q.2=z):kO (k++[q]) z:=by subst hz; exact u7 hh hq
end
section
set_option maxRecDepth 20000
def SW:al:=⟨1,⟨10000,10200⟩,⟨0,100⟩,⟨0,0⟩,0,0⟩
def yZ:ar:=⟨100,[⟨0,⟨0,2⟩⟩,⟨100000,⟨5,6⟩⟩]⟩
def RR (o:Int):bE:=⟨⟨0,⟨o,o⟩⟩,0⟩
def ox (f:Int):aY:=⟨[SW],2000,[yZ],[RR 1000,RR 4000,RR 9000],1,f,1⟩
def m6:cx:=⟨10000,20000,[⟨0,10600⟩,⟨0,11000⟩,⟨1,12600⟩]⟩
theorem LF:de [SW]=true:=by decide
theorem xg:eJ yZ:=by
 have hi: ∀ (i:Nat) (x:cr),yZ.aX[i]? =some x→i=0∧x=⟨0,⟨0,2⟩⟩∨i=1∧x=⟨100000,⟨5,6⟩⟩:=fun i x h=>by
  match i with
  |0=>left; simp [yZ] at h; exact ⟨rfl,h.symm⟩
  |1=>right; simp [yZ] at h; exact ⟨rfl,h.symm⟩
  |n+2=>simp [yZ] at h
 refine ⟨dc,dc,fun i x hx=>?_,fun i k x o hx hk ho=>?_⟩
 ·rcases hi i x hx with ⟨rfl,rfl⟩|⟨rfl,rfl⟩<;>(unfold fG; decide)
 ·rcases hi i x hx with ⟨rfl,rfl⟩|⟨rfl,rfl⟩
  ·omega
  ·rcases hi k o ho with ⟨rfl,rfl⟩|⟨rfl,rfl⟩
   ·unfold n_; decide
   ·omega
theorem Ax {o:Int} (h:0≤o∧o<10000):fH [SW] ⟨0,⟨o,o⟩⟩:=⟨sm,SW,rfl,by show o≤o∧0≤o∧o≤10000-1; omega⟩
theorem Pd {f:Int} (hf:0≤f∧f≤3):lJ (ox f):=by
 refine ⟨?_,fun c hc=>?_,fun b hb=>?_,fun i hi=>?_⟩
 ·unfold gH; simp [ox]; omega
 ·simp [ox] at hc; subst hc; exact xg
 ·simp [ox] at hb
  rcases hb with rfl|rfl|rfl
  ·exact ⟨Ax I,by simp [RR,ox]⟩
  ·exact ⟨Ax I,by simp [RR,ox]⟩
  ·exact ⟨Ax I,by simp [RR,ox]⟩
 ·have A:i<3:=hi
  have:i=0∨i=1∨i=2:=by omega
  rcases this with rfl|rfl|rfl
  ·show (1:Int)≤mB (ox 0) 0; decide
  ·show (1:Int)≤mB (ox 0) 1; decide
  ·show (1:Int)≤mB (ox 0) 2; decide
def nc:aY:=ox 1
theorem PT:c_ nc=0:=yk LF (Pd I)
theorem Bq {r x:Int} (h0:0<x) (h1:x≤86400000) (hy:fU yZ r x=true) (hn:fU yZ r (x-1)=false):fu (fU yZ r) 86400001=x:=
 zN I I hy fun z hz A=>by
  cases e:fU yZ r z with
  |false=>rfl
  |true=>
   unfold fU at e hn
   have:=(oI xg hz (show z≤x-1 by omega) I).2
   have B:=of_decide_eq_true e
   have C:=of_decide_eq_false hn
   omega
theorem Bd {r x:Int} (h0:0<x) (h1:x≤86400000) (hy:fV yZ r x=true) (hn:fV yZ r (x-1)=false):fu (fV yZ r) 86400001=x:=
 zN I I hy fun z hz A=>by
  cases e:fV yZ r z with
  |false=>rfl
  |true=>
   unfold fV at e hn
   have:=(oI xg hz (show z≤x-1 by omega) I).1
   have B:=of_decide_eq_true e
   have C:=of_decide_eq_false hn
   omega
theorem TO:lX yZ 10600=⟨10596,10602⟩:=by unfold lX; rw [Bq (x:=10596) I I dc dc,Bd (x:=10603) I I dc dc]; rfl
theorem Sv:lX yZ 11000=⟨10996,11002⟩:=by unfold lX; rw [Bq (x:=10996) I I dc dc,Bd (x:=11003) I I dc dc]; rfl
theorem Sx:lX yZ 12600=⟨12596,12602⟩:=by unfold lX; rw [Bq (x:=12596) I I dc dc,Bd (x:=12603) I I dc dc]; rfl
def Tc (f:Int):bT:=⟨10000,20000,[500,1500,2500],[[(0,⟨10596,10602⟩),(1,⟨10996,11002⟩)],[(2,⟨12596,12602⟩)],[]],1,f,3⟩
theorem Ts (f:Int):cD (ox f) ⟨0,10600⟩=⟨10596,10602⟩:=TO
theorem Ux (f:Int):cD (ox f) ⟨0,11000⟩=⟨10996,11002⟩:=Sv
theorem To (f:Int):cD (ox f) ⟨1,12600⟩=⟨12596,12602⟩:=Sx
theorem JZ (f:Int):ew (ox f) m6.ah 3=[[(0,⟨10596,10602⟩),(1,⟨10996,11002⟩)],[(2,⟨12596,12602⟩)],[]]:=by
 have o: ∀ b:Nat,k8 (ox f) m6.ah 3 b=(ot (ox f) m6.ah b 0).toList++((ot (ox f) m6.ah b 1).toList++(ot (ox f) m6.ah b 2).toList):=fun b=>by
  rw [lq,lq,lq]; simp [k8]
 have A: ∀ b:Nat,ot (ox f) m6.ah b 0=if (0:Int)=(b:Int) then some (0,⟨10596,10602⟩) else none:=fun b=>by
  show (if (0:Int)=(b:Int)∧(cD (ox f) ⟨0,10600⟩).Lo≤(cD (ox f) ⟨0,10600⟩).Hi then some ((0:Int),cD (ox f) ⟨0,10600⟩) else none)=_
  rw [Ts]; by_cases h:(0:Int)=(b:Int)
  ·rw [if_pos h,if_pos ⟨h,dc⟩]<;>rfl
  ·rw [if_neg h,if_neg fun q=>h q.1]
 have B: ∀ b:Nat,ot (ox f) m6.ah b 1=if (0:Int)=(b:Int) then some (1,⟨10996,11002⟩) else none:=fun b=>by
  show (if (0:Int)=(b:Int)∧(cD (ox f) ⟨0,11000⟩).Lo≤(cD (ox f) ⟨0,11000⟩).Hi then some ((1:Int),cD (ox f) ⟨0,11000⟩) else none)=_
  rw [Ux]; by_cases h:(0:Int)=(b:Int)
  ·rw [if_pos h,if_pos ⟨h,dc⟩]<;>rfl
  ·rw [if_neg h,if_neg fun q=>h q.1]
 have C: ∀ b:Nat,ot (ox f) m6.ah b 2=if (1:Int)=(b:Int) then some (2,⟨12596,12602⟩) else none:=fun b=>by
  show (if (1:Int)=(b:Int)∧(cD (ox f) ⟨1,12600⟩).Lo≤(cD (ox f) ⟨1,12600⟩).Hi then some ((2:Int),cD (ox f) ⟨1,12600⟩) else none)=_
  rw [To]; by_cases h:(1:Int)=(b:Int)
  ·rw [if_pos h,if_pos ⟨h,dc⟩]<;>rfl
  ·rw [if_neg h,if_neg fun q=>h q.1]
 show [k8 (ox f) m6.ah 3 0,k8 (ox f) m6.ah 3 1,k8 (ox f) m6.ah 3 2]=_
 rw [o,o,o,A,A,A,B,B,B,C,C,C]
 rfl
theorem DY (f:Int):bV (ox f) m6=Tc f:=by
 unfold bV Tc
 rw [show m6.ah.length=3 from rfl,JZ]
 rfl
theorem Oa (f:Int):eX (ox f) m6:=by
 refine ⟨dc,dc,fun i s hs=>?_⟩
 match i with
 |0=>simp [m6] at hs; subst hs; unfold kF lz; simp [ox,m7]
 |1=>simp [m6] at hs; subst hs; unfold kF lz; simp [ox,m7,m6]
 |2=>simp [m6] at hs; subst hs; unfold kF lz; simp [ox,m7,m6]
 |n+3=>simp [m6] at hs
theorem Lr:jZ (bV nc m6)=[2,3]:=by rw [show bV nc m6=Tc 1 from DY 1]; decide
theorem JV:dU nc m6 0=0:=l6 PT (Oa 1) rfl (by rw [Lr]; decide)
theorem Lg {b:Nat} (hb:b<3):dU nc m6 (ik nc b)=0:=by rw [xx (by show 0≤(b:Int)∧(b:Int)≤3-1; omega)]; exact JV
theorem Od {b:Nat} {z:aa} (hb:b<3) (hz:iS (fM (Tc 1) b)=z) (hn:z≠jk):dw nc m6 b=0∧dJ nc m6 b=z:=by
 have e:kP nc m6 b=z:=by unfold kP; rw [show bV nc m6=Tc 1 from DY 1]; exact hz
 have h:=iW (Lg hb) (by rw [e]; exact hn)
 exact ⟨h.1,h.2.trans e⟩
theorem xR:dw nc m6 1=0∧dJ nc m6 1=⟨12596,12602⟩:=Od (b:=1) I dc dc
theorem FR:dw nc m6 nc.bS=0∧t_ nc m6=⟨2596,2602⟩:=by
 refine ⟨xR.1,?_⟩
 rw [ye (l:=nc) (r:=m6) xR.1]
 rw [show dJ nc m6 nc.bS=⟨12596,12602⟩ from xR.2]
 rfl
theorem Uk (f:Int) {a:OA} {c:Nat} (hc:2≤c):eA (ox f) [(a,c)]:=by
 refine ⟨by simp [ox],?_,by simp [ox],U,by simp [ox],fun k m a' hm ha=>?_⟩
 ·intro x hx; simp [ox] at hx; subst hx; simp [SW]
 ·match k with
  |0=>simp [ox] at hm ha; subst hm; subst ha; simp [yZ]; exact hc
  |n+1=>simp at ha
end
section
def l8 (l:aY):Prop:=(20<(l.aL.length:Int)∨8<(l.ai.length:Int)∨10<(l.ag.length:Int))∨ ∃ c∈l.ai,10<(c.aX.length:Int)
noncomputable instance (l:aY):Decidable (l8 l):=Classical.propDecidable _
/-- what is asked of a line that comes in -/
structure qj (l:aY) (az:List RA):Prop where
 si:l.aL.length≤9223372036854775807
 side: ∀ x∈l.aL,0≤x.js∧x.js≤255
 rr:l.ai.length≤9223372036854775807
 nD:az.length=l.ai.length
 su:l.ag.length≤9223372036854775807
 Px: ∀ (k:Nat) m (a:RA),l.ai[k]? =some m→az[k]? =some a→m.aX.length≤a.2∧m.aX.length≤9223372036854775807
def AS (l:aY) (i:Nat):Prop:= ∀ (j:Nat) c,j<i→l.ai[j]? =some c→(c.aX.length:Int)≤10
theorem Jg {l:aY} {i:Nat} (h: ¬ (20<(l.aL.length:Int))∧ ¬ (8<(l.ai.length:Int))∧ ¬ (10<(l.ag.length:Int))) (hi:l.ai.length≤i) (hs:AS l i): ¬ l8 l:=by
 rintro (A|⟨c,hc,B⟩)
 ·omega
 ·obtain ⟨k,hk⟩:=List.getElem?_of_mem hc
  have:=hs k c (by have:=(aV.1 hk).1; omega) hk
  omega
theorem Mo {l:aY} {i:Nat} {c:ar} (hc:l.ai[i]? =some c) (h:10<(c.aX.length:Int)):l8 l:= .inr ⟨c,aS hc,h⟩
theorem mg {α:Type} {l:List α} {P:Nat→α→Prop} {i:Nat} {x:α} (h: ∀ (j:Nat) y,j<i→l[j]? =some y→P j y) (hx:l[i]? =some x) (hp:P i x): ∀ (j:Nat) y,j<i+1→l[j]? =some y→P j y:=fun j y hj hy=>by
 by_cases e:j=i
 ·subst e; rw [hx] at hy; cases hy; exact hp
 ·exact h j y I hy
theorem xA {α:Type} {l:List α} {P:Nat→α→Prop} {i:Nat} (hi:l.length≤i) (h: ∀ (j:Nat) y,j<i→l[j]? =some y→P j y): ∀ (j:Nat) y,l[j]? =some y→P j y:=fun j y hy=>h j y (by have:=(aV.1 hy).1; omega) hy
theorem xp {α:Type} {l:List α} {P:α→Prop} {i:Nat} (hi:l.length≤i) (h: ∀ (j:Nat) y,j<i→l[j]? =some y→P y): ∀ y∈l,P y:=fun y hy=>by
 obtain ⟨k,hk⟩:=List.getElem?_of_mem hy
 exact xA (P:=fun _ y=>P y) hi h k y hk
theorem Cd {l:aY} (h: ¬ l8 l):(l.aL.length:Int)≤20∧(l.ai.length:Int)≤8∧(l.ag.length:Int)≤10∧ ∀ c∈l.ai,(c.aX.length:Int)≤10:=by
 unfold l8 at h
 rw [not_or] at h
 refine ⟨I,I,I,fun c hc=>?_⟩
 have:=h.2
 rcases Int.lt_or_le 10 (c.aX.length:Int) with q|q
 ·exact absurd ⟨c,hc,q⟩ this
 ·exact q
theorem qj.small {l:aY} {az:List RA} (h:qj l az) (hg: ¬ l8 l):eA l az:=by
 have A:=Cd hg
 exact ⟨I,h.side,I,h.nD,I,fun k m a hm ha=>⟨(h.Px k m a hm ha).1,by have:=A.2.2.2 m (aS hm); omega⟩⟩
def Gs (c:ar) (x:cr) (k:Nat):Prop:= ∀ (j:Nat) o,j<k→c.aX[j]? =some o→n_ c x o
def uq (c:ar) (m:Nat):Prop:= ∀ (i:Nat) x,i<m→c.aX[i]? =some x→Gs c x i
theorem Ml {c:ar} {m:Nat} (h1:0≤c.dv∧c.dv≤1000) (h2:1≤c.aX.length∧c.aX.length≤5) (hs: ∀ (i:Nat) x,c.aX[i]? =some x→fG c i x) (hm:c.aX.length≤m) (hp:uq c m):eJ c:=
 ⟨h1,h2,hs,fun i k x o hx hk ho=>hp i x (by have:=(aV.1 hx).1; omega) hx k o hk ho⟩
theorem Ei {c:ar} {m k:Nat} (h:uq c m) (hk: ∀ y,c.aX[m]? =some y→Gs c y k) (e:k=m):uq c (m+1):=by
 subst e
 intro i x hi hx
 by_cases e:i=k
 ·subst e; exact hk x hx
 ·exact h i x I hx
noncomputable def k7 (c:ar) (at_:Int) (i:Nat):aa:=if i=0 then dL else gI c at_ i
theorem ED {c:ar} {at_:Int} {i:Nat} (h:eJ c) (hi:c.aX.length≤i):k7 c at_ i=gQ c at_:=by
 have:=h.len
 unfold k7; rw [if_neg I,n7 hi]
theorem AU {c:ar} {at_:Int} {i:Nat} {x:cr} (h:eJ c) (ha:0≤at_∧at_≤90000000) (hx:c.aX[i]? =some x) (hi:i=0):
 k7 c at_ (i+1)=⟨max (x.er.Lo-sj c at_ x) (x.er.Lo-sj c at_ x),min (x.er.Hi+sj c at_ x) (x.er.Hi+sj c at_ x)⟩:=by
 subst hi
 have hb:=h.sV hx
 have ho:=vl h.sM ha hb.1
 unfold k7
 rw [if_neg I,kf hx]
 unfold ly gI
 simp only [List.take_zero,List.foldl_nil,aa.mk.injEq]
 omega
theorem Cn {c:ar} {at_:Int} {i:Nat} {x:cr} (hx:c.aX[i]? =some x) (hi: ¬ i=0):k7 c at_ (i+1)=⟨max (k7 c at_ i).Lo (x.er.Lo-sj c at_ x),min (k7 c at_ i).Hi (x.er.Hi+sj c at_ x)⟩:=by
 unfold k7
 rw [if_neg I,if_neg hi,kf hx]; rfl
def iy (ts:List al) (n:Nat):List aa:=(List.range n).map fun k=>eO ts 0 k
theorem CS {ts:List al} {n:Nat}:iy ts (n+1)=iy ts n++[eO ts 0 n]:=by simp [iy,List.range_succ]
theorem o3 {ts:List al} {n:Nat}:(iy ts n).length=n:=by simp [iy]
theorem qk {ts:List al} {n k:Nat} {x:aa} (h:(iy ts n)[k]? =some x):x=eO ts 0 k:=by
 unfold iy at h
 rw [eT] at h
 cases hk:(List.range n)[k]? with
 |none=>simp [hk] at h
 |some v=>
  have:=aV.1 hk
  simp at this
  simp [hk] at h
  rw [← h,← this.2]
theorem EE {ts:List al} {a b:cN} (h:b.a_<a.a_):kj ts a b=oD (kj ts b a):=by
 unfold kj
 rw [if_pos h,if_neg I]
 unfold x4
 rw [Int.min_comm b.a_ a.a_,Int.max_comm b.a_ a.a_]
 unfold oD mR
 simp only [aa.mk.injEq]
 omega
theorem rh {ts:List al} {a b:cN} (h: ¬ b.a_<a.a_):kj ts a b=mR (mR (eO ts a.a_.toNat (b.a_-a.a_).toNat) b.mX) (oD a.mX):=by
 unfold kj x4
 rw [if_neg h,Int.min_eq_left I,Int.max_eq_right I]
end
section
def iI (m:List au) (a:cb):List aw:=rd a.1.1 m.length 7 (List.zipWith au.cells m a.2)::aR au.ia m a.2
structure Re (h:List au) (a:cb):Prop where
 len:h.length≤1000000
 nD:a.2.length=h.length
 sig: ∀ d∈h,d.bX.ah.length≤1000000
structure fw (r:cj) (az:List RA) (ha:List cb):Prop where
 line:eA r.an az
 iY:r.aM.length≤1000000
 draw:r.bL.length≤12
 iU:r.ao.length≤1000000
 has:ha.length=r.ao.length
 nu: ∀ (k:Nat) h (a:cb),r.ao[k]? =some h→ha[k]? =some a→Re h a
structure oJ (r:cj) (az:List RA) (ha:List cb):Prop where
 line:qj r.an az
 iY:r.aM.length≤9223372036854775807
 draw:r.bL.length≤9223372036854775807
 iU:r.ao.length≤9223372036854775807
 has:ha.length=r.ao.length
 nu: ∀ (k:Nat) h (a:cb),r.ao[k]? =some h→ha[k]? =some a→h.length≤9223372036854775807∧a.2.length=h.length∧ ∀ d∈h,d.bX.ah.length≤9223372036854775807
def pn (h:List au):Prop:=8<(h.length:Int)∨ ∃ d∈h,15<(d.bX.ah.length:Int)
def ou (r:cj):Prop:=(l8 r.an∨8<(r.aM.length:Int)∨8<(r.bL.length:Int)∨5<(r.ao.length:Int))∨ ∃ h∈r.ao,pn h
noncomputable instance (r:cj):Decidable (ou r):=Classical.propDecidable _
theorem GD {r:cj} (h: ¬ ou r): ¬ l8 r.an∧(r.aM.length:Int)≤8∧(r.bL.length:Int)≤8∧(r.ao.length:Int)≤5∧ ∀ h∈r.ao,(h.length:Int)≤8∧ ∀ d∈h,(d.bX.ah.length:Int)≤15:=by
 unfold ou at h
 obtain ⟨A,B⟩:=not_or.1 h
 obtain ⟨C,E⟩:=not_or.1 A
 refine ⟨C,I,I,I,fun x hx=>?_⟩
 have hn: ¬ pn x:=fun q=>B ⟨x,hx,q⟩
 obtain ⟨F,D⟩:=not_or.1 hn
 refine ⟨I,fun d hd=>?_⟩
 rcases Int.lt_or_le 15 (d.bX.ah.length:Int) with q|q
 ·exact absurd ⟨d,hd,q⟩ D
 ·exact q
theorem oJ.small {r:cj} {az:List RA} {ha:List cb} (h:oJ r az ha) (hg: ¬ ou r):fw r az ha:=by
 have B:=GD hg
 refine ⟨h.line.small B.1,I,I,I,h.has,fun k x a hx A=>?_⟩
 have C:=B.2.2.2.2 x (aS hx)
 have D:=h.nu k x a hx A
 exact ⟨I,D.2.1,fun d hd=>by have:=C.2 d hd; omega⟩
def iF (r:cx):Prop:=r.Start=0∧r.fE=0∧(r.ah.length:Int)=0
instance (r:cx):Decidable (iF r):=by unfold iF; infer_instance
def jf (s:aa):Prop:=1≤s.Lo∧s.Lo≤s.Hi∧s.Hi≤600000
instance (s:aa):Decidable (jf s):=by unfold jf; infer_instance
def hE (l:aY) (d:au):Prop:=if d.Out=true then d.ed=false∧d.Time=dL∧iF d.bX else if d.ed=true then jf d.Time∧iF d.bX else dw l d.bX l.bS=0∧d.Time=dL
noncomputable instance (l:aY) (d:au):Decidable (hE l d):=Classical.propDecidable _
noncomputable def dq (l:aY) (d:au):aa:=if d.Out=true∨d.ed=true then d.Time else t_ l d.bX
/-- which kind a descent is of -/
def o2 (d:au):Int:=if d.Out=true then 0 else if d.ed=true then 1 else 2
theorem Pc {w:bT} (h:II w): ∀ (b:Nat) (p:aC×Int),p∈fwd w b→w.Start≤p.2:=by
 have hl: ∀ b,0≤bM w b:=fun b=>by
  unfold bM
  cases e:w.pq[b]? with
  |none=>simp
  |some x=>have:=h.least x (aS e); simp; omega
 intro b
 induction b with
 |zero=>intro p hp; simp only [fwd,bI] at hp; subst hp; exact Int.le_refl _
 |succ b ih=>
  intro q hq
  obtain ⟨p,hp,o,ho,e⟩:=gf.1 hq
  unfold lj at e
  split at e
  ·simp only [Option.some.injEq] at e
   subst e
   have:=ih p hp
   have:=hl b
   simp only; omega
  ·cases e
theorem Pk {l:aY} {r:cx} {b:Int} (h:dw l r b=0):r.Start≤(dJ l r b).Lo:=by
 have ho:dU l r (ik l b)=0:=by
  by_cases e:dU l r (ik l b)=0
  ·exact e
  ·rw [(jJ e).1] at h; exact absurd h e
 obtain ⟨B,C,_⟩:=jM ho
 obtain ⟨ht,A⟩:=fy B
 have hw:=mT ht A C
 have hv:dJ l r b=kP l r b.toNat:=by unfold dJ; rw [if_pos h]
 have hn:kP l r b.toNat≠jk:=fun e=>by unfold dw at h; rw [if_pos ho,if_pos e] at h; omega
 have hh:=qC (l:=fM (bV l r) b.toNat) fun q hq=>iR hq
 rw [hv]
 unfold kP at hn ⊢
 rcases hh with ⟨_,e⟩|hh
 ·exact absurd e hn
 ·obtain ⟨x,hx,ex⟩:=hh.lo
  obtain ⟨o,ho,p,hp,u,hu,e⟩:=iB.1 hx
  obtain ⟨_,_,rfl⟩:=jG.1 e
  have D:r.Start≤p.2:=Pc hw _ p hp
  have E:0≤bM (bV l r) b.toNat:=by
   unfold bM
   cases e:(bV l r).pq[b.toNat]? with
   |none=>simp
   |some x=>have:=hw.least x (aS e); simp; omega
  simp only [jP] at ex
  omega
theorem Gr {l:aY} {d:au} (h:hE l d):0≤(dq l d).Lo∧(dq l d).Lo≤(dq l d).Hi∧(dq l d).Hi≤86400000:=by
 unfold hE at h
 unfold dq
 split at h
 ·rename_i q; rw [if_pos (Or.inl q),h.2.1]; simp [dL]
 ·rename_i q
  split at h
  ·rename_i A
   rw [if_pos (Or.inr A)]
   obtain ⟨⟨B,C,D⟩,_⟩:=h
   omega
  ·rename_i A
   rw [if_neg (fun z=>z.elim q A),ye h.1]
   have B:=yu h.1
   have C:=(mJ h.1).time
   have D:=Pk h.1
   simp only
   omega
theorem wK {l:aY} {d:au} (h:d.Out=true):dq l d=d.Time:=if_pos (Or.inl h)
theorem uc {l:aY} {d:au} (h:d.Out=false∧d.ed=true):dq l d=d.Time:=if_pos (Or.inr h.2)
theorem rE {l:aY} {d:au} (h:d.Out=false∧d.ed=false):dq l d=t_ l d.bX:=if_neg (by simp [h])
theorem px {l:aY} {d:au} (h:d.Out=true):hE l d=(d.ed=false∧d.Time=dL∧iF d.bX):=if_pos h
theorem qO {l:aY} {d:au} (h:d.Out=false∧d.ed=true):hE l d=(jf d.Time∧iF d.bX):=by unfold hE; rw [if_neg (by simp [h]),if_pos h.2]
theorem oq {l:aY} {d:au} (h:d.Out=false∧d.ed=false):hE l d=(dw l d.bX l.bS=0∧d.Time=dL):=by unfold hE; rw [if_neg (by simp [h]),if_neg (by simp [h])]
structure fj (r:cj):Prop where
 num:1≤(r.aM.length:Int)∧(r.aM.length:Int)≤5
 x7:0≤r.im∧r.im≤5
 nh:1≤(r.ao.length:Int)∧(r.ao.length:Int)≤3
 ids: ∀ (i:Nat) x,r.aM[i]? =some x→(0≤x∧x≤9999)∧ ∀ y,0<i→r.aM[i-1]? =some y→y<x
 draw:r.bL.Perm ((List.range r.aM.length).map fun (k:Nat)=>(k:Int))
 nu: ∀ h∈r.ao,h.length=r.aM.length∧ ∀ d∈h,hE r.an d
noncomputable instance (r:cj):Decidable (fj r):=Classical.propDecidable _
noncomputable def cG (r:cj):Int:=if c_ r.an=0 then (if fj r then 0 else 60) else c_ r.an
end
section
theorem my {α β:Type} {f g:α→Option β}: ∀ {l:List α},(∀ x∈l,f x=g x)→l.filterMap f=l.filterMap g
 |[],_=>rfl
 |x::l,h=>by simp only [List.filterMap_cons,h x cv,my (l:=l) (fun y hy=>h y (cY _ hy))]
abbrev g8:=List (Int×aa)
/-- the sum of a sled in some heats, the first ones -/
noncomputable def gv (l:aY) (hs:List (List au)) (i:Nat):Nat→Option aa
 |0=>some ⟨0,0⟩
 |k+1=>match gv l hs i k,(hs[k]?).bind (·[i]?) with
  |some s,some d=>if d.Out=true then none else some ⟨s.Lo+(dq l d).Lo/10,s.Hi+(dq l d).Hi/10⟩
  |_,_=>none
noncomputable def eG (l:aY) (hs:List (List au)) (n h i:Nat):g8:=(List.range n).filterMap fun q=>(gv l hs q (if q<i then h+1 else h)).map fun s=>((q:Int),s)
noncomputable def eL (r:cj) (k:Nat):g8:=(List.range r.aM.length).filterMap fun q=>(gv r.an r.ao q k).map fun s=>((q:Int),s)
noncomputable def aG (r:cj):g8:=eL r r.ao.length
section
variable {l:aY} {hs:List (List au)} {n h i q:Nat} {s:aa} {d:au}
theorem C7:eG l hs n h 0=(List.range n).filterMap fun q=>(gv l hs q h).map fun s=>((q:Int),s):=by
 unfold eG
 apply my
 intro q _
 rw [if_neg (Nat.not_lt_zero _)]
theorem OQ:eG l hs n h n=eG l hs n (h+1) 0:=by
 rw [C7]
 unfold eG
 apply my
 intro q hq
 rw [if_pos (List.mem_range.1 hq)]
theorem Ix {x:List au} (hx:hs[h]? =some x) (hd:x[i]? =some d) (ho:d.Out=true):gv l hs i (h+1)=none:=by
 unfold gv
 rw [hx]
 simp only [Option.bind_some,hd]
 cases gv l hs i h with
 |none=>rfl
 |some s=>simp [ho]
theorem FE (h0:gv l hs i h=none):gv l hs i (h+1)=none:=by unfold gv; rw [h0]
theorem E8 {x:List au} (hx:hs[h]? =some x) (hd:x[i]? =some d) (ho: ¬ d.Out=true) (hs0:gv l hs i h=some s):gv l hs i (h+1)=some ⟨s.Lo+(dq l d).Lo/10,s.Hi+(dq l d).Hi/10⟩:=by
 unfold gv
 rw [hx,hs0]
 simp only [Option.bind_some,hd,if_neg ho]
end
section
variable {l:aY} {hs:List (List au)} {n h i q:Nat} {s t:aa}
theorem RI {K β:Type} [DecidableEq K] {L Y:List (K×β)} {t:K}:(L++Y).lookup t=match L.lookup t with |some v=>some v|none=>Y.lookup t:=by
 induction L with
 |nil=>rfl
 |cons p L ih=>
  obtain ⟨k,u⟩:=p
  by_cases e:t==k
  ·simp [List.lookup,e]
  ·have:(t==k)=false:=by simpa using e
   simp only [List.cons_append,List.lookup,this,ih]
theorem rX {f:Nat→Option aa}: ∀ (n i:Nat),((List.range n).filterMap fun q=>(f q).map fun s=>((q:Int),s)).lookup (i:Int)=if i<n then f i else none
 |0,i=>by simp
 |n+1,i=>by
  rw [List.range_succ,List.filterMap_append,RI,rX n i]
  by_cases c:i<n
  ·rw [if_pos c,if_pos I]
   cases e:f i with
   |some s=>rfl
   |none=>
    simp only
    cases e2:f n with
    |none=>simp [e2]
    |some u=>
     have:((i:Int)==(n:Int))=false:=by simp only [beq_eq_false_iff_ne,ne_eq]; omega
     simp [e2,List.lookup,this]
  ·rw [if_neg c]
   simp only
   by_cases A:i=n
   ·subst A
    rw [if_pos I]
    cases e2:f i with
    |none=>simp [e2]
    |some u=>simp [e2]
   ·rw [if_neg I]
    have:((i:Int)==(n:Int))=false:=by simp only [beq_eq_false_iff_ne,ne_eq]; omega
    cases e2:f n with
    |none=>simp [e2]
    |some u=>simp [e2,List.lookup,this]
theorem yJ:(eG l hs n h i).lookup (q:Int)=if q<n then gv l hs q (if q<i then h+1 else h) else none:=rX n q
theorem RB {f g:Nat→Option aa} {n i:Nat} (hi:i<n) {s:aa} (hf:(f i).isSome=true) (hg:g i=some s) (hfg: ∀ q,q≠i→f q=g q):e_ ((List.range n).filterMap fun q=>(f q).map fun s=>((q:Int),s)) (i:Int) s=(List.range n).filterMap fun q=>(g q).map fun s=>((q:Int),s):=by
 unfold e_
 rw [if_pos (by rw [rX,if_pos hi]; exact hf),List.map_filterMap]
 apply my
 intro q _
 by_cases e:q=i
 ·subst e
  obtain ⟨u,hu⟩:=Option.isSome_iff_exists.1 hf
  rw [hu,hg]; simp
 ·rw [hfg q e]
  cases g q with
  |none=>rfl
  |some u=>
   have: ¬ ((q:Int)=(i:Int)):=by omega
   simp [this]
theorem Qh {f g:Nat→Option aa} {n i:Nat} (hg:g i=none) (hfg: ∀ q,q≠i→f q=g q):cH ((List.range n).filterMap fun q=>(f q).map fun s=>((q:Int),s)) (i:Int)=(List.range n).filterMap fun q=>(g q).map fun s=>((q:Int),s):=by
 unfold cH
 rw [List.filter_filterMap]
 apply my
 intro q _
 by_cases e:q=i
 ·subst e
  rw [hg]
  cases f q with
  |none=>rfl
  |some u=>simp
 ·rw [hfg q e]
  cases g q with
  |none=>rfl
  |some u=>
   have: ¬ ((q:Int)=(i:Int)):=by omega
   simp [this]
theorem No (hi:i<n) (h0:(gv l hs i h).isSome=true) (h1:gv l hs i (h+1)=some s):e_ (eG l hs n h i) (i:Int) s=eG l hs n h (i+1):=by
 unfold eG
 refine RB hi (by rw [if_neg (Nat.lt_irrefl i)]; exact h0) (by rw [if_pos (Nat.lt_succ_self i)]; exact h1) fun q hq=>?_
 by_cases c:q<i
 ·rw [if_pos c,if_pos I]
 ·rw [if_neg c,if_neg I]
theorem G5 (h1:gv l hs i (h+1)=none):cH (eG l hs n h i) (i:Int)=eG l hs n h (i+1):=by
 unfold eG
 refine Qh (by rw [if_pos (Nat.lt_succ_self i)]; exact h1) fun q hq=>?_
 by_cases c:q<i
 ·rw [if_pos c,if_pos I]
 ·rw [if_neg c,if_neg I]
end
def ni (m:g8) (i:Int):g8:=m.filter fun p=> !decide (p.1=i)
def ji (m:g8) (i n:Int):Nat:=(ni m i).countP fun p=>decide (p.2.Hi<n)
def kG (m:g8) (i n:Int):Nat:=(ni m i).countP fun p=>decide (p.2.Lo<n)
def j0 (m:g8) (i:Int) (own:aa):List Int:=own.Lo::((ni m i).flatMap fun p=>[p.2.Lo+1,p.2.Hi+1]).filter fun n=>decide (own.Lo≤n∧n≤own.Hi)
def tj (m:g8) (i:Int) (own:aa) (k:Int):Prop:= ∃ n∈j0 m i own,(ji m i n:Int)+1≤k∧k≤(kG m i n:Int)+1
noncomputable instance (m:g8) (i:Int) (own:aa) (k:Int):Decidable (tj m i own k):=Classical.propDecidable _
noncomputable def d_ (m:g8) (i:Int) (own:aa):List Int:=((List.range m.length).map fun (k:Nat)=>(k:Int)+1).filter fun k=>decide (tj m i own k)
section
variable {m:g8} {i:Int} {own:aa}
/-- what a point stands for -/
theorem Ji {x:Int} (h1:own.Lo≤x) (h2:x≤own.Hi): ∃ n∈j0 m i own,n≤x∧ji m i n=ji m i x∧kG m i n=kG m i x:=by
 -- the greatest point that is no greater
 have key: ∀ (d:Nat) (x:Int),own.Lo≤x→x≤own.Hi→(x-own.Lo).toNat=d→ ∃ n∈j0 m i own,n≤x∧ji m i n=ji m i x∧kG m i n=kG m i x:=by
  intro d
  induction d with
  |zero=>
   intro x h1 h2 hd
   have:x=own.Lo:=by omega
   exact ⟨own.Lo,cv ..,I,by rw [this],by rw [this]⟩
  |succ d ih=>
   intro x h1 h2 hd
   by_cases c:x∈j0 m i own
   ·exact ⟨x,c,Int.le_refl _,U,U⟩
   ·obtain ⟨n,hn,D,B,C⟩:=ih (x-1) I I I
    have A: ∀ p∈ni m i,p.2.Lo+1≠x∧p.2.Hi+1≠x:=fun p hp=>by
     constructor<;>intro e<;>apply c<;>refine cY _ (List.mem_filter.2 ⟨List.mem_flatMap.2 ⟨p,hp,by rw [← e]; simp⟩,gF ⟨h1,h2⟩⟩)
    refine ⟨n,hn,I,?_,?_⟩
    ·rw [B]
     unfold ji
     apply List.countP_congr
     intro p hp
     have:=(A p hp).2
     rw [decide_eq_true_eq,decide_eq_true_eq]
     omega
    ·rw [C]
     unfold kG
     apply List.countP_congr
     intro p hp
     have:=(A p hp).1
     rw [decide_eq_true_eq,decide_eq_true_eq]
     omega
 exact key _ x h1 h2 U
theorem JX {n:Int} (ho:own.Lo≤own.Hi) (h:n∈j0 m i own):own.Lo≤n∧n≤own.Hi:=by
 rcases bx.1 h with rfl|h
 ·omega
 ·exact of_decide_eq_true (List.mem_filter.1 h).2
/-- a rank comes about at some sum -/
theorem Ce (ho:own.Lo≤own.Hi) {k:Int}:tj m i own k↔ ∃ x,own.Lo≤x∧x≤own.Hi∧(ji m i x:Int)+1≤k∧k≤(kG m i x:Int)+1:=by
 constructor
 ·rintro ⟨n,hn,A,B⟩
  have:=JX ho hn
  exact ⟨n,this.1,this.2,A,B⟩
 ·rintro ⟨x,A,B,E,F⟩
  obtain ⟨n,hn,_,C,D⟩:=Ji (m:=m) (i:=i) A B
  exact ⟨n,hn,by rw [C]; exact E,by rw [D]; exact F⟩
theorem Ki (hi:m.lookup i≠none) {x:Int}:kG m i x+1≤m.length:=by
 unfold kG
 refine Nat.lt_of_le_of_lt List.countP_le_length ?_
 unfold ni
 obtain ⟨v,hv⟩:=Option.ne_none_iff_exists'.1 hi
 have hm: ∃ p∈m,p.1=i:=by
  clear hi
  induction m with
  |nil=>simp at hv
  |cons p m ih=>
   obtain ⟨a,b⟩:=p
   by_cases e:i=a
   ·exact ⟨_,cv ..,e.symm⟩
   ·have:(i==a)=false:=by simpa using e
    simp only [List.lookup,this] at hv
    obtain ⟨p,hp,e⟩:=ih hv
    exact ⟨p,cY _ hp,e⟩
 obtain ⟨p,hp,e⟩:=hm
 refine Nat.lt_of_le_of_ne (List.length_filter_le _ _) fun q=>?_
 have:=(List.filter_eq_self (p:=fun p:Int×aa=> !decide (p.1=i))).1 (List.filter_sublist.eq_of_length q) p hp
 simp [e] at this
theorem Io (hi:m.lookup i≠none) {k:Int}:k∈d_ m i own↔tj m i own k:=by
 unfold d_
 rw [List.mem_filter,bZ,decide_eq_true_eq]
 constructor
 ·rintro ⟨_,h⟩; exact h
 ·intro h
  refine ⟨?_,h⟩
  obtain ⟨n,_,A,B⟩:=h
  have:=Ki hi (x:=n)
  exact ⟨(k-1).toNat,List.mem_range.2 I,I⟩
end
end
section
def qT (l:List Int):List (List Value):=l.map fun x=>[vI x]
theorem ub {l:List Int}:(qT l).length=l.length:=by simp [qT]
theorem IZ {l:List Int} {k:Nat} {x:Int} (h:l[k]? =some x):(qT l)[k]? =some [vI x]:=by simp [qT,h]
theorem HT {l:List Int} {k:Nat} {x:List Value} (h:(qT l)[k]? =some x): ∃ y,l[k]? =some y∧x=[vI y]:=by
 simp only [qT,eT,Option.map_eq_some_iff] at h
 obtain ⟨y,hy,rfl⟩:=h
 exact ⟨y,hy,U⟩
theorem Eg {l:List Int}: ∀ x∈qT l,x.length=1:=fun x hx=>by
 simp only [qT,bZ] at hx
 obtain ⟨y,_,rfl⟩:=hx
 rfl
theorem yU {l:List Int}:l.take (qT l).length=l:=by rw [ub,List.take_of_length_le (Nat.le_refl _)]
theorem mA {l:List Int} {k:Nat} {x:Int} (h:l[k]? =some x):l.take (k+1)=l.take k++[x]:=by
 rw [List.take_add_one,h]; rfl
def dE (l:List Int):List Int:=l.mergeSort fun a b=>decide (a≤b)
theorem fT {l:List Int}:(dE l).Perm l:=List.mergeSort_perm _ _
theorem lM {l:List Int}:(dE l).Pairwise (· ≤ ·):=by
 have:=List.pairwise_mergeSort (le:=fun (a b:Int)=>decide (a≤b)) (fun a b c A B=>by simp at A B ⊢; omega) (fun a b=>by simp; omega) l
 exact this.imp fun h=>by simpa using h
@[simp] theorem gL {l:List Int}:(dE l).length=l.length:=fT.length_eq
theorem re {l m:List Int} (h1:m.Perm l) (h2:m.Pairwise (· ≤ ·)):m=dE l:=sO (h1.trans fT.symm) h2 lM
end
section
open Go.RowKit
def sC (s:bp):List Value:=[vS s.a s.n s.c]
theorem Ai: ∀ s,(sC s).length=1:=fun s=>rfl
theorem Jr (l:List bp): ∀ v∈(l.map sC).flatten,v.oneCell'=true:=mM (fun s=>rfl) l
def CQ (l:List aa) (a:RA):bp:=⟨a.1,l.length,a.2⟩
def EM (l:List aa) (a:RA):List Value:=[vS a.1 l.length a.2]
def Nh (l:List aa) (a:RA):List aw:=[rd a.1 l.length 2 (l.map aa.cells)]
def D8 (l:List aa) (a:RA):List aw:=[own a.1 a.2 Jm 2 (l.map aa.cells)]
theorem z6 {ls:List (List aa)} {az:List RA}:(List.zipWith CQ ls az).map sC=List.zipWith EM ls az:=by
 rw [List.map_zipWith]; rfl
theorem tU: ∀ (m:List aa) (a:RA) (w:World),(∀ X∈D8 m a,X.holds w)→ ∀ X∈Nh m a,X.holds w:=fun m a w h X hX=>by
 simp only [Nh,bI] at hX
 subst hX
 have:=oe (h _ (bI.2 rfl))
 simpa using this
theorem s_ {l:List (List aa)} {bz:List RA}:(br (aR D8 l bz)).wr=true:=by
 show (aR D8 l bz).all (·.wr)=true
 rw [cV]
 intro X hX
 obtain ⟨k,m,a,_,_,h⟩:=j_ hX
 simp only [D8,bI] at h
 subst h; rfl
theorem nx {ls:List (List aa)} {az:List RA} (h:az.length=ls.length):(List.zipWith EM ls az).length=ls.length:=by simp [h]
noncomputable def gR (r:cj) (i:Nat):List (List aa):=(r.ao.take i).map fun h=>h.map (dq r.an)
noncomputable def cT (r:cj):List (List aa):=gR r r.ao.length
section
variable {r:cj} {i:Nat} {h:List au} {tz:List RA} {a:RA}
theorem vJ (hh:r.ao[i]? =some h):gR r (i+1)=gR r i++[h.map (dq r.an)]:=by unfold gR; rw [List.take_add_one,hh,List.map_append]; rfl
theorem lg (hi:i≤r.ao.length):(gR r i).length=i:=by unfold gR; rw [List.length_map,List.length_take]; omega
theorem dQ:(cT r).length=r.ao.length:=lg (Nat.le_refl _)
theorem EI (hh:r.ao[i]? =some h):(cT r)[i]? =some (h.map (dq r.an)):=by
 unfold cT gR
 rw [List.take_length,eT,hh]; rfl
theorem Ah {m:List aa} (hh:r.ao[i]? =some h) (hm:(cT r)[i]? =some m):m=h.map (dq r.an):=by
 rw [EI hh] at hm
 exact (Option.some.inj hm).symm
theorem uA (hh:r.ao[i]? =some h) (hl:tz.length=i):List.zipWith CQ (gR r (i+1)) (tz++[a])=List.zipWith CQ (gR r i) tz++[CQ (h.map (dq r.an)) a]:=by
 have hi:=(aV.1 hh).1
 rw [vJ hh,List.zipWith_append (by rw [lg I,hl])]
 rfl
theorem Ca (hh:r.ao[i]? =some h) (hl:tz.length=i):aR D8 (gR r i) tz++[own a.1 a.2 Jm 2 ((h.map (dq r.an)).map aa.cells)]=aR D8 (gR r (i+1)) (tz++[a]):=by
 have hi:=(aV.1 hh).1
 rw [vJ hh,jy (by rw [lg I,hl])]
 simp [aR,D8]
end
theorem zd {lo hi:Int} {l:List Int}:qu lo hi l=true↔ ∀ x∈l,lo≤x∧x≤hi:=by
 unfold qu
 rw [Bool.not_eq_true',List.any_eq_false]
 constructor
 ·intro h x hx; have:=h x hx; simp only [decide_eq_true_eq] at this; omega
 ·intro h x hx; have:=h x hx; simp only [decide_eq_true_eq]; omega
abbrev Ir (n:Nat):List Int:=(List.range n).map fun (k:Nat)=>(k:Int)
theorem yE (n:Nat):(Ir n).Pairwise (· ≤ ·):=by
 unfold Ir
 rw [List.pairwise_map]
 exact List.pairwise_lt_range.imp fun h=>by omega
theorem vz {l:List Int} {n:Nat} (h:l.Perm (Ir n)):dE l=Ir n:=(re h.symm (yE n)).symm
theorem Hk {l:List Int} {n:Nat} (hl:l.length=n) (h: ∀ j,j<n→ ∀ x,(dE l)[j]? =some x→x=(j:Int)):l.Perm (Ir n):=by
 have e:dE l=Ir n:=by
  apply List.ext_getElem
  ·simp [hl]
  ·intro j A B
   have C:j<n:=by simpa using B
   have:=h j C _ (eN A)
   simpa using this
 rw [← e]; exact fT.symm
def rN (r:cj) (i:Nat):Prop:= ∀ j,j<i→(∀ x,(dE r.bL)[j]? =some x→x=(j:Int))∧ ∀ x y,r.aM[j]? =some x→0<j→r.aM[j-1]? =some y→y<x
def E7 (r:cj) (h:List au):Prop:=h.length=r.aM.length∧ ∀ d∈h,hE r.an d
def kq (r:cj) (i:Nat):Prop:= ∀ (j:Nat) h,j<i→r.ao[j]? =some h→E7 r h
def oP (l:aY) (h:List au) (k:Nat):Prop:= ∀ (j:Nat) d,j<k→h[j]? =some d→hE l d
section
variable {r:cj} {i:Nat}
theorem Fv:rN r 0:=fun j hj=>absurd hj (Nat.not_lt_zero _)
theorem wY {x:Int} (h:rN r i) (hd:(dE r.bL)[i]? =some x) (e:x=(i:Int)) (hs: ∀ x y,r.aM[i]? =some x→0<i→r.aM[i-1]? =some y→y<x):rN r (i+1):=fun j hj=>by
 rcases Nat.lt_or_ge j i with q|q
 ·exact h j q
 ·obtain rfl:j=i:=by omega
  exact ⟨fun y hy=>by rw [hd] at hy; cases hy; exact e,hs⟩
theorem xO:kq r 0:=fun j h hj=>absurd hj (Nat.not_lt_zero _)
theorem w8 {h:List au} (hh:kq r i) (hx:r.ao[i]? =some h) (ho:E7 r h):kq r (i+1):=fun j y hj hy=>by
 rcases Nat.lt_or_ge j i with q|q
 ·exact hh j y q hy
 ·obtain rfl:j=i:=by omega
  rw [hx] at hy; cases hy; exact ho
theorem vZ {l:aY} {h:List au}:oP l h 0:=fun j d hj=>absurd hj (Nat.not_lt_zero _)
theorem vW {l:aY} {h:List au} {d:au} (ht:oP l h i) (hx:h[i]? =some d) (ho:hE l d):oP l h (i+1):=fun j y hj hy=>by
 rcases Nat.lt_or_ge j i with q|q
 ·exact ht j y q hy
 ·obtain rfl:j=i:=by omega
  rw [hx] at hy; cases hy; exact ho
theorem Gp {h:List au} (hl:h.length=r.aM.length) (ht:oP r.an h i) (hi:h.length≤i):E7 r h:=⟨hl,fun d hd=>by
 obtain ⟨j,hj⟩:=List.getElem?_of_mem hd
 exact ht j d (by have:=(aV.1 hj).1; omega) hj⟩
theorem K9 {n:Nat} (hn:n=r.aM.length) (h1:1≤(r.aM.length:Int)∧(r.aM.length:Int)≤5) (h2:r.bL.length=r.aM.length) (h3:0≤r.im∧r.im≤5) (h4:1≤(r.ao.length:Int)∧(r.ao.length:Int)≤3) (h5:qu 0 9999 r.aM=true)
 (h6:rN r n) (h7:kq r i) (hi:r.ao.length≤i):fj r:=by
 subst hn
 refine ⟨h1,h3,h4,fun k x hx=>⟨zd.1 h5 x (aS hx),fun y hk hy=>?_⟩,Hk h2 fun j hj=>(h6 j hj).1,fun h hh=>?_⟩
 ·exact (h6 k (aV.1 hx).1).2 x y hx hk hy
 ·obtain ⟨j,hj⟩:=List.getElem?_of_mem hh
  exact h7 j h (by have:=(aV.1 hj).1; omega) hj
theorem fj.yY (h:fj r):r.bL.length=r.aM.length:=by have:=h.draw.length_eq; simpa using this
theorem fj.ins (h:fj r):qu 0 9999 r.aM=true:=zd.2 fun x hx=>by
 obtain ⟨j,hj⟩:=List.getElem?_of_mem hx
 exact (h.ids j x hj).1
theorem fj.drawn (h:fj r) {x:Int} (hx:(dE r.bL)[i]? =some x):x=(i:Int):=by
 rw [vz h.draw] at hx
 have hi:=(aV.1 hx).1
 simp at hi
 rw [eT,List.getElem?_range hi] at hx
 exact (Option.some.inj hx).symm
theorem fj.Bg (h:fj r):kq r i:=fun j x _ hx=>h.nu x (aS hx)
theorem zY (h: ¬ c_ r.an=0):cG r=c_ r.an:=if_neg h
theorem kQ (h:c_ r.an=0) (hn: ¬ fj r):cG r=60:=by unfold cG; rw [if_pos h,if_neg hn]
theorem Cm (h:c_ r.an=0) (hn:fj r):cG r=0:=by unfold cG; rw [if_pos h,if_pos hn]
theorem gX (h:cG r=0):c_ r.an=0∧fj r:=by
 unfold cG at h
 split at h
 ·split at h
  ·exact ⟨asm,asm⟩
  ·cases h
 ·exact absurd h asm
end
section
variable {r:cj} {k i n h:Nat} {s:aa} {l:aY} {hs:List (List au)}
theorem As: ∀ {k:Nat} {s:aa},kq r k→k≤r.ao.length→gv r.an r.ao i k=some s→0≤s.Lo∧s.Lo≤s.Hi∧s.Hi≤8640000*(k:Int)
 |0,s,_,_,h=>by
  simp only [gv,Option.some.injEq] at h
  subst h; simp
 |k+1,s,hh,hk,h=>by
  unfold gv at h
  split at h
  ·rename_i u d hu hd
   split at h
   ·cases h
   ·cases h
    have A:=As (fun j x hj hx=>hh j x I hx) I hu
    obtain ⟨x,hx,hd⟩:=Option.bind_eq_some_iff.1 hd
    have B:=Gr ((hh k x I hx).2 d (aS hd))
    simp only
    push_cast
    omega
  ·cases h
theorem Pg:e_ (eG l hs i 0 0) (i:Int) ⟨0,0⟩=eG l hs (i+1) 0 0:=by
 have A:(eG l hs i 0 0).lookup (i:Int)=none:=by rw [yJ,if_neg (Nat.lt_irrefl i)]
 unfold e_
 rw [A]
 simp only [Option.isSome_none,Bool.false_eq_true,if_false]
 unfold eG
 rw [List.range_succ,List.filterMap_append]
 simp [gv]
theorem Ms (hi:i<n):(eG l hs n h i).lookup (i:Int)=gv l hs i h:=by rw [yJ,if_pos hi,if_neg (Nat.lt_irrefl i)]
theorem MP {α β:Type} {f:α→β} {tr:List β} {ht:List α} {x:β} {d:α} (e:tr=ht.map f) (hx:tr[i]? =some x) (hd:ht[i]? =some d):x=f d:=by
 rw [e,eT,hd] at hx
 exact (Option.some.inj hx).symm
theorem Nr:eG r.an r.ao r.aM.length h 0=eL r h:=C7
end
end
section
def wj (key:Int→Int) (l:List Int) (x:Int):List Int:=l.takeWhile (fun y=>decide (key y≤key x))++x::l.dropWhile (fun y=>decide (key y≤key x))
def eM (key:Int→Int) (l:List Int):List Int:=l.foldl (wj key) []
def Ec (key:Int→Int) (l:List Int):Prop:=l.Pairwise fun a b=>key a≤key b
section
variable {key:Int→Int} {l A B D:List Int} {x u v:Int} {i j:Nat}
theorem IU:(wj key l x).Perm (x::l):=by
 unfold wj
 refine List.perm_middle.trans ?_
 rw [List.takeWhile_append_dropWhile]
theorem PN (hA: ∀ y∈A,key y≤key x) (hB: ∀ y∈B,key x<key y):(A++B).takeWhile (fun y=>decide (key y≤key x))=A∧(A++B).dropWhile (fun y=>decide (key y≤key x))=B:=by
 induction A with
 |nil=>
  cases B with
  |nil=>simp
  |cons b B=>
   have h:=hB b cv
   have:decide (key b≤key x)=false:=cy I
   rw [List.nil_append,List.takeWhile_cons,List.dropWhile_cons,this]
   exact ⟨U,U⟩
 |cons a A ih=>
  have h:=ih fun y hy=>hA y (cY _ hy)
  have:decide (key a≤key x)=true:=gF (hA a cv)
  simp only [List.cons_append,List.takeWhile,List.dropWhile,this]
  exact ⟨by rw [h.1],h.2⟩
theorem xU (hA: ∀ y∈A,key y≤key x) (hB: ∀ y∈B,key x<key y):wj key (A++B) x=A++x::B:=by
 unfold wj
 rw [(PN hA hB).1,(PN hA hB).2]
theorem Dk (x:Int): ∀ {l:List Int},Ec key l→ ∃ A B,l=A++B∧(∀ y∈A,key y≤key x)∧ ∀ y∈B,key x<key y
 |[],_=>⟨[],[],rfl,(fun y h=>by cases h),fun y h=>by cases h⟩
 |a::l,h=>by
  unfold Ec at h
  rw [List.pairwise_cons] at h
  by_cases c:key a≤key x
  ·obtain ⟨A,B,e,hA,hB⟩:=Dk x (l:=l) h.2
   refine ⟨a::A,B,by rw [e]; rfl,fun y hy=>?_,hB⟩
   rcases bx.1 hy with rfl|hy
   ·exact c
   ·exact hA y hy
  ·refine ⟨[],a::l,rfl,fun y hy=>(by cases hy),fun y hy=>?_⟩
   rcases bx.1 hy with rfl|hy
   ·omega
   ·have:=h.1 y hy; omega
theorem Pa (h:Ec key l):Ec key (wj key l x):=by
 obtain ⟨A,B,rfl,hA,hB⟩:=Dk x h
 rw [xU hA hB]
 unfold Ec at h ⊢
 rw [List.pairwise_append] at h ⊢
 refine ⟨h.1,List.pairwise_cons.2 ⟨fun y hy=>by have:=hB y hy; omega,h.2.1⟩,fun y hy z hz=>?_⟩
 rcases bx.1 hz with rfl|hz
 ·exact hA y hy
 ·exact h.2.2 y hy z hz
theorem DV:eM key (l++[x])=wj key (eM key l) x:=by unfold eM; rw [List.foldl_append]; rfl
theorem DM (h:l[i]? =some x):eM key (l.take (i+1))=wj key (eM key (l.take i)) x:=by rw [mA h,DV]
theorem yw: ∀ {l m:List Int},(l.foldl (wj key) m).Perm (m++l)
 |[],m=>by simp
 |x::l,m=>(yw (l:=l) (m:=wj key m x)).trans (((IU).append_right l).trans (by
  rw [List.cons_append]
  exact List.perm_middle.symm))
theorem qG:(eM key l).Perm l:=by simpa [eM] using yw (key:=key) (l:=l) (m:=[])
theorem Dy: ∀ {l m:List Int},Ec key m→Ec key (l.foldl (wj key) m)
 |[],m,h=>h
 |x::l,m,h=>Dy (l:=l) (Pa h)
theorem uN:Ec key (eM key l):=Dy List.Pairwise.nil
theorem kZ:(eM key l).length=l.length:=qG.length_eq
def CB (key:Int→Int) (l:List Int) (i j:Nat) (D:List Int):Prop:= ∃ A B x,l[i]? =some x∧A.length=j∧eM key (l.take i)=A++B∧(∀ y∈B,key x<key y)∧D=A++x::(B++l.drop (i+1))
def tI (key:Int→Int) (l:List Int) (i:Nat) (D:List Int):Prop:=D=eM key (l.take i)++l.drop i
theorem L5 (h:0<l.length):tI key l 1 l:=by
 cases l with
 |nil=>simp at h
 |cons a l=>simp [tI,eM,wj]
theorem LL (hi:l.length≤i) (h:tI key l i D):D=eM key l:=by
 subst h; rw [List.take_of_length_le hi,List.drop_of_length_le hi,List.append_nil]
theorem EU (hi:i<l.length) (h:tI key l i D):CB key l i i D:=by
 have hx:l[i]? =some l[i]:=eN hi
 refine ⟨eM key (l.take i),[],l[i],hx,by rw [kZ,List.length_take]; omega,sm,fun y hy=>(by cases hy),?_⟩
 rw [h,List.nil_append,List.drop_eq_getElem_cons hi]
theorem yN: ∀ {A:List Int},0<A.length→ ∃ A' y,A=A'++[y]:=fun {A} h=>⟨A.dropLast,A.getLast (by intro e; subst e; simp at h),(List.dropLast_concat_getLast _).symm⟩
theorem IV (hj:0<j) (h:CB key l i j D) (hu:D[j]? =some u) (hv:D[j-1]? =some v) (hlt:key u<key v):CB key l i (j-1) ((D.set j v).set (j-1) u):=by
 obtain ⟨A,B,x,hx,hl,he,hB,rfl⟩:=h
 obtain ⟨A',y,rfl⟩:=yN (A:=A) I
 simp only [List.length_append,List.length_cons,List.length_nil] at hl
 subst hl
 have C:(A'++[y]++x::(B++l.drop (i+1)))=A'++y::x::(B++l.drop (i+1)):=by simp
 rw [C] at hu hv ⊢
 rw [List.getElem?_append_right I,show A'.length+(0+1)-A'.length=1 by omega] at hu
 rw [show A'.length+(0+1)-1=A'.length by omega,List.getElem?_append_right (Nat.le_refl _),Nat.sub_self] at hv
 simp at hu hv
 subst hu hv
 refine ⟨A',y::B,x,hx,I,by rw [he]; simp,fun z hz=>?_,?_⟩
 ·rcases bx.1 hz with rfl|hz
  ·exact hlt
  ·exact hB z hz
 ·rw [show A'.length+(0+1)-1=A'.length by omega,List.set_append_right _ _ I,List.set_append_right _ _ (Nat.le_refl _),show A'.length+(0+1)-A'.length=1 by omega,Nat.sub_self]
  simp
theorem Ad (h:CB key l i j D) (hc: ∀ A,A.length=j→(∃ C,D=A++C)→Ec key A→ ∀ x,l[i]? =some x→D[j]? =some x→ ∀ y∈A,key y≤key x):tI key l (i+1) D:=by
 obtain ⟨A,B,x,hx,hl,he,hB,rfl⟩:=h
 unfold tI
 have E:Ec key (A++B):=he▸uN
 rw [DM hx,he,xU (hc A hl ⟨_,rfl⟩ (by unfold Ec at E ⊢; rw [List.pairwise_append] at E; exact E.1) x hx (by rw [List.getElem?_append_right I,← hl]; simp)) hB]
 simp
theorem Ao (hj: ¬ 0<j) (h:CB key l i j D):tI key l (i+1) D:=Ad h fun A hl _ _ x _ _ y hy=>by
 have:A=[]:=j1 I
 subst this; cases hy
theorem zI (hj:0<j) (h:CB key l i j D) (hu:D[j]? =some u) (hv:D[j-1]? =some v) (hlt: ¬ key u<key v):tI key l (i+1) D:=Ad h fun A hl hC hA x hx hd y hy=>by
 obtain ⟨C,hC⟩:=hC
 obtain ⟨A',z,rfl⟩:=yN (A:=A) I
 simp only [List.length_append,List.length_cons,List.length_nil] at hl
 rw [hd] at hu; cases hu
 have e:D[j-1]? =some z:=by
  rw [hC,List.append_assoc,List.getElem?_append_right I,show j-1-A'.length=0 by omega]; simp
 rw [e] at hv; cases hv
 unfold Ec at hA
 rw [List.pairwise_append] at hA
 rcases dN.1 hy with hy|hy
 ·have:=hA.2.2 y hy v sm; omega
 ·rw [bI] at hy; subst hy; omega
end
end
section
def sL (k:Nat) (l:List Int):List Int:=(l.take k).reverse++l.drop k
def HM (l:List Int) (k i:Nat) (D:List Int):Prop:=D.length=l.length∧ ∀ p,p<l.length→D[p]? =l[if p<k∧(p<i∨k≤p+i) then k-1-p else p]?
section
variable {l D:List Int} {k i j:Nat} {u v:Int}
theorem kB:(sL k l).length=l.length:=by unfold sL; rw [List.length_append,List.length_reverse,List.length_take,List.length_drop]; omega
theorem Nc:HM l k 0 l:=⟨rfl,fun p hp=>by rw [if_neg I]⟩
theorem Lf (hk:k≤l.length) (hij:i<j) (hj:j+i+1=k) (h:HM l k i D) (hu:D[i]? =some u) (hv:D[j]? =some v):HM l k (i+1) ((D.set i v).set j u):=by
 refine ⟨by rw [List.length_set,List.length_set]; exact h.1,fun p hp=>?_⟩
 have hl:=h.1
 have hi:=h.2 i I
 have A:=h.2 j I
 rw [hu,if_neg I] at hi
 rw [hv,if_neg I] at A
 by_cases B:p=j
 ·subst B
  rw [List.getElem?_set_self (by rw [List.length_set]; omega),if_pos I,show k-1-p=i by omega,hi]
 ·rw [List.getElem?_set_ne (fun e=>B e.symm)]
  by_cases C:p=i
  ·subst C
   rw [List.getElem?_set_self I,if_pos I,show k-1-p=j by omega,A]
  ·rw [List.getElem?_set_ne (fun e=>C e.symm),h.2 p hp]
   by_cases c:p<k∧(p<i∨k≤p+i)
   ·rw [if_pos c,if_pos I]
   ·rw [if_neg c,if_neg I]
theorem Nv (hk:k≤l.length) (hi:k≤2*i+1) (h:HM l k i D):D=sL k l:=by
 apply List.ext_getElem?
 intro p
 by_cases hp:p<l.length
 ·rw [h.2 p hp]
  unfold sL
  by_cases c:p<k
  ·rw [List.getElem?_append_left (by rw [List.length_reverse,List.length_take]; omega),List.getElem?_reverse (by rw [List.length_take]; omega),List.length_take,Nat.min_eq_left hk,List.getElem?_take]
   rw [if_pos (show k-1-p<k by omega)]
   by_cases A:p<k∧(p<i∨k≤p+i)
   ·rw [if_pos A]
   ·rw [if_neg A,show k-1-p=p by omega]
  ·rw [if_neg I,List.getElem?_append_right (by rw [List.length_reverse,List.length_take]; omega),List.length_reverse,List.length_take,Nat.min_eq_left hk,List.getElem?_drop,show k+(p-k)=p by omega]
 ·rw [List.getElem?_eq_none (by rw [h.1]; omega),List.getElem?_eq_none (by rw [kB]; omega)]
end
end
end Go.Proofs.YtlajhejcfcoddaaGreatDoor
