/-
 The statement juryLater_said, part 4 of 9: Short, Grow, Global, RunA, Tab, Run, Comp, Ret, LoopK, MapK, Watch, Passes, Keys, MapR, RangeG, Nest, WMaps, WBounds, PassG, Drop, Spot, First, Line, Wrap, Goes, OpenW, Wheres, LineR, Race, RaceS, Vals, RaceO, RaceV, Jury, JMore, WLe.
 Conditions: none.
-/
import Derived.Test.YtijpnoadncadoaaGreatDoorTw1
import Derived.Test.YtijpnoadncadoaaGreatDoorTw2
import Derived.Test.YtijpnoadncadoaaGreatDoorTw3
import Derived.Test.YtijpnoadncadoaaGreatDoorProg
import Derived.KernelRfl
import Derived.WideKeyRuns
namespace Go.Proofs.YtijpnoadncadoaaGreatDoor
set_option maxRecDepth 100000
set_option maxHeartbeats 4000000
set_option linter.unusedVariables false
section
open Go.RowKit
/-- an operation that hands v to its slot d -/
structure SE (E:fG) (ops:Array Oper) (o:Oper) (D:ik) (L:dC) (C:List aB) (v:Value) (d:Nat):Prop where
 h:SD E ops o D L C v
 o:o.dst=some d
 n:Nat.blt d E.n=true
theorem rS {E:fG} {ops:Array Oper} {Q:dk} {o:Oper} {rest:List Oper} {D:ik} {L:dC} {C:List aB} {v:Value} {d:Nat}
 (h:SE E ops o D L C v d) (k:RJ E ops Q rest D ((d,v)::L) C):RJ E ops Q (o::rest) D L C:=Tb h.h h.o h.n k
theorem dS {E:fG} {ops:Array Oper} {F:dC→Prop} {o:Oper} {rest:List Oper} {D:ik} {L:dC} {C:List aB} {v:Value} {d:Nat}
 (h:SE E ops o D L C v d) (k:DJ E ops D C F rest ((d,v)::L)):DJ E ops D C F (o::rest) L:=S7 h.h h.o h.n k
theorem eS {E:fG} {ops:Array Oper} {D:ik} {C' C1:List aB} {F:dC→Prop} {bs:List Bool} {o:Oper} {l rest:List Oper} {L:dC} {v:Value} {d:Nat}
 (hl:l=o::rest) (h:SE E ops o D L C' v d) (k:rf E ops D C' C1 F bs rest ((d,v)::L)):rf E ops D C' C1 F (false::bs) l L:=Tj h.h hl h.o h.n k
theorem fS {E:fG} {ops:Array Oper} {D:ik} {C' C1:List aB} {F:dC→Prop} {bs:List Bool} {o:Oper} {l rest:List Oper} {L:dC} {v:Value} {d:Nat}
 (hl:l=o::rest) (h:SE E ops o D L C1 v d) (k:rf E ops D C' C1 F bs rest ((d,v)::L)):rf E ops D C' C1 F (true::bs) l L:=S5 h.h hl h.o h.n k
def gB (n:Nat) (ops:Array Oper) (L:dC) (d:Nat) (g:Option (Nat×Bool)):Bool:=kx ops L g&&Nat.blt d n
theorem PX {n:Nat} {ops:Array Oper} {L:dC} {d:Nat} {g:Option (Nat×Bool)} (h:gB n ops L d g=true):kx ops L g=true:=by
 unfold gB at h; rw [cZ] at h; exact h.1
theorem P3 {n:Nat} {ops:Array Oper} {L:dC} {d:Nat} {g:Option (Nat×Bool)} (h:gB n ops L d g=true):Nat.blt d n=true:=by
 unfold gB at h; rw [cZ] at h; exact h.2
def vF (n:Nat) (ops:Array Oper) (L:dC) (d:Nat) (g:Option (Nat×Bool)) (x:Operand):Option Value:=match gB n ops L d g with
 |true=>ev L x
 |false=>none
def bF (n:Nat) (ops:Array Oper) (L:dC) (d:Nat) (g:Option (Nat×Bool)) (x y:Operand):Option (Value×Value):=match gB n ops L d g with
 |true=>match ev L x,ev L y with
  |some u,some v=>some (u,v)
  |_,_=>none
 |false=>none
def pF (n:Nat) (ops:Array Oper) (L:dC) (d:Nat) (g:Option (Nat×Bool)) (c x y:Operand):Option Value:=match gB n ops L d g with
 |true=>match ev L c with
  |some (.bool true)=>ev L x
  |some (.bool false)=>ev L y
  |_=>none
 |false=>none
def xF (n:Nat) (ops:Array Oper) (L:dC) (d:Nat) (g:Option (Nat×Bool)) (x:Operand) (i:Nat):Option Value:=match vF n ops L d g x with
 |some (.tuple vs)=>vs.toList[i]?
 |_=>none
def uF (n:Nat) (ops:Array Oper) (L:dC) (d:Nat) (g:Option (Nat×Bool)) (xs ys:List Operand):Option (List Value×List Value):=match gB n ops L d g with
 |true=>match evs L xs,evs L ys with
  |some u,some v=>some (u,v)
  |_,_=>none
 |false=>none
def cF (n:Nat) (ops:Array Oper) (L:dC) (d:Nat) (g:Option (Nat×Bool)) (fop:Operand) (xs:List Operand):Option (FuncId×List Value):=match gB n ops L d g with
 |true=>match ev L fop,evs L xs with
  |some (.func (.func f) fi ca),some vs=>some (f,fi.toList++vs++ca.toList)
  |_,_=>none
 |false=>none
theorem jN {n:Nat} {ops:Array Oper} {L:dC} {d:Nat} {g:Option (Nat×Bool)} {x:Operand} {v:Value} (h:vF n ops L d g x=some v):kx ops L g=true∧Nat.blt d n=true∧ev L x=some v:=by
 unfold vF at h
 split at h
 ·rename_i hb; exact ⟨PX hb,P3 hb,h⟩
 ·cases h
theorem tS {n:Nat} {ops:Array Oper} {L:dC} {d:Nat} {g:Option (Nat×Bool)} {x y:Operand} {u v:Value} (h:bF n ops L d g x y=some (u,v)):kx ops L g=true∧Nat.blt d n=true∧ev L x=some u∧ev L y=some v:=by
 unfold bF at h
 split at h
 ·rename_i hb
  split at h
  ·rename_i hx hy; cases h; exact ⟨PX hb,P3 hb,hx,hy⟩
  ·cases h
 ·cases h
theorem RZ {n:Nat} {ops:Array Oper} {L:dC} {d:Nat} {g:Option (Nat×Bool)} {x y:List Operand} {u v:List Value} (h:uF n ops L d g x y=some (u,v)):kx ops L g=true∧Nat.blt d n=true∧evs L x=some u∧evs L y=some v:=by
 unfold uF at h
 split at h
 ·rename_i hb
  split at h
  ·rename_i hx hy; cases h; exact ⟨PX hb,P3 hb,hx,hy⟩
  ·cases h
 ·cases h
section
variable {E:fG} {ops:Array Oper} {Q:dk} {rest:List Oper} {D:List Deferred} {L:List (Nat×Value)} {C:List aB}
variable {d:Nat} {ty:TypeId} {ps:String} {af:Array Edge} {g:Option (Nat×Bool)}
theorem SX {o:Oper} {v:Value} (h:SD E ops o D L C v) (ho:o.dst=some d) (hd:Nat.blt d E.n=true):SE E ops o D L C v d:=⟨h,ho,hd⟩
theorem MV {x:Operand} {v:Value} (h:vF E.n ops L d g x=some v):SE E ops ⟨some d,.move x,ty,ps,af,g⟩ D L C v d:=by
 obtain ⟨A,B,F⟩:=jN h; exact ⟨GL A F,rfl,B⟩
theorem AG {x:Operand} {v:Value} (h:vF E.n ops L d g x=some v):SE E ops ⟨some d,.assign x,ty,ps,af,g⟩ D L C v d:=by
 obtain ⟨A,B,F⟩:=jN h; exact ⟨Ai A F,rfl,B⟩
theorem OX {op:Op} (h:(D3 ops L g&&Nat.blt d E.n)=true):SE E ops ⟨some d,op,ty,ps,af,g⟩ D L C undef d:=by
 rw [cZ] at h; exact ⟨KF h.1,rfl,h.2⟩
theorem NT {xt:TypeId} {x:Operand} {b:Bool} (h:vF E.n ops L d g x=some (.bool b)):SE E ops ⟨some d,.unOp .not xt x,ty,ps,af,g⟩ D L C (.bool !b) d:=by
 obtain ⟨A,B,F⟩:=jN h; exact ⟨LH A F,rfl,B⟩
theorem NG {xt:TypeId} {x:Operand} {n:Int} (h:vF E.n ops L d g x=some (.int .i64 n)) (hb:rD (-n)):SE E ops ⟨some d,.unOp .neg xt x,ty,ps,af,g⟩ D L C (.int .i64 (-n)) d:=by
 obtain ⟨A,B,F⟩:=jN h; exact ⟨QJ A F hb,rfl,B⟩
theorem PK {c x y:Operand} {v:Value} (h:pF E.n ops L d g c x y=some v):SE E ops ⟨some d,.pick c x y,ty,ps,af,g⟩ D L C v d:=by
 unfold pF at h
 split at h
 ·rename_i hb
  split at h
  ·rename_i hc; exact ⟨Ak (PX hb) hc h,rfl,P3 hb⟩
  ·rename_i hc; exact ⟨As (PX hb) hc h,rfl,P3 hb⟩
  ·cases h
 ·cases h
theorem EX {x:Operand} {i:Nat} {v:Value} (h:xF E.n ops L d g x i=some v):SE E ops ⟨some d,.extract x i,ty,ps,af,g⟩ D L C v d:=by
 unfold xF at h
 split at h
 ·rename_i vs hv
  obtain ⟨A,B,F⟩:=jN hv
  exact ⟨zw (vs:=vs.toList) A (by simpa using F) h,U,B⟩
 ·cases h
theorem LN {x:Operand} {t e:TypeId} {A:OA} {n c:Nat} (h:vF E.n ops L d g x=some (.slice A n c)) (ht:E.P.underlying t=some (.slice e)):
 SE E ops ⟨some d,.call {callee:= .builtin .len,args:= #[x],argTypes:= #[t]},ty,ps,af,g⟩ D L C (.int .i64 n) d:=by
 obtain ⟨B,F,G⟩:=jN h; exact ⟨KB B G ht,rfl,F⟩
theorem BI {op:BinOp} {xt yt:TypeId} {x y:Operand} {u v r:Value} (h:bF E.n ops L d g x y=some (u,v)) (hb:jq E.P op xt x y u v r):SE E ops ⟨some d,.binOp op xt x y yt,ty,ps,af,g⟩ D L C r d:=by
 obtain ⟨A,B,F,G⟩:=tS h; exact ⟨gL A F G hb,rfl,B⟩
theorem MN {x y:Operand} {ts:Array TypeId} {a b:Int} {k:IntKind} (h:bF E.n ops L d g x y=some (.int k a,.int k b)):
 SE E ops ⟨some d,.call {callee:= .builtin .min,args:= #[x,y],argTypes:=ts},ty,ps,af,g⟩ D L C (.int k (min a b)) d:=by
 obtain ⟨A,B,F,G⟩:=tS h; exact ⟨QZ A F G,rfl,B⟩
theorem MX {x y:Operand} {ts:Array TypeId} {a b:Int} {k:IntKind} (h:bF E.n ops L d g x y=some (.int k a,.int k b)):
 SE E ops ⟨some d,.call {callee:= .builtin .max,args:= #[x,y],argTypes:=ts},ty,ps,af,g⟩ D L C (.int k (max a b)) d:=by
 obtain ⟨A,B,F,G⟩:=tS h; exact ⟨Qq A F G,rfl,B⟩
theorem FA (o':Nat) {x:Operand} {b o s f k:Nat} (h:vF E.n ops L d g x=some (.pointer (some ⟨b,o,none⟩))) (hf:tj E.P s f=some k) (ho:o+k=o'):
 SE E ops ⟨some d,.fieldAddr s x f,ty,ps,af,g⟩ D L C (.pointer (some ⟨b,o',none⟩)) d:=by
 obtain ⟨A,B,F⟩:=jN h; exact ⟨PL A F hf ho,rfl,B⟩
theorem nv (k':Nat) {x:Operand} {A:OA} {n sz:Nat} {es:List (List Value)} {k0 s f k:Nat} (h:vF E.n ops L d g x=some (.pointer (mX A k0))) (hR:jC C (rd A n sz es).holds) (hn:0<n*sz)
 (hf:tj E.P s f=some k) (ho:k0+k=k'):SE E ops ⟨some d,.fieldAddr s x f,ty,ps,af,g⟩ D L C (.pointer (mX A k')) d:=by
 obtain ⟨B,F,G⟩:=jN h; exact ⟨ME B G hR hn hf ho,rfl,F⟩
theorem I6 (k':Nat) {x:Operand} {A:OA} {ad:Addr} {k0 s f k:Nat} (h:vF E.n ops L d g x=some (.pointer (mX A k0))) (hA:A=some ad)
 (hf:tj E.P s f=some k) (ho:k0+k=k'):SE E ops ⟨some d,.fieldAddr s x f,ty,ps,af,g⟩ D L C (.pointer (mX A k')) d:=by
 obtain ⟨B,F,G⟩:=jN h; exact ⟨MO B G hA hf ho,rfl,F⟩
theorem IA (k:Nat) {x ix:Operand} {A:OA} {n c sz e t:Nat} {es:List (List Value)} {j:Int} (h:bF E.n ops L d g x ix=some (.slice A n c,.int .i64 j)) (hR:jC C (rd A n sz es).holds)
 (ht:tE E.P t=some (e,sz)) (hz:0<sz) (hj:j=(k:Int)) (hk:k<n):SE E ops ⟨some d,.indexAddr t x ix,ty,ps,af,g⟩ D L C (.pointer (mX A (k*sz))) d:=by
 obtain ⟨B,F,G,H⟩:=tS h; exact ⟨Ud B G H hR ht hz hj hk,rfl,F⟩
theorem XQ (k o':Nat) {x ix:Operand} {b o n c sz e t:Nat} {j:Int} (h:bF E.n ops L d g x ix=some (.slice (some ⟨b,o,none⟩) n c,.int .i64 j))
 (ht:tE E.P t=some (e,sz)) (hj:j=(k:Int)) (hk:k<n) (ho:o+k*sz=o'):SE E ops ⟨some d,.indexAddr t x ix,ty,ps,af,g⟩ D L C (.pointer (some ⟨b,o',none⟩)) d:=by
 obtain ⟨A,B,F,G⟩:=tS h; exact ⟨NY A F G ht hj hk ho,rfl,B⟩
/-- the whole of a block, a part of it, one cell -/
theorem LW (i:Nat) {x:Operand} {b t tt n:Nat} {cs:List Value} (h:vF E.n ops L d g x=some (.pointer (some ⟨b,0,none⟩))) (ht:tK E.P t=some (true,n)) (hC:C[i]? =some (cv b tt cs)) (hn:cs.length=n):
 SE E ops ⟨some d,.load t x,ty,ps,af,g⟩ D L C (.agg cs.toArray) d:=by
 obtain ⟨A,B,F⟩:=jN h; exact ⟨zf A F ht (qK i hC sm) hn,rfl,B⟩
theorem LP (vs:List Value) (i:Nat) {x:Operand} {b o t tt n:Nat} {cs:List Value} (h:vF E.n ops L d g x=some (.pointer (some ⟨b,o,none⟩))) (ht:tK E.P t=some (true,n)) (hC:C[i]? =some (cv b tt cs)) (hv:(cs.drop o).take vs.length=vs) (hn:vs.length=n):
 SE E ops ⟨some d,.load t x,ty,ps,af,g⟩ D L C (.agg vs.toArray) d:=by
 obtain ⟨A,B,F⟩:=jN h; exact ⟨zf A F ht (qK i hC hv) hn,rfl,B⟩
theorem XP (vs:List Value) (i:Nat) {x:Operand} {b o t tt n:Nat} {cs:List Value} (h:vF E.n ops L d g x=some (.pointer (some ⟨b,o,none⟩))) (ht:tK E.P t=some (true,n)) (hC:C[i]? =some (cv b tt cs).ro) (hv:(cs.drop o).take vs.length=vs) (hn:vs.length=n):
 SE E ops ⟨some d,.load t x,ty,ps,af,g⟩ D L C (.agg vs.toArray) d:=by
 obtain ⟨A,B,F⟩:=jN h; exact ⟨zf A F ht (xM i hC hv) hn,rfl,B⟩
theorem L1 (v:Value) (i:Nat) {x:Operand} {b o t tt n:Nat} {cs:List Value} (h:vF E.n ops L d g x=some (.pointer (some ⟨b,o,none⟩))) (ht:tK E.P t=some (false,n)) (hC:C[i]? =some (cv b tt cs)) (hv:(cs.drop o).take 1=[v]):
 SE E ops ⟨some d,.load t x,ty,ps,af,g⟩ D L C v d:=by
 obtain ⟨A,B,F⟩:=jN h; exact ⟨wg A F ht (qK i hC hv),rfl,B⟩
theorem Kd (v:Value) (i:Nat) {x:Operand} {b o t tt n:Nat} {cs:List Value} (h:vF E.n ops L d g x=some (.pointer (some ⟨b,o,none⟩))) (ht:tK E.P t=some (false,n)) (hC:C[i]? =some (cv b tt cs).ro) (hv:(cs.drop o).take 1=[v]):
 SE E ops ⟨some d,.load t x,ty,ps,af,g⟩ D L C v d:=by
 obtain ⟨A,B,F⟩:=jN h; exact ⟨wg A F ht (xM i hC hv),rfl,B⟩
theorem Fu (i:Nat) {x:Operand} {b t tt n:Nat} {v:Value} (h:vF E.n ops L d g x=some (.pointer (some ⟨b,0,none⟩))) (ht:tK E.P t=some (false,n)) (hC:C[i]? =some (cv b tt [v])):
 SE E ops ⟨some d,.load t x,ty,ps,af,g⟩ D L C v d:=by
 obtain ⟨A,B,F⟩:=jN h; exact ⟨wg A F ht (qK i hC rfl),rfl,B⟩
theorem Xx (i:Nat) {x:Operand} {b t tt n:Nat} {v:Value} (h:vF E.n ops L d g x=some (.pointer (some ⟨b,0,none⟩))) (ht:tK E.P t=some (false,n)) (hC:C[i]? =some (cv b tt [v]).ro):
 SE E ops ⟨some d,.load t x,ty,ps,af,g⟩ D L C v d:=by
 obtain ⟨A,B,F⟩:=jN h; exact ⟨wg A F ht (xM i hC rfl),rfl,B⟩
/-- what is read of a row -/
theorem hP (k o:Nat) (v:Value) {x:Operand} {A:OA} {t m n sz:Nat} {es:List (List Value)} {e:List Value} (h:vF E.n ops L d g x=some (.pointer (mX A m))) {nn:Nat} (ht:tK E.P t=some (false,nn)) (hR:jC C (rd A n sz es).holds) (he:es[k]? =some e) (hm:m=k*sz+o) (hz:0<sz) (hv:(e.drop o).take 1=[v]):
 SE E ops ⟨some d,.load t x,ty,ps,af,g⟩ D L C v d:=by
 obtain ⟨B,F,G⟩:=jN h; exact ⟨wg B G ht (PM hR he hm hz hv),rfl,F⟩
theorem mq (k o:Nat) (vs:List Value) {x:Operand} {A:OA} {t m n sz:Nat} {es:List (List Value)} {e:List Value} (h:vF E.n ops L d g x=some (.pointer (mX A m))) {nn:Nat} (ht:tK E.P t=some (true,nn)) (hR:jC C (rd A n sz es).holds) (he:es[k]? =some e) (hm:m=k*sz+o) (hz:0<sz) (hv:(e.drop o).take vs.length=vs) (hn:vs.length=nn):
 SE E ops ⟨some d,.load t x,ty,ps,af,g⟩ D L C (.agg vs.toArray) d:=by
 obtain ⟨B,F,G⟩:=jN h; exact ⟨zf B G ht (PM hR he hm hz hv) hn,rfl,F⟩
theorem CL {fop:Operand} {xs:Array Operand} {ts:Array TypeId} {f:FuncId} {args:List Value} {Cp:List aB} {v:Value} (c:dN E.P f args Cp v) (hC:lq C Cp) (h:cF E.n ops L d g fop xs.toList=some (f,args)):
 SE E ops ⟨some d,.call {callee:= .value fop,args:=xs,argTypes:=ts},ty,ps,af,g⟩ D L C v d:=by
 unfold cF at h
 split at h
 ·rename_i hb
  split at h
  ·rename_i hf hx; cases h; exact ⟨FT (PX hb) hf hx rfl c hC,rfl,P3 hb⟩
  ·cases h
 ·cases h
theorem FU {fn:Fn} {xs ys:Array Operand} {us vs:List Value} (h:uF E.n ops L d g xs.toList ys.toList=some (us,vs)):SE E ops ⟨some d,.makeFunc fn xs ys,ty,ps,af,g⟩ D L C (.func fn us.toArray vs.toArray) d:=by
 obtain ⟨A,B,F,G⟩:=RZ h; exact ⟨NH A F G,rfl,B⟩
theorem cX {fop:Operand} {xs:Array Operand} {ts:Array TypeId} {f:FuncId} {args:List Value} {Cp:List aB} {α:Type} {V:α→Value} {p:α→Prop} {N:α→List aB} (c:qB E.P f args Cp V p N) (hC:lq C Cp)
 (h:cF E.n ops L d g fop xs.toList=some (f,args)) (k: ∀ x,p x→RJ E ops Q rest D ((d,V x)::L) (N x++C)):
 RJ E ops Q (⟨some d,.call {callee:= .value fop,args:=xs,argTypes:=ts},ty,ps,af,g⟩::rest) D L C:=by
 unfold cF at h
 split at h
 ·rename_i hb
  split at h
  ·rename_i hf hx; cases h; exact Sk (PX hb) hf hx rfl c hC (P3 hb) k
  ·cases h
 ·cases h
/-- a box of a struct, of one cell -/
theorem eT {t:TypeId} {x:Operand} {cs:List Value} (h:vF E.n ops L d g x=some (.agg cs.toArray)) (k: ∀ b,RJ E ops Q rest D ((d,.pointer (some ⟨b,0,none⟩))::L) (cv b t cs::C)):
 RJ E ops Q (⟨some d,.box t x,ty,ps,af,g⟩::rest) D L C:=by
 obtain ⟨A,B,F⟩:=jN h; exact PJ A F rfl B k
theorem xV {t:TypeId} {x:Operand} {v:Value} (h:vF E.n ops L d g x=some v) (hv:v.cells.toList=[v]) (k: ∀ b,RJ E ops Q rest D ((d,.pointer (some ⟨b,0,none⟩))::L) (cv b t [v]::C)):
 RJ E ops Q (⟨some d,.box t x,ty,ps,af,g⟩::rest) D L C:=by
 obtain ⟨A,B,F⟩:=jN h; exact PJ A F hv B k
theorem AL {t:TypeId} {cs:List Value} (h:gB E.n ops L d g=true) (hz:tZ E.P t=some cs) (k: ∀ b,RJ E ops Q rest D ((d,.pointer (some ⟨b,0,none⟩))::L) (cv b t cs::C)):
 RJ E ops Q (⟨some d,.alloc t,ty,ps,af,g⟩::rest) D L C:=N4 (PX h) hz (P3 h) k
/-- a store into the block at the place i of the state -/
def sF (ops:Array Oper) (L:dC) (g:Option (Nat×Bool)) (x y:Operand):Option (Value×Value):=match kx ops L g with
 |true=>match ev L x,ev L y with
  |some u,some v=>some (u,v)
  |_,_=>none
 |false=>none
theorem EO {ops:Array Oper} {L:dC} {g:Option (Nat×Bool)} {x y:Operand} {u v:Value} (h:sF ops L g x y=some (u,v)):kx ops L g=true∧ev L x=some u∧ev L y=some v:=by
 unfold sF at h
 split at h
 ·rename_i hb
  split at h
  ·rename_i hx hy; cases h; exact ⟨hb,hx,hy⟩
  ·cases h
 ·cases h
theorem Nd {t n b o tt:Nat} {x y:Operand} {v:Value} {cs cs':List Value} {C':List aB} (i:Nat) (h:sF ops L g x y=some (.pointer (some ⟨b,o,none⟩),v)) (ht:(tK E.P t).map (·.2)=some n) (hC:C[i]? =some (cv b tt cs))
 (hk:(v.cells.toList.length==n&&v.cells.toList.all Value.oneCell'&&Nat.ble (o+n) cs.length)=true) (hcs:cs.take o++v.cells.toList++cs.drop (o+n)=cs') (hC':C.set i (cv b tt cs')=C') (k:RJ E ops Q rest D L C'):
 RJ E ops Q (⟨none,.store t x y,ty,ps,af,g⟩::rest) D L C:=by
 obtain ⟨A,B,F⟩:=EO h
 simp only [cZ,beq_iff_eq] at hk
 exact iT i A B F ht U hk.1.1 hk.1.2 hC hk.2 hcs hC' k
/-- a store of a whole block, by a struct, by one cell -/
theorem PS {t n b tt:Nat} {x y:Operand} {cs cs':List Value} {C':List aB} (i:Nat) (h:sF ops L g x y=some (.pointer (some ⟨b,0,none⟩),.agg cs'.toArray)) (ht:(tK E.P t).map (·.2)=some n) (hC:C[i]? =some (cv b tt cs))
 (hk:(Nat.beq cs'.length n&&cs'.all Value.oneCell'&&Nat.beq n cs.length)=true) (hC':C.set i (cv b tt cs')=C') (k:RJ E ops Q rest D L C'):
 RJ E ops Q (⟨none,.store t x y,ty,ps,af,g⟩::rest) D L C:=by
 obtain ⟨AA,J,K⟩:=EO h
 simp only [cZ] at hk
 obtain ⟨⟨A,B⟩,F⟩:=hk
 have H:=Nat.eq_of_beq_eq_true A
 have G:=Nat.eq_of_beq_eq_true F
 exact iT i AA J K ht U H B hC (by rw [Nat.zero_add,G]; exact Nat.ble_self_eq_true _) (by rw [Nat.zero_add,G,List.take_zero,List.drop_length]; show []++cs'++[]=cs'; simp) hC' k
theorem Vp {t n b tt:Nat} {x y:Operand} {v u:Value} {C':List aB} (i:Nat) (h:sF ops L g x y=some (.pointer (some ⟨b,0,none⟩),v)) (ht:(tK E.P t).map (·.2)=some n) (hC:C[i]? =some (cv b tt [u]))
 (hv:v.cells.toList=[v]) (hk:(Nat.beq n 1&&v.oneCell')=true) (hC':C.set i (cv b tt [v])=C') (k:RJ E ops Q rest D L C'):
 RJ E ops Q (⟨none,.store t x y,ty,ps,af,g⟩::rest) D L C:=by
 obtain ⟨G,H,AA⟩:=EO h
 rw [cZ] at hk
 obtain ⟨A,B⟩:=hk
 have F:=Nat.eq_of_beq_eq_true A
 subst F
 exact iT i G H AA ht hv U (by simp [B]) hC U U hC' k
theorem gl {t n b tt:Nat} {x y:Operand} {cs cs':List Value} (h:sF ops L g x y=some (.pointer (some ⟨b,0,none⟩),.agg cs'.toArray)) (ht:(tK E.P t).map (·.2)=some n) (hk:(Nat.beq cs'.length n&&cs'.all Value.oneCell'&&Nat.beq n cs.length)=true) (k:RJ E ops Q rest D L (cv b tt cs'::C)):RJ E ops Q (⟨none,.store t x y,ty,ps,af,g⟩::rest) D L (cv b tt cs::C):=PS 0 h ht rfl hk rfl k
theorem OR {t n b tt:Nat} {x y:Operand} {v u:Value} (h:sF ops L g x y=some (.pointer (some ⟨b,0,none⟩),v)) (ht:(tK E.P t).map (·.2)=some n) (hv:v.cells.toList=[v]) (hk:(Nat.beq n 1&&v.oneCell')=true) (k:RJ E ops Q rest D L (cv b tt [v]::C)):RJ E ops Q (⟨none,.store t x y,ty,ps,af,g⟩::rest) D L (cv b tt [u]::C):=Vp 0 h ht rfl hv hk rfl k
theorem rV {t n b tt:Nat} {x y:Operand} {cs cs':List Value} {A0:aB} (h:sF ops L g x y=some (.pointer (some ⟨b,0,none⟩),.agg cs'.toArray)) (ht:(tK E.P t).map (·.2)=some n) (hk:(Nat.beq cs'.length n&&cs'.all Value.oneCell'&&Nat.beq n cs.length)=true) (k:RJ E ops Q rest D L (A0::cv b tt cs'::C)):RJ E ops Q (⟨none,.store t x y,ty,ps,af,g⟩::rest) D L (A0::cv b tt cs::C):=PS 1 h ht rfl hk rfl k
theorem XI (cs':List Value) {t n b o tt:Nat} {x y:Operand} {v:Value} {cs:List Value} {A0:aB} (h:sF ops L g x y=some (.pointer (some ⟨b,o,none⟩),v)) (ht:(tK E.P t).map (·.2)=some n) (hk:(v.cells.toList.length==n&&v.cells.toList.all Value.oneCell'&&Nat.ble (o+n) cs.length)=true) (hcs:cs.take o++v.cells.toList++cs.drop (o+n)=cs') (k:RJ E ops Q rest D L (A0::cv b tt cs'::C)):RJ E ops Q (⟨none,.store t x y,ty,ps,af,g⟩::rest) D L (A0::cv b tt cs::C):=Nd 1 h ht rfl hk hcs rfl k
theorem G6 {t n b tt:Nat} {x y:Operand} {cs cs':List Value} {A0 A1:aB} (h:sF ops L g x y=some (.pointer (some ⟨b,0,none⟩),.agg cs'.toArray)) (ht:(tK E.P t).map (·.2)=some n) (hk:(Nat.beq cs'.length n&&cs'.all Value.oneCell'&&Nat.beq n cs.length)=true) (k:RJ E ops Q rest D L (A0::A1::cv b tt cs'::C)):RJ E ops Q (⟨none,.store t x y,ty,ps,af,g⟩::rest) D L (A0::A1::cv b tt cs::C):=PS 2 h ht rfl hk rfl k
theorem W3 (cs':List Value) {t n b o tt:Nat} {x y:Operand} {v:Value} {cs:List Value} {A0 A1:aB} (h:sF ops L g x y=some (.pointer (some ⟨b,o,none⟩),v)) (ht:(tK E.P t).map (·.2)=some n) (hk:(v.cells.toList.length==n&&v.cells.toList.all Value.oneCell'&&Nat.ble (o+n) cs.length)=true) (hcs:cs.take o++v.cells.toList++cs.drop (o+n)=cs') (k:RJ E ops Q rest D L (A0::A1::cv b tt cs'::C)):RJ E ops Q (⟨none,.store t x y,ty,ps,af,g⟩::rest) D L (A0::A1::cv b tt cs::C):=Nd 2 h ht rfl hk hcs rfl k
theorem Vo {t n b tt:Nat} {x y:Operand} {cs cs':List Value} {A0 A1 A2:aB} (h:sF ops L g x y=some (.pointer (some ⟨b,0,none⟩),.agg cs'.toArray)) (ht:(tK E.P t).map (·.2)=some n) (hk:(Nat.beq cs'.length n&&cs'.all Value.oneCell'&&Nat.beq n cs.length)=true) (k:RJ E ops Q rest D L (A0::A1::A2::cv b tt cs'::C)):RJ E ops Q (⟨none,.store t x y,ty,ps,af,g⟩::rest) D L (A0::A1::A2::cv b tt cs::C):=PS 3 h ht rfl hk rfl k
theorem XW {t n b tt:Nat} {x y:Operand} {v u:Value} {A0 A1 A2:aB} (h:sF ops L g x y=some (.pointer (some ⟨b,0,none⟩),v)) (ht:(tK E.P t).map (·.2)=some n) (hv:v.cells.toList=[v]) (hk:(Nat.beq n 1&&v.oneCell')=true) (k:RJ E ops Q rest D L (A0::A1::A2::cv b tt [v]::C)):RJ E ops Q (⟨none,.store t x y,ty,ps,af,g⟩::rest) D L (A0::A1::A2::cv b tt [u]::C):=Vp 3 h ht rfl hv hk rfl k
theorem Rk (cs':List Value) {t n b o tt:Nat} {x y:Operand} {v:Value} {cs:List Value} {A0 A1 A2:aB} (h:sF ops L g x y=some (.pointer (some ⟨b,o,none⟩),v)) (ht:(tK E.P t).map (·.2)=some n) (hk:(v.cells.toList.length==n&&v.cells.toList.all Value.oneCell'&&Nat.ble (o+n) cs.length)=true) (hcs:cs.take o++v.cells.toList++cs.drop (o+n)=cs') (k:RJ E ops Q rest D L (A0::A1::A2::cv b tt cs'::C)):RJ E ops Q (⟨none,.store t x y,ty,ps,af,g⟩::rest) D L (A0::A1::A2::cv b tt cs::C):=Nd 3 h ht rfl hk hcs rfl k
theorem Tf {t n b tt:Nat} {x y:Operand} {cs cs':List Value} {A0 A1 A2 A3:aB} (h:sF ops L g x y=some (.pointer (some ⟨b,0,none⟩),.agg cs'.toArray)) (ht:(tK E.P t).map (·.2)=some n) (hk:(Nat.beq cs'.length n&&cs'.all Value.oneCell'&&Nat.beq n cs.length)=true) (k:RJ E ops Q rest D L (A0::A1::A2::A3::cv b tt cs'::C)):RJ E ops Q (⟨none,.store t x y,ty,ps,af,g⟩::rest) D L (A0::A1::A2::A3::cv b tt cs::C):=PS 4 h ht rfl hk rfl k
theorem XU {t n b tt:Nat} {x y:Operand} {v u:Value} {A0 A1 A2 A3:aB} (h:sF ops L g x y=some (.pointer (some ⟨b,0,none⟩),v)) (ht:(tK E.P t).map (·.2)=some n) (hv:v.cells.toList=[v]) (hk:(Nat.beq n 1&&v.oneCell')=true) (k:RJ E ops Q rest D L (A0::A1::A2::A3::cv b tt [v]::C)):RJ E ops Q (⟨none,.store t x y,ty,ps,af,g⟩::rest) D L (A0::A1::A2::A3::cv b tt [u]::C):=Vp 4 h ht rfl hv hk rfl k
theorem MA {t n b tt:Nat} {x y:Operand} {cs cs':List Value} {A0 A1 A2 A3 A4:aB} (h:sF ops L g x y=some (.pointer (some ⟨b,0,none⟩),.agg cs'.toArray)) (ht:(tK E.P t).map (·.2)=some n) (hk:(Nat.beq cs'.length n&&cs'.all Value.oneCell'&&Nat.beq n cs.length)=true) (k:RJ E ops Q rest D L (A0::A1::A2::A3::A4::cv b tt cs'::C)):RJ E ops Q (⟨none,.store t x y,ty,ps,af,g⟩::rest) D L (A0::A1::A2::A3::A4::cv b tt cs::C):=PS 5 h ht rfl hk rfl k
theorem XZ (cs':List Value) {t n b o tt:Nat} {x y:Operand} {v:Value} {cs:List Value} {A0 A1 A2 A3 A4:aB} (h:sF ops L g x y=some (.pointer (some ⟨b,o,none⟩),v)) (ht:(tK E.P t).map (·.2)=some n) (hk:(v.cells.toList.length==n&&v.cells.toList.all Value.oneCell'&&Nat.ble (o+n) cs.length)=true) (hcs:cs.take o++v.cells.toList++cs.drop (o+n)=cs') (k:RJ E ops Q rest D L (A0::A1::A2::A3::A4::cv b tt cs'::C)):RJ E ops Q (⟨none,.store t x y,ty,ps,af,g⟩::rest) D L (A0::A1::A2::A3::A4::cv b tt cs::C):=Nd 5 h ht rfl hk hcs rfl k
theorem UI {t n b tt:Nat} {x y:Operand} {cs cs':List Value} {A0 A1 A2 A3 A4 A5:aB} (h:sF ops L g x y=some (.pointer (some ⟨b,0,none⟩),.agg cs'.toArray)) (ht:(tK E.P t).map (·.2)=some n) (hk:(Nat.beq cs'.length n&&cs'.all Value.oneCell'&&Nat.beq n cs.length)=true) (k:RJ E ops Q rest D L (A0::A1::A2::A3::A4::A5::cv b tt cs'::C)):RJ E ops Q (⟨none,.store t x y,ty,ps,af,g⟩::rest) D L (A0::A1::A2::A3::A4::A5::cv b tt cs::C):=PS 6 h ht rfl hk rfl k
theorem XR {t n b tt:Nat} {x y:Operand} {v u:Value} {A0 A1 A2 A3 A4 A5:aB} (h:sF ops L g x y=some (.pointer (some ⟨b,0,none⟩),v)) (ht:(tK E.P t).map (·.2)=some n) (hv:v.cells.toList=[v]) (hk:(Nat.beq n 1&&v.oneCell')=true) (k:RJ E ops Q rest D L (A0::A1::A2::A3::A4::A5::cv b tt [v]::C)):RJ E ops Q (⟨none,.store t x y,ty,ps,af,g⟩::rest) D L (A0::A1::A2::A3::A4::A5::cv b tt [u]::C):=Vp 6 h ht rfl hv hk rfl k
theorem XO (cs':List Value) {t n b o tt:Nat} {x y:Operand} {v:Value} {cs:List Value} {A0 A1 A2 A3 A4 A5:aB} (h:sF ops L g x y=some (.pointer (some ⟨b,o,none⟩),v)) (ht:(tK E.P t).map (·.2)=some n) (hk:(v.cells.toList.length==n&&v.cells.toList.all Value.oneCell'&&Nat.ble (o+n) cs.length)=true) (hcs:cs.take o++v.cells.toList++cs.drop (o+n)=cs') (k:RJ E ops Q rest D L (A0::A1::A2::A3::A4::A5::cv b tt cs'::C)):RJ E ops Q (⟨none,.store t x y,ty,ps,af,g⟩::rest) D L (A0::A1::A2::A3::A4::A5::cv b tt cs::C):=Nd 6 h ht rfl hk hcs rfl k
theorem XJ (cs':List Value) {t n b o tt:Nat} {x y:Operand} {v:Value} {cs:List Value} {A0 A1 A2 A3 A4 A5 A6:aB} (h:sF ops L g x y=some (.pointer (some ⟨b,o,none⟩),v)) (ht:(tK E.P t).map (·.2)=some n) (hk:(v.cells.toList.length==n&&v.cells.toList.all Value.oneCell'&&Nat.ble (o+n) cs.length)=true) (hcs:cs.take o++v.cells.toList++cs.drop (o+n)=cs') (k:RJ E ops Q rest D L (A0::A1::A2::A3::A4::A5::A6::cv b tt cs'::C)):RJ E ops Q (⟨none,.store t x y,ty,ps,af,g⟩::rest) D L (A0::A1::A2::A3::A4::A5::A6::cv b tt cs::C):=Nd 7 h ht rfl hk hcs rfl k
theorem X0 (cs':List Value) {t n b o tt:Nat} {x y:Operand} {v:Value} {cs:List Value} {A0 A1 A2 A3 A4 A5 A6 A7:aB} (h:sF ops L g x y=some (.pointer (some ⟨b,o,none⟩),v)) (ht:(tK E.P t).map (·.2)=some n) (hk:(v.cells.toList.length==n&&v.cells.toList.all Value.oneCell'&&Nat.ble (o+n) cs.length)=true) (hcs:cs.take o++v.cells.toList++cs.drop (o+n)=cs') (k:RJ E ops Q rest D L (A0::A1::A2::A3::A4::A5::A6::A7::cv b tt cs'::C)):RJ E ops Q (⟨none,.store t x y,ty,ps,af,g⟩::rest) D L (A0::A1::A2::A3::A4::A5::A6::A7::cv b tt cs::C):=Nd 8 h ht rfl hk hcs rfl k
theorem XX (cs':List Value) {t n b o tt:Nat} {x y:Operand} {v:Value} {cs:List Value} {A0 A1 A2 A3 A4 A5 A6 A7 A8:aB} (h:sF ops L g x y=some (.pointer (some ⟨b,o,none⟩),v)) (ht:(tK E.P t).map (·.2)=some n) (hk:(v.cells.toList.length==n&&v.cells.toList.all Value.oneCell'&&Nat.ble (o+n) cs.length)=true) (hcs:cs.take o++v.cells.toList++cs.drop (o+n)=cs') (k:RJ E ops Q rest D L (A0::A1::A2::A3::A4::A5::A6::A7::A8::cv b tt cs'::C)):RJ E ops Q (⟨none,.store t x y,ty,ps,af,g⟩::rest) D L (A0::A1::A2::A3::A4::A5::A6::A7::A8::cv b tt cs::C):=Nd 9 h ht rfl hk hcs rfl k
theorem Xe {t n b tt:Nat} {x y:Operand} {cs cs':List Value} {A0 A1 A2 A3 A4 A5 A6 A7 A8 A9:aB} (h:sF ops L g x y=some (.pointer (some ⟨b,0,none⟩),.agg cs'.toArray)) (ht:(tK E.P t).map (·.2)=some n) (hk:(Nat.beq cs'.length n&&cs'.all Value.oneCell'&&Nat.beq n cs.length)=true) (k:RJ E ops Q rest D L (A0::A1::A2::A3::A4::A5::A6::A7::A8::A9::cv b tt cs'::C)):RJ E ops Q (⟨none,.store t x y,ty,ps,af,g⟩::rest) D L (A0::A1::A2::A3::A4::A5::A6::A7::A8::A9::cv b tt cs::C):=PS 10 h ht rfl hk rfl k
theorem UP (cs':List Value) {t n b o tt:Nat} {x y:Operand} {v:Value} {cs:List Value} {A0 A1 A2 A3 A4 A5 A6 A7 A8 A9:aB} (h:sF ops L g x y=some (.pointer (some ⟨b,o,none⟩),v)) (ht:(tK E.P t).map (·.2)=some n) (hk:(v.cells.toList.length==n&&v.cells.toList.all Value.oneCell'&&Nat.ble (o+n) cs.length)=true) (hcs:cs.take o++v.cells.toList++cs.drop (o+n)=cs') (k:RJ E ops Q rest D L (A0::A1::A2::A3::A4::A5::A6::A7::A8::A9::cv b tt cs'::C)):RJ E ops Q (⟨none,.store t x y,ty,ps,af,g⟩::rest) D L (A0::A1::A2::A3::A4::A5::A6::A7::A8::A9::cv b tt cs::C):=Nd 10 h ht rfl hk hcs rfl k
theorem Uo (cs':List Value) {t n b o tt:Nat} {x y:Operand} {v:Value} {cs:List Value} {A0 A1 A2 A3 A4 A5 A6 A7 A8 A9 A10:aB} (h:sF ops L g x y=some (.pointer (some ⟨b,o,none⟩),v)) (ht:(tK E.P t).map (·.2)=some n) (hk:(v.cells.toList.length==n&&v.cells.toList.all Value.oneCell'&&Nat.ble (o+n) cs.length)=true) (hcs:cs.take o++v.cells.toList++cs.drop (o+n)=cs') (k:RJ E ops Q rest D L (A0::A1::A2::A3::A4::A5::A6::A7::A8::A9::A10::cv b tt cs'::C)):RJ E ops Q (⟨none,.store t x y,ty,ps,af,g⟩::rest) D L (A0::A1::A2::A3::A4::A5::A6::A7::A8::A9::A10::cv b tt cs::C):=Nd 11 h ht rfl hk hcs rfl k
end
section
variable {E:fG} {y:Code} {Q:dk} {D:List Deferred} {L:List (Nat×Value)} {C:List aB}
theorem WS {id:Nat} {ops:Array Oper} (h: ∀ K:Act→World→Prop,(∀ D L C,WJ E y Q D L C→KJ E K D L C)→RJ E ops (Exit.then K Q) ops.toList D L C):WJ E (.seq (.region id ops false) y) Q D L C:=aq fun K hK=>ay (h K hK)
theorem RK {ops:Array Oper} {K:Act→World→Prop} {Q':dk} (hK: ∀ D L C,WJ E y Q D L C→KJ E K D L C) (k:WJ E y Q D L C):RJ E ops (Exit.then K Q') [] D L C:=aJ (bj (hK _ _ _ k))
theorem KK {K:Act→World→Prop} {Q':dk} (hK: ∀ D L C,WJ E y Q D L C→KJ E K D L C) (k:WJ E y Q D L C):KJ E (Exit.then K Q' .normal) D L C:=bj (hK _ _ _ k)
theorem WK {K:Act→World→Prop} {Q':dk} (hK: ∀ D L C,WJ E y Q D L C→KJ E K D L C) (k:WJ E y Q D L C):WJ E .skip (Exit.then K Q') D L C:=cx (bj (hK _ _ _ k))
end
theorem DT {p:Prop} [Decidable p] (h:decide p=true):p:=of_decide_eq_true h
theorem DF {p:Prop} [Decidable p] (h:decide p=false): ¬ p:=of_decide_eq_false h
theorem XT {p:Prop} [Decidable p] (h:(!decide p)=true): ¬ p:=by simpa using h
theorem XF {p:Prop} [Decidable p] (h:(!decide p)=false):p:=by simpa using h
/-- what a function hands back: one result, two, three, that lie in slots -/
theorem Q1 {E:fG} {fn:Func} {K:Act→World→Prop} {L:dC} {C:List aB} {t:Nat} {u v:Value} (hQ: ∀ D L C,LJ E fn (AE E.w0 v) D L C→KJ E K D L C) (hS:E.S=uq) (hr:fn.results.toList=[.tmp t]) (hl:L.lookup t=some u) (e:u=v):KJ E K [] L C:=
 hQ _ _ _ (kp (vs:=[u]) (by rw [hr]; exact ⟨hl,trivial⟩) fun w hs=>CR e (by rw [hS] at hs; exact hs))
theorem Q2 {E:fG} {fn:Func} {K:Act→World→Prop} {L:dC} {C:List aB} {t s:Nat} {u x v:Value} (hQ: ∀ D L C,LJ E fn (AE E.w0 v) D L C→KJ E K D L C) (hS:E.S=uq) (hr:fn.results.toList=[.tmp t,.tmp s]) (hl:L.lookup t=some u) (hm:L.lookup s=some x) (e:vT [u,x]=v):KJ E K [] L C:=
 hQ _ _ _ (kp (vs:=[u,x]) (by rw [hr]; exact ⟨hl,hm,trivial⟩) fun w hs=>CR e (by rw [hS] at hs; exact hs))
theorem Q3 {E:fG} {fn:Func} {K:Act→World→Prop} {L:dC} {C:List aB} {t s r:Nat} {u x y v:Value} (hQ: ∀ D L C,LJ E fn (AE E.w0 v) D L C→KJ E K D L C) (hS:E.S=uq) (hr:fn.results.toList=[.tmp t,.tmp s,.tmp r]) (hl:L.lookup t=some u) (hm:L.lookup s=some x) (hn:L.lookup r=some y) (e:vT [u,x,y]=v):KJ E K [] L C:=
 hQ _ _ _ (kp (vs:=[u,x,y]) (by rw [hr]; exact ⟨hl,hm,hn,trivial⟩) fun w hs=>CR e (by rw [hS] at hs; exact hs))
theorem N1 {E:fG} {ops:Array Oper} {D:ik} {C' C1:List aB} {F:dC→List aB→Prop} {tb rem:List Nat} {n:Nat} {L:dC} {C:List aB} (i:Nat)
 (h:Dl E ops D C' C1 F tb n (rem.filter (· != i)) i L C) (hm:rem.filter (fun i=>rem.all fun j=> !js (q_ ops) j i)=[i]:=by kernel_rfl):TN E ops D C' C1 F tb (n+1) rem L C:=nH [i] hm (jc h qP)
theorem NO {E:fG} {ops:Array Oper} {D:ik} {C' C1:List aB} {F:dC→List aB→Prop} {tb rem:List Nat} {n i:Nat} {L:dC} {C:List aB} {o:Oper} (ho:ops[i]? =some o) (ht:tb.contains i=false) (rem':List Nat)
 (h: ∀ K:Act→World→Prop,(∀ L' C'',(∀ w,St E.S E.w0 C'' w→St E.S E.w0 C' w)→TN E ops D C' C1 F tb n rem' L' C''→KJ E K D L' C'')→RJ E ops (NQ K) [o] D L C) (hr:rem=rem':=by kernel_rfl):Dl E ops D C' C1 F tb n rem i L C:=Xj ho hr ht h
theorem RD {E:fG} {ops:Array Oper} {K:Act→World→Prop} {D:ik} {L:dC} {C C':List aB} {X:dC→List aB→Prop} (hT: ∀ L' C'',(∀ w,St E.S E.w0 C'' w→St E.S E.w0 C' w)→X L' C''→KJ E K D L' C'')
 (k:Nat) (h2:C.drop k=C') (h:X L C):RJ E ops (NQ K) [] D L C:=aJ (hT _ _ (fun w hs=>h2▸hs.take (List.drop_sublist k C)) h)
theorem bw {L L':dC} (h:L'.map (fun p=>L.lookup p.1)=L'.map (fun p=>some p.2)):dx L L':=by
 induction L' with
 |nil=>exact dx.nil _
 |cons p t ih=>
  simp only [List.map_cons,List.cons.injEq] at h
  exact dx.cons h.1 (ih h.2)
theorem Rs {C:List aB} {A A' B B' D D':aB} (i j k:Nat) (h1:C[i]? =some A') (e1:A'.holds=A.holds) (h2:C[j]? =some B') (e2:B'.holds=B.holds) (h3:C[k]? =some D') (e3:D'.holds=D.holds):lq C [A,B,D]:=gX i h1 e1 (gX j h2 e2 (gX k h3 e3 aN))
theorem bV {E:fG} {c:Operand} {x y:Code} {b:Bool} {Q:dk} {D:List Deferred} {L:List (Nat×Value)} {C:List aB} (hc:ev L c=some (.bool b)) (h2:b=false→WJ E y Q D L C) (h1:b=true→WJ E x Q D L C):WJ E (.cond c x y) Q D L C:=cG hc h1 h2
theorem cu {E:fG} {ops:Array Oper} {Q:dk} {rest:List Oper} {D:List Deferred} {L:List (Nat×Value)} {C:List aB} {t:Nat} {b:Bool} (h:L.lookup t=some (.bool b)) (h2:b=false→RJ E ops Q rest D ((t,.bool false)::L) C) (h1:b=true→RJ E ops Q rest D ((t,.bool true)::L) C):RJ E ops Q rest D L C:=cg h h1 h2
theorem j0 {E:fG} {ops:Array Oper} {Q:dk} {rest:List Oper} {D:List Deferred} {L:List (Nat×Value)} {C:List aB} {t:Nat} {b:Bool} {os:List Oper} (h:L.lookup t=some (.bool b)) (h2:b=false→DJ E ops D C (fun L2=>RJ E ops Q rest D L2 C) os ((t,.bool false)::L)) (h1:b=true→DJ E ops D C (fun L2=>RJ E ops Q rest D L2 C) os ((t,.bool true)::L)):DJ E ops D C (fun L2=>RJ E ops Q rest D L2 C) os L:=iu h h1 h2
theorem cQ {L:List (Nat×Value)}: ∀ (k:Nat) {L2:List (Nat×Value)} (q:dx L (L2.drop k)) (h:(L2.take k).map (fun p=>L.lookup p.1)=(L2.take k).map (fun p=>some p.2):=by rfl),dx L L2
 |0,_,q,_=>q
 |_+1,[],_,_=>dx.nil _
 |k+1,p::L2,q,h=>by
  obtain ⟨A,B⟩:=List.cons.inj (show L.lookup p.1::(L2.take k).map (fun p=>L.lookup p.1)=some p.2::(L2.take k).map (fun p=>some p.2) from h)
  exact dx.cons (t:=p.1) (v:=p.2) A (cQ k q B)
theorem oX {E:fG} {ops:Array Oper} {Q:dk} {rest:List Oper} {D:List Deferred} {L:List (Nat×Value)} {C:List aB} {d:Nat} {ty:TypeId} {ps:String} {af:Array Edge} {g:Option (Nat×Bool)} {op:Op} (k:RJ E ops Q rest D ((d,undef)::L) C) (h:(D3 ops L g&&Nat.blt d E.n)=true:=by rfl):RJ E ops Q (⟨some d,op,ty,ps,af,g⟩::rest) D L C:=rS (OX h) k
theorem dX {E:fG} {ops:Array Oper} {F:List (Nat×Value)→Prop} {rest:List Oper} {D:List Deferred} {L:List (Nat×Value)} {C:List aB} {d:Nat} {ty:TypeId} {ps:String} {af:Array Edge} {g:Option (Nat×Bool)} {op:Op} (k:DJ E ops D C F rest ((d,undef)::L)) (h:(D3 ops L g&&Nat.blt d E.n)=true:=by rfl):DJ E ops D C F (⟨some d,op,ty,ps,af,g⟩::rest) L:=dS (OX h) k
end
section
open Go.RowKit
section
variable {E:fG} {ops:Array Oper} {Q:dk} {rest:List Oper} {D:List Deferred} {L:List (Nat×Value)} {C:List aB}
variable {d:Nat} {ty:TypeId} {ps:String} {af:Array Edge} {g:Option (Nat×Bool)}
theorem Pd {P:Program} {t e sz:Nat} (h:tE P t=some (e,sz)) (w:World):P.underlying t=some (.slice e)∧(sizeOf e).run P w= .ok sz w:=by
 unfold tE at h
 split at h
 ·rename_i e' hu
  split at h
  ·rename_i i hi
   cases h
   exact ⟨hu,by simp [sizeOf,typeInfo,hi]⟩
  ·cases h
 ·cases h
theorem Ga {P:Program} {t e:Nat} (h:P.underlying t=some (.slice e)):P.underlying t=some (.slice (P.elem t)):=by
 rw [h]; simp [Program.elem,h]
theorem Ph {P:Program} {t e:Nat} (h:P.underlying t=some (.slice e)):P.elem t=e:=by simp [Program.elem,h]
/-- s[:k] -/
theorem XY (k:Nat) {x hi:Operand} {t e sz n c:Nat} {A:OA} {j:Int} (h:bF E.n ops L d g x hi=some (.slice A n c,.int .i64 j)) (ht:tE E.P t=some (e,sz)) (hj:j=(k:Int)) (hk:k≤c):
 SE E ops ⟨some d,.slice t x none (some hi) none,ty,ps,af,g⟩ D L C (.slice A k c) d:=by
 obtain ⟨H,AA,J,K⟩:=tS h
 subst hj
 refine ⟨eL H sm fun a w B hs=>?_,U,AA⟩
 obtain ⟨hu,hz⟩:=Pd ht w
 have hr:=run_slice_h (P:=E.P) w t A n c (Ga hu) .i64 (k:Int) I I
 rw [Ph hu,hz] at hr
 have G:(if c=0 then A else A.map (·.add (0*sz)))=A:=by
  split
  ·rfl
  ·cases A with
   |none=>rfl
   |some ad=>simp [Addr.add]
 simp only [Result.andThen,Int.toNat_natCast,sliced,G,Nat.sub_zero] at hr
 have F:=run_sliceAt_slice (P:=E.P) w t (.slice A n c) none (some (.int .i64 (k:Int))) none (Ga hu)
 simp [execOp,B.ev J,B.ev K,F,hr]
/-- an element of a row whose place is known -/
theorem XL (k:Nat) {x ix:Operand} {A:OA} {ad:Addr} {n c sz e t:Nat} {j:Int} (h:bF E.n ops L d g x ix=some (.slice A n c,.int .i64 j)) (hA:A=some ad) (ht:tE E.P t=some (e,sz)) (hj:j=(k:Int)) (hk:k<n):
 SE E ops ⟨some d,.indexAddr t x ix,ty,ps,af,g⟩ D L C (.pointer (mX A (k*sz))) d:=by
 obtain ⟨F,G,H,AA⟩:=tS h
 refine ⟨eL F sm fun a w B hs=>?_,U,G⟩
 subst hA hj
 simp [execOp,B.ev H,B.ev AA,mX,sj ht hk]
end
theorem Oo {w:World} {a:OA} {c e sz:Nat} {es:List (List Value)} (h:(own a c e sz es).holds w):es.length≤c:=by
 rcases h.2.2 with ⟨A,B⟩|⟨g,cap,cur,hv,_,_,C,_⟩
 ·omega
 ·injection hv with _ _ hc; omega
end
section
open Go.RowKit
/-- an array's length, its elements' type and their size -/
def aE (P:Program) (t:TypeId):Option (Nat×TypeId×Nat):=
 match P.underlying t with
 |some (.array n e)=>match P.info? e with
  |some i=>some (n,e,i.size)
  |none=>none
 |_=>none
theorem FO {P:Program} {t n e sz:Nat} (h:aE P t=some (n,e,sz)) (w:World):P.underlying t=some (.array n e)∧(sizeOf e).run P w= .ok sz w:=by
 unfold aE at h
 split at h
 ·rename_i n' e' hu
  split at h
  ·rename_i i hi
   cases h
   exact ⟨hu,by simp [sizeOf,typeInfo,hi]⟩
  ·cases h
 ·cases h
theorem xB {P:Program} {t n e sz:Nat} (h:aE P t=some (n,e,sz)) (a:Addr) (w:World):
 (Instr.sliceAt t (.pointer (some a)) none none none).run P w= .ok (.slice (some a) n n) w:=by
 obtain ⟨hu,hz⟩:=FO h w
 have A:a.add 0=a:=by simp [Addr.add]
 simp [Instr.sliceAt,underlying,hu,Instr.sureAddr,Instr.sliceBounds,hz,A]
theorem xH {P:Program} {t n e sz:Nat} (h:aE P t=some (n,e,sz)) (a:Addr) {k:Nat} (hk:k<n) (w:World):
 (Instr.indexAt t (.pointer (some a)) (.int .i64 (k:Int))).run P w= .ok (.pointer (some (a.add (k*sz)))) w:=by
 obtain ⟨hu,hz⟩:=FO h w
 have A: ¬ n≤k:=by omega
 simp [Instr.indexAt,underlying,hu,Instr.sureAddr,asIntOf,hz,A]
 try exact fun h=>absurd h A
 try omega
section
variable {E:fG} {ops:Array Oper} {Q:dk} {rest:List Oper} {D:List Deferred} {L:List (Nat×Value)} {C:List aB}
variable {dst:Option Nat} {ty:TypeId} {ps:String} {af:Array Edge} {g:Option (Nat×Bool)}
theorem E2 {x:Operand} {a:Addr} {t n e sz:Nat} (hg:kx ops L g=true) (hx:ev L x=some (.pointer (some a))) (ht:aE E.P t=some (n,e,sz)):
 SD E ops ⟨dst,.slice t x none none none,ty,ps,af,g⟩ D L C (.slice (some a) n n):=
 eL hg sm fun b w A hs=>by
  simp [execOp,A.ev hx,xB ht]
theorem EM {x ix:Operand} {a:Addr} {t n e sz k:Nat} {j:Int} (hg:kx ops L g=true) (hx:ev L x=some (.pointer (some a))) (hi:ev L ix=some (.int .i64 j)) (ht:aE E.P t=some (n,e,sz)) (hj:j=(k:Int)) (hk:k<n):
 SD E ops ⟨dst,.indexAddr t x ix,ty,ps,af,g⟩ D L C (.pointer (mX (some a) (k*sz))):=
 eL hg sm fun b w A hs=>by
  subst hj
  simp [execOp,A.ev hx,A.ev hi,mX,xH ht a hk]
end
end
section
open Go.RowKit
/-- a table of facts on the program's types -/
structure D_ where
 tk:List (Nat×Bool×Nat)
 fo:List (Nat×List (Option Nat))
 sl:List Nat
def SC {α:Type}:List (Nat×α)→Nat→Option α
 |[],_=>none
 |(k,v)::l,t=>match Nat.beq k t with
  |true=>some v
  |false=>SC l t
theorem Bh {α:Type}: ∀ {l:List (Nat×α)} {t:Nat} {v:α},SC l t=some v→(t,v)∈l
 |[],t,v,h=>by simp [SC] at h
 |(k,u)::l,t,v,h=>by
  unfold SC at h
  split at h
  ·rename_i hb
   cases h
   rw [Nat.eq_of_beq_eq_true hb]; exact cD
  ·exact dU _ (Bh h)
def M7:List Nat→Nat→Bool
 |[],_=>false
 |k::l,t=>match Nat.beq k t with
  |true=>true
  |false=>M7 l t
theorem Dy: ∀ {l:List Nat} {t:Nat},M7 l t=true→t∈l
 |[],t,h=>by simp [M7] at h
 |k::l,t,h=>by
  unfold M7 at h
  split at h
  ·rename_i hb
   rw [Nat.eq_of_beq_eq_true hb]; exact cD
  ·exact dU _ (Dy h)
def D_.Mn (T:D_) (t:Nat):Option (Bool×Nat):=SC T.tk t
def D_.foF (T:D_) (s f:Nat):Option Nat:=match SC T.fo s with
 |some l=>match l[f]? with
  |some (some k)=>some k
  |_=>none
 |none=>none
structure mg (P:Program) (T:D_):Prop where
 tk: ∀ p∈T.tk,tK P p.1=some p.2
 fo: ∀ p∈T.fo,∀ f k,p.2[f]? =some (some k)→tj P p.1 f=some k
 sl: ∀ t∈T.sl,∃ e,P.underlying t=some (.slice e)
theorem mg.Mn {P:Program} {T:D_} (h:mg P T) {t:Nat} {r:Bool×Nat} (e:T.Mn t=some r):tK P t=some r:=h.tk _ (Bh e)
theorem mg.foF {P:Program} {T:D_} (h:mg P T) {s f k:Nat} (e:T.foF s f=some k):tj P s f=some k:=by
 unfold D_.foF at e
 split at e
 ·rename_i l hl
  split at e
  ·rename_i k' hk
   cases e
   exact h.fo _ (Bh hl) f k hk
  ·cases e
 ·cases e
def Vj (P:Program) (T:D_):Bool:=(T.tk.all fun p=>decide (tK P p.1=some p.2))&&(T.fo.all fun p=>(List.range p.2.length).all fun f=>match p.2[f]? with
 |some (some k)=>decide (tj P p.1 f=some k)
 |_=>true)&&T.sl.all fun t=>match P.underlying t with
 |some (.slice _)=>true
 |_=>false
theorem RW {P:Program} {T:D_} (h:Vj P T=true):mg P T:=by
 unfold Vj at h
 rw [cZ,cZ] at h
 obtain ⟨⟨B,C⟩,D⟩:=h
 refine ⟨fun p hp=>by simpa using de.1 B p hp,fun p hp f k hk=>?_,fun t ht=>?_⟩
 ·have A:=de.1 (de.1 C p hp) f (List.mem_range.2 (aX.1 hk).1)
  rw [hk] at A
  simpa using A
 ·have A:=de.1 D t ht
  split at A
  ·rename_i e he; exact ⟨e,he⟩
  ·cases A
end
section
theorem Fs:tK Tryz.prog 3=some (false,1):=by kernel_rfl
theorem XB:tK Tryz.prog 5=some (false,1):=by kernel_rfl
theorem UG:tK Tryz.prog 24=some (true,1):=by kernel_rfl
theorem Qs:tK Tryz.prog 25=some (false,1):=by kernel_rfl
theorem Wh:tK Tryz.prog 26=some (false,1):=by kernel_rfl
theorem Wz:tK Tryz.prog 28=some (true,7):=by kernel_rfl
theorem VK:tK Tryz.prog 29=some (false,1):=by kernel_rfl
theorem Xo:tK Tryz.prog 30=some (false,1):=by kernel_rfl
theorem V0:tK Tryz.prog 32=some (true,11):=by kernel_rfl
theorem Xp:tK Tryz.prog 33=some (false,1):=by kernel_rfl
theorem Wo:tK Tryz.prog 34=some (false,1):=by kernel_rfl
theorem Wn:tK Tryz.prog 36=some (true,15):=by kernel_rfl
theorem Ws:tK Tryz.prog 42=some (false,1):=by kernel_rfl
theorem Wj:tK Tryz.prog 47=some (true,5):=by kernel_rfl
theorem Wk:tK Tryz.prog 51=some (false,1):=by kernel_rfl
theorem Vz:tK Tryz.prog 53=some (true,2):=by kernel_rfl
theorem W4:tK Tryz.prog 54=some (false,1):=by kernel_rfl
theorem W2:tK Tryz.prog 56=some (true,3):=by kernel_rfl
theorem V3:tK Tryz.prog 58=some (true,7):=by kernel_rfl
theorem T1:tK Tryz.prog 71=some (false,1):=by kernel_rfl
theorem Xh:tK Tryz.prog 73=some (true,2):=by kernel_rfl
theorem WW:tK Tryz.prog 75=some (true,3):=by kernel_rfl
theorem WB:tK Tryz.prog 78=some (true,2):=by kernel_rfl
theorem Vy:tK Tryz.prog 80=some (true,4):=by kernel_rfl
theorem Wb:tK Tryz.prog 93=some (true,15):=by kernel_rfl
theorem S_:tK Tryz.prog 118=some (true,9):=by kernel_rfl
theorem Td:tK Tryz.prog 120=some (true,3):=by kernel_rfl
theorem TU:tK Tryz.prog 132=some (true,2):=by kernel_rfl
theorem U6:tK Tryz.prog 133=some (true,8):=by kernel_rfl
theorem TR:tK Tryz.prog 137=some (true,4):=by kernel_rfl
theorem UT:tK Tryz.prog 148=some (false,1):=by kernel_rfl
theorem TY:tK Tryz.prog 153=some (false,1):=by kernel_rfl
theorem UU:tK Tryz.prog 156=some (false,1):=by kernel_rfl
theorem U0:tK Tryz.prog 158=some (true,2):=by kernel_rfl
theorem Th:tK Tryz.prog 163=some (false,1):=by kernel_rfl
theorem S3:tK Tryz.prog 175=some (true,1):=by kernel_rfl
theorem Ve:tK Tryz.prog 176=some (true,4):=by kernel_rfl
theorem Tz:tK Tryz.prog 196=some (true,1):=by kernel_rfl
theorem UX:tK Tryz.prog 204=some (false,1):=by kernel_rfl
theorem TC:tK Tryz.prog 250=some (false,1):=by kernel_rfl
theorem UY:tK Tryz.prog 252=some (true,3):=by kernel_rfl
theorem zM:(tK Tryz.prog 3).map (·.2)=some 1:=by rw [Fs]; rfl
theorem Ux:(tK Tryz.prog 24).map (·.2)=some 1:=by rw [UG]; rfl
theorem VD:(tK Tryz.prog 25).map (·.2)=some 1:=by rw [Qs]; rfl
theorem WI:(tK Tryz.prog 26).map (·.2)=some 1:=by rw [Wh]; rfl
theorem QX:(tK Tryz.prog 28).map (·.2)=some 7:=by rw [Wz]; rfl
theorem IF:(tK Tryz.prog 29).map (·.2)=some 1:=by rw [VK]; rfl
theorem We:(tK Tryz.prog 30).map (·.2)=some 1:=by rw [Xo]; rfl
theorem SO:(tK Tryz.prog 32).map (·.2)=some 11:=by rw [V0]; rfl
theorem WL:(tK Tryz.prog 33).map (·.2)=some 1:=by rw [Xp]; rfl
theorem VS:(tK Tryz.prog 34).map (·.2)=some 1:=by rw [Wo]; rfl
theorem Rn:(tK Tryz.prog 36).map (·.2)=some 15:=by rw [Wn]; rfl
theorem VB:(tK Tryz.prog 42).map (·.2)=some 1:=by rw [Ws]; rfl
theorem QN:(tK Tryz.prog 47).map (·.2)=some 5:=by rw [Wj]; rfl
theorem Vu:(tK Tryz.prog 51).map (·.2)=some 1:=by rw [Wk]; rfl
theorem c_:(tK Tryz.prog 53).map (·.2)=some 2:=by rw [Vz]; rfl
theorem Wc:(tK Tryz.prog 54).map (·.2)=some 1:=by rw [W4]; rfl
theorem Qj:(tK Tryz.prog 56).map (·.2)=some 3:=by rw [W2]; rfl
theorem Ht:(tK Tryz.prog 58).map (·.2)=some 7:=by rw [V3]; rfl
theorem V6:(tK Tryz.prog 71).map (·.2)=some 1:=by rw [T1]; rfl
theorem TD:(tK Tryz.prog 73).map (·.2)=some 2:=by rw [Xh]; rfl
theorem BG:(tK Tryz.prog 75).map (·.2)=some 3:=by rw [WW]; rfl
theorem v9:(tK Tryz.prog 78).map (·.2)=some 2:=by rw [WB]; rfl
theorem TO:(tK Tryz.prog 80).map (·.2)=some 4:=by rw [Vy]; rfl
theorem HJ:(tK Tryz.prog 93).map (·.2)=some 15:=by rw [Wb]; rfl
theorem L5:(tK Tryz.prog 118).map (·.2)=some 9:=by rw [S_]; rfl
theorem P5:(tK Tryz.prog 120).map (·.2)=some 3:=by rw [Td]; rfl
theorem JG:(tK Tryz.prog 132).map (·.2)=some 2:=by rw [TU]; rfl
theorem Ub:(tK Tryz.prog 133).map (·.2)=some 8:=by rw [U6]; rfl
theorem ny:(tK Tryz.prog 137).map (·.2)=some 4:=by rw [TR]; rfl
theorem zV:(tK Tryz.prog 148).map (·.2)=some 1:=by rw [UT]; rfl
theorem F4:(tK Tryz.prog 153).map (·.2)=some 1:=by rw [TY]; rfl
theorem K7:(tK Tryz.prog 156).map (·.2)=some 1:=by rw [UU]; rfl
theorem tv:(tK Tryz.prog 158).map (·.2)=some 2:=by rw [U0]; rfl
theorem TB:(tK Tryz.prog 163).map (·.2)=some 1:=by rw [Th]; rfl
theorem F_:(tK Tryz.prog 175).map (·.2)=some 1:=by rw [S3]; rfl
theorem Ua:(tK Tryz.prog 176).map (·.2)=some 4:=by rw [Ve]; rfl
theorem JL:(tK Tryz.prog 196).map (·.2)=some 1:=by rw [Tz]; rfl
theorem SG:(tK Tryz.prog 204).map (·.2)=some 1:=by rw [UX]; rfl
theorem Tr:(tK Tryz.prog 250).map (·.2)=some 1:=by rw [TC]; rfl
theorem Vd:(tK Tryz.prog 252).map (·.2)=some 3:=by rw [UY]; rfl
theorem zR:aE Tryz.prog 232=some (3,231,2):=by kernel_rfl
theorem M0:tj Tryz.prog 28 2=some 2:=by kernel_rfl
theorem MG:tj Tryz.prog 73 1=some 1:=by kernel_rfl
theorem V4:tf Tryz.prog 58=true:=by kernel_rfl
theorem uh (l:List aT): ∀ v∈(l.map aT.cells).flatten,v.oneCell'=true:=lu (fun _=>rfl) l
theorem lI (l:List ag): ∀ v∈(l.map ag.cells).flatten,v.oneCell'=true:=lu (fun _=>rfl) l
theorem xG (l:List cz): ∀ v∈(l.map cz.cells).flatten,v.oneCell'=true:=lu (fun _=>rfl) l
theorem uy (l:List aH): ∀ v∈(l.map aH.cells).flatten,v.oneCell'=true:=lu (fun _=>rfl) l
theorem vW (l:List aL): ∀ v∈(l.map aL.cells).flatten,v.oneCell'=true:=lu (fun _=>rfl) l
theorem ue (l:List ar): ∀ v∈(l.map ar.cells).flatten,v.oneCell'=true:=lu (fun _=>rfl) l
theorem xC (l:List bJ): ∀ v∈(l.map bJ.cells).flatten,v.oneCell'=true:=lu (fun _=>rfl) l
theorem Wt:tA Tryz.prog 22=some (118,9,72,(Value.agg [(vI 0),(vI 0),(vI 0),(vI 0),(vI 0),(vI 0),(vI 0),(Value.int .u8 0),(vI 0)].toArray)):=by kernel_rfl
theorem VY:tA Tryz.prog 25=some (73,2,32,(Value.agg [(vI 0),(vS none 0 0)].toArray)):=by kernel_rfl
theorem Wg:tA Tryz.prog 26=some (122,4,32,(Value.agg [(vI 0),(vI 0),(vI 0),(vI 0)].toArray)):=by kernel_rfl
theorem ti:tA Tryz.prog 29=some (3,1,8,(vI 0)):=by kernel_rfl
theorem WM:tA Tryz.prog 30=some (51,1,24,(vS none 0 0)):=by kernel_rfl
theorem VJ:tA Tryz.prog 33=some (80,4,32,(Value.agg [(Value.int .u8 0),(vI 0),(vI 0),(vI 0)].toArray)):=by kernel_rfl
theorem V1:tA Tryz.prog 34=some (47,5,40,(Value.agg [(vI 0),(vI 0),(vI 0),(vI 0),(vI 0)].toArray)):=by kernel_rfl
theorem VX:tA Tryz.prog 42=some (29,1,24,(vS none 0 0)):=by kernel_rfl
theorem Xs:tA Tryz.prog 51=some (58,7,64,(Value.agg [(vB false),(vB false),(vI 0),(vI 0),(vI 0),(vI 0),(vS none 0 0)].toArray)):=by kernel_rfl
theorem WO:tA Tryz.prog 54=some (78,2,16,(Value.agg [(vI 0),(vI 0)].toArray)):=by kernel_rfl
theorem Vt:tA Tryz.prog 71=some (75,3,24,(Value.agg [(vI 0),(vI 0),(vI 0)].toArray)):=by kernel_rfl
theorem PW:tA Tryz.prog 147=some (153,1,8,(Value.map none)):=by kernel_rfl
theorem BU:tA Tryz.prog 148=some (156,1,8,(Value.map none)):=by kernel_rfl
theorem Qb:tA Tryz.prog 163=some (204,1,24,(vS none 0 0)):=by kernel_rfl
theorem Gu:tA Tryz.prog 204=some (53,2,16,(Value.agg [(vI 0),(vI 0)].toArray)):=by kernel_rfl
theorem PV:tA Tryz.prog 238=some (255,3,72,(Value.agg [(vS none 0 0),(vS none 0 0),(vS none 0 0)].toArray)):=by kernel_rfl
theorem U3:tA Tryz.prog 250=some (4,1,1,(vB false)):=by kernel_rfl
theorem UC:tB Tryz.prog 24=some ([(vS none 0 0)],[(0,1)]):=by kernel_rfl
theorem Wp:tB Tryz.prog 28=some ([(vS none 0 0),(vI 0),(vS none 0 0),(vS none 0 0),(vI 0),(vI 0),(vI 0)],[(0,1),(1,1),(2,1),(3,1),(4,1),(5,1),(6,1)]):=by kernel_rfl
theorem VQ:tB Tryz.prog 32=some ([(vS none 0 0),(vI 0),(vS none 0 0),(vS none 0 0),(vI 0),(vI 0),(vI 0),(vS none 0 0),(vS none 0 0),(vI 0),(vS none 0 0)],[(0,7),(7,1),(8,1),(9,1),(10,1)]):=by kernel_rfl
theorem Wq:tB Tryz.prog 36=some ([(vS none 0 0),(vI 0),(vS none 0 0),(vS none 0 0),(vI 0),(vI 0),(vI 0),(vS none 0 0),(vS none 0 0),(vI 0),(vS none 0 0),(vS none 0 0),(vS none 0 0),(vI 0),(vI 0)],[(0,11),(11,1),(12,1),(13,1),(14,1)]):=by kernel_rfl
theorem Rv:tB Tryz.prog 47=some ([(vI 0),(vI 0),(vI 0),(vI 0),(vI 0)],[(0,1),(1,1),(2,1),(3,1),(4,1)]):=by kernel_rfl
theorem hU:tB Tryz.prog 53=some ([(vI 0),(vI 0)],[(0,1),(1,1)]):=by kernel_rfl
theorem WT:tB Tryz.prog 56=some ([(vI 0),(vI 0),(vS none 0 0)],[(0,1),(1,1),(2,1)]):=by kernel_rfl
theorem Tq:tB Tryz.prog 58=some ([(vB false),(vB false),(vI 0),(vI 0),(vI 0),(vI 0),(vS none 0 0)],[(0,1),(1,1),(2,2),(4,3)]):=by kernel_rfl
theorem Xd:tB Tryz.prog 73=some ([(vI 0),(vS none 0 0)],[(0,1),(1,1)]):=by kernel_rfl
theorem SI:tB Tryz.prog 75=some ([(vI 0),(vI 0),(vI 0)],[(0,1),(1,2)]):=by kernel_rfl
theorem Mu:tB Tryz.prog 78=some ([(vI 0),(vI 0)],[(0,1),(1,1)]):=by kernel_rfl
theorem OE:tB Tryz.prog 80=some ([(Value.int .u8 0),(vI 0),(vI 0),(vI 0)],[(0,1),(1,1),(2,1),(3,1)]):=by kernel_rfl
theorem VU:tB Tryz.prog 93=some ([(vS none 0 0),(vI 0),(vS none 0 0),(vS none 0 0),(vI 0),(vI 0),(vI 0),(vS none 0 0),(vS none 0 0),(vI 0),(vS none 0 0),(vS none 0 0),(vS none 0 0),(vI 0),(vI 0)],[(0,15)]):=by kernel_rfl
theorem Ue:tB Tryz.prog 118=some ([(vI 0),(vI 0),(vI 0),(vI 0),(vI 0),(vI 0),(vI 0),(Value.int .u8 0),(vI 0)],[(0,1),(1,2),(3,2),(5,2),(7,1),(8,1)]):=by kernel_rfl
theorem Ls:tB Tryz.prog 120=some ([(vI 0),(vI 0),(vI 0)],[(0,1),(1,2)]):=by kernel_rfl
theorem JE:tB Tryz.prog 122=some ([(vI 0),(vI 0),(vI 0),(vI 0)],[(0,3),(3,1)]):=by kernel_rfl
theorem KL:tB Tryz.prog 132=some ([Value.nilFunc,Value.nilFunc],[(0,1),(1,1)]):=by kernel_rfl
theorem Ta:tB Tryz.prog 133=some ([Value.nilFunc,Value.nilFunc,Value.nilFunc,Value.nilFunc,Value.nilFunc,Value.nilFunc,Value.nilFunc,Value.nilFunc],[(0,2),(2,2),(4,2),(6,2)]):=by kernel_rfl
theorem GF:tB Tryz.prog 137=some ([(vI 0),(vI 0),(vB false),(vB false)],[(0,2),(2,1),(3,1)]):=by kernel_rfl
theorem PO:tB Tryz.prog 150=some ([(vS none 0 0),(vI 0),(vS none 0 0),(vS none 0 0),(vI 0),(vI 0),(vI 0),(vI 0),(vI 0),(vS none 0 0),(vS none 0 0),(vS none 0 0),(vS none 0 0),(vS none 0 0)],[(0,7),(7,3),(10,1),(11,1),(12,1),(13,1)]):=by kernel_rfl
theorem Cn:tB Tryz.prog 158=some ([(vI 0),(vI 0)],[(0,1),(1,1)]):=by kernel_rfl
theorem Gh:tB Tryz.prog 175=some ([Value.nilFunc],[(0,1)]):=by kernel_rfl
theorem UW:tB Tryz.prog 176=some ([Value.nilFunc,Value.nilFunc,Value.nilFunc,Value.nilFunc],[(0,1),(1,1),(2,1),(3,1)]):=by kernel_rfl
theorem UM:tB Tryz.prog 196=some ([(vS none 0 0)],[(0,1)]):=by kernel_rfl
theorem SM:tB Tryz.prog 212=some ([(vS none 0 0),(vI 0),(vS none 0 0),(vS none 0 0),(vI 0),(vI 0),(vI 0),(vS none 0 0),(vS none 0 0),(vI 0),(vS none 0 0),(vS none 0 0),(Value.map none)],[(0,11),(11,1),(12,1)]):=by kernel_rfl
theorem UZ:tB Tryz.prog 255=some ([(vS none 0 0),(vS none 0 0),(vS none 0 0)],[(0,1),(1,1),(2,1)]):=by kernel_rfl
theorem zJ:tE Tryz.prog 22=some (118,9):=by kernel_rfl
theorem x9:tE Tryz.prog 25=some (73,2):=by kernel_rfl
theorem xz:tE Tryz.prog 26=some (122,4):=by kernel_rfl
theorem dJ:tE Tryz.prog 29=some (3,1):=by kernel_rfl
theorem oQ:tE Tryz.prog 30=some (51,1):=by kernel_rfl
theorem vV:tE Tryz.prog 33=some (80,4):=by kernel_rfl
theorem zI:tE Tryz.prog 34=some (47,5):=by kernel_rfl
theorem Oz:tE Tryz.prog 42=some (29,1):=by kernel_rfl
theorem r8:tE Tryz.prog 51=some (58,7):=by kernel_rfl
theorem xI:tE Tryz.prog 54=some (78,2):=by kernel_rfl
theorem vM:tE Tryz.prog 71=some (75,3):=by kernel_rfl
theorem PG:tE Tryz.prog 145=some (111,1):=by kernel_rfl
theorem yT:tE Tryz.prog 147=some (153,1):=by kernel_rfl
theorem o5:tE Tryz.prog 148=some (156,1):=by kernel_rfl
theorem MT:tE Tryz.prog 163=some (204,1):=by kernel_rfl
theorem lU:tE Tryz.prog 204=some (53,2):=by kernel_rfl
theorem Mz:tE Tryz.prog 216=some (120,3):=by kernel_rfl
theorem Ja:tE Tryz.prog 229=some (231,2):=by kernel_rfl
theorem Gk:tE Tryz.prog 238=some (255,3):=by kernel_rfl
theorem PN:tE Tryz.prog 250=some (4,1):=by kernel_rfl
theorem KM:(match Tryz.prog.underlying 53 with |some (.struct fs)=>(fs[0]?).map (fun fl=>tK Tryz.prog fl.type)|_=>none)=some (some (false,1)):=by kernel_rfl
theorem My:(match Tryz.prog.underlying 53 with |some (.struct fs)=>(fs[1]?).map (fun fl=>tK Tryz.prog fl.type)|_=>none)=some (some (false,1)):=by kernel_rfl
theorem XC:tV Tryz.prog 3=some (vI 0):=by kernel_rfl
theorem XA:tV Tryz.prog 4=some (vB false):=by kernel_rfl
theorem WH:tV Tryz.prog 53=some (Value.agg [(vI 0),(vI 0)].toArray):=by kernel_rfl
theorem ML:tX Tryz.prog 133=some (4,132):=by kernel_rfl
theorem GA:tX Tryz.prog 176=some (4,175):=by kernel_rfl
theorem kY:tZ Tryz.prog 3=some [(vI 0)]:=by kernel_rfl
theorem XV:tZ Tryz.prog 4=some [(vB false)]:=by kernel_rfl
theorem Vr:tZ Tryz.prog 24=some [(vS none 0 0)]:=by kernel_rfl
theorem Uj:tZ Tryz.prog 28=some [(vS none 0 0),(vI 0),(vS none 0 0),(vS none 0 0),(vI 0),(vI 0),(vI 0)]:=by kernel_rfl
theorem Tp:tZ Tryz.prog 29=some [(vS none 0 0)]:=by kernel_rfl
theorem VA:tZ Tryz.prog 32=some [(vS none 0 0),(vI 0),(vS none 0 0),(vS none 0 0),(vI 0),(vI 0),(vI 0),(vS none 0 0),(vS none 0 0),(vI 0),(vS none 0 0)]:=by kernel_rfl
theorem Sj:tZ Tryz.prog 36=some [(vS none 0 0),(vI 0),(vS none 0 0),(vS none 0 0),(vI 0),(vI 0),(vI 0),(vS none 0 0),(vS none 0 0),(vI 0),(vS none 0 0),(vS none 0 0),(vS none 0 0),(vI 0),(vI 0)]:=by kernel_rfl
theorem O_:tZ Tryz.prog 47=some [(vI 0),(vI 0),(vI 0),(vI 0),(vI 0)]:=by kernel_rfl
theorem Xb:tZ Tryz.prog 51=some [(vS none 0 0)]:=by kernel_rfl
theorem ej:tZ Tryz.prog 53=some [(vI 0),(vI 0)]:=by kernel_rfl
theorem UL:tZ Tryz.prog 56=some [(vI 0),(vI 0),(vS none 0 0)]:=by kernel_rfl
theorem BZ:tZ Tryz.prog 58=some [(vB false),(vB false),(vI 0),(vI 0),(vI 0),(vI 0),(vS none 0 0)]:=by kernel_rfl
theorem RV:tZ Tryz.prog 73=some [(vI 0),(vS none 0 0)]:=by kernel_rfl
theorem zF:tZ Tryz.prog 75=some [(vI 0),(vI 0),(vI 0)]:=by kernel_rfl
theorem IV:tZ Tryz.prog 78=some [(vI 0),(vI 0)]:=by kernel_rfl
theorem QK:tZ Tryz.prog 80=some [(Value.int .u8 0),(vI 0),(vI 0),(vI 0)]:=by kernel_rfl
theorem HM:tZ Tryz.prog 93=some [(vS none 0 0),(vI 0),(vS none 0 0),(vS none 0 0),(vI 0),(vI 0),(vI 0),(vS none 0 0),(vS none 0 0),(vI 0),(vS none 0 0),(vS none 0 0),(vS none 0 0),(vI 0),(vI 0)]:=by kernel_rfl
theorem Us:tZ Tryz.prog 111=some [Value.nilFunc]:=by kernel_rfl
theorem G2:tZ Tryz.prog 118=some [(vI 0),(vI 0),(vI 0),(vI 0),(vI 0),(vI 0),(vI 0),(Value.int .u8 0),(vI 0)]:=by kernel_rfl
theorem F7:tZ Tryz.prog 120=some [(vI 0),(vI 0),(vI 0)]:=by kernel_rfl
theorem Tu:tZ Tryz.prog 122=some [(vI 0),(vI 0),(vI 0),(vI 0)]:=by kernel_rfl
theorem LL:tZ Tryz.prog 132=some [Value.nilFunc,Value.nilFunc]:=by kernel_rfl
theorem Uh:tZ Tryz.prog 133=some [Value.nilFunc,Value.nilFunc,Value.nilFunc,Value.nilFunc,Value.nilFunc,Value.nilFunc,Value.nilFunc,Value.nilFunc]:=by kernel_rfl
theorem pj:tZ Tryz.prog 137=some [(vI 0),(vI 0),(vB false),(vB false)]:=by kernel_rfl
theorem TP:tZ Tryz.prog 153=some [(Value.map none)]:=by kernel_rfl
theorem vv:tZ Tryz.prog 158=some [(vI 0),(vI 0)]:=by kernel_rfl
theorem GK:tZ Tryz.prog 175=some [Value.nilFunc]:=by kernel_rfl
theorem TG:tZ Tryz.prog 176=some [Value.nilFunc,Value.nilFunc,Value.nilFunc,Value.nilFunc]:=by kernel_rfl
theorem Ko:tZ Tryz.prog 196=some [(vS none 0 0)]:=by kernel_rfl
theorem PF:tZ Tryz.prog 204=some [(vS none 0 0)]:=by kernel_rfl
theorem P7:tZ Tryz.prog 252=some [(vS none 0 0),(vS none 0 0),(vS none 0 0)]:=by kernel_rfl
theorem Tc:tZ Tryz.prog 255=some [(vS none 0 0),(vS none 0 0),(vS none 0 0)]:=by kernel_rfl
theorem um:Tryz.prog.underlying 3=some (.int .i64):=by kernel_rfl
theorem Xz:Tryz.prog.underlying 4=some .bool:=by kernel_rfl
theorem Sg:Tryz.prog.underlying 5=some (.int .u8):=by kernel_rfl
theorem XK:Tryz.prog.underlying 9=some .string:=by kernel_rfl
theorem Uw:Tryz.prog.underlying 22=some (.slice 118):=by kernel_rfl
theorem VN:Tryz.prog.underlying 25=some (.slice 73):=by kernel_rfl
theorem Sc:Tryz.prog.underlying 26=some (.slice 122):=by kernel_rfl
theorem Xi:Tryz.prog.underlying 29=some (.slice 3):=by kernel_rfl
theorem VT:Tryz.prog.underlying 30=some (.slice 51):=by kernel_rfl
theorem VM:Tryz.prog.underlying 33=some (.slice 80):=by kernel_rfl
theorem VW:Tryz.prog.underlying 34=some (.slice 47):=by kernel_rfl
theorem LD:Tryz.prog.underlying 45=some (.map 3 4):=by kernel_rfl
theorem VL:Tryz.prog.underlying 51=some (.slice 58):=by kernel_rfl
theorem Xc:Tryz.prog.underlying 54=some (.slice 78):=by kernel_rfl
theorem Uk:Tryz.prog.underlying 65=some (.int .u32):=by kernel_rfl
theorem V2:Tryz.prog.underlying 71=some (.slice 75):=by kernel_rfl
theorem tx:Tryz.prog.underlying 153=some (.map 3 53):=by kernel_rfl
theorem pZ:Tryz.prog.underlying 156=some (.map 158 3):=by kernel_rfl
theorem SY:Tryz.prog.underlying 245=some (.int .u64):=by kernel_rfl
theorem SP:Tryz.prog.underlying 266=some (.int .u64):=by kernel_rfl
theorem Qk:fL Tryz.prog 53=some [(3,0),(3,1)]:=by kernel_rfl
theorem P9 (d:Nat) (s z:ag) (w:World):(Op.equalIn (d+2) 53 (.agg s.cells.toArray) (.agg z.cells.toArray)).run Tryz.prog w= .ok (decide (s=z)) w:=by
 have hc:(decide (s.Lo=z.Lo)&&(decide (s.Hi=z.Hi)&&true))=decide (s=z):=by rw [Bool.eq_iff_iff]; simp [ag.ext_iff]
 rw [← hc]
 exact tP (d+1) Qk w (nt w (hZ Fs U w) (hZ Fs U w) (o2 _ um w) (nt w (hZ Fs U w) (hZ Fs U w) (o2 _ um w) (Br w)))
theorem x5 (x y:Operand) (s z:ag):jq Tryz.prog .eql 53 x y (.agg s.cells.toArray) (.agg z.cells.toArray) (.bool (decide (s=z))):=z4 x y (yw Qk) fun w=>P9 9998 s z w
theorem Uu (x y:Operand) (s z:ag):jq Tryz.prog .neq 53 x y (.agg s.cells.toArray) (.agg z.cells.toArray) (.bool (!decide (s=z))):=I3 x y (yw Qk) fun w=>P9 9998 s z w
theorem P8:fL Tryz.prog 158=some [(3,0),(3,1)]:=by kernel_rfl
theorem QG (d:Nat) (s z:aK) (w:World):(Op.equalIn (d+2) 158 (.agg s.cells.toArray) (.agg z.cells.toArray)).run Tryz.prog w= .ok (decide (s=z)) w:=by
 have hc:(decide (s.right=z.right)&&(decide (s.fp=z.fp)&&true))=decide (s=z):=by rw [Bool.eq_iff_iff]; simp [aK.ext_iff]
 rw [← hc]
 exact tP (d+1) P8 w (nt w (hZ Fs U w) (hZ Fs U w) (o2 _ um w) (nt w (hZ Fs U w) (hZ Fs U w) (o2 _ um w) (Br w)))
theorem Uv:fL Tryz.prog 80=some [(5,0),(3,1),(3,2),(3,3)]:=by kernel_rfl
theorem Ut (d:Nat) (s z:aL) (w:World):(Op.equalIn (d+2) 80 (.agg s.cells.toArray) (.agg z.cells.toArray)).run Tryz.prog w= .ok (decide (s=z)) w:=by
 have hc:(decide (s.Kind=z.Kind)&&(decide (s.eW=z.eW)&&(decide (s.gI=z.gI)&&(decide (s.To=z.To)&&true))))=decide (s=z):=by rw [Bool.eq_iff_iff]; simp [aL.ext_iff]
 rw [← hc]
 exact tP (d+1) Uv w (nt w (hZ XB U w) (hZ XB U w) (o2 _ Sg w) (nt w (hZ Fs U w) (hZ Fs U w) (o2 _ um w) (nt w (hZ Fs U w) (hZ Fs U w) (o2 _ um w) (nt w (hZ Fs U w) (hZ Fs U w) (o2 _ um w) (Br w)))))
theorem T_ (x y:Operand) (s z:aL):jq Tryz.prog .eql 80 x y (.agg s.cells.toArray) (.agg z.cells.toArray) (.bool (decide (s=z))):=z4 x y (yw Uv) fun w=>Ut 9998 s z w
theorem cy:Tryz.prog.follows .mixedOrders=true:=by kernel_rfl
def TT:D_:=⟨[(1,false,1),(2,false,1),(3,false,1),(4,false,1),(5,false,1),(6,false,1),(7,true,4),(8,true,4),(12,false,1),(15,false,1),(16,false,1),(17,false,1),(18,true,1),(19,true,1),(21,false,1),(22,false,1),(23,true,1),(24,true,1),(25,false,1),(26,false,1),(27,true,7),(28,true,7),(29,false,1),(30,false,1),(31,true,11),(32,true,11),(33,false,1),(34,false,1),(35,true,15),(36,true,15),(37,false,1),(38,false,1),(39,false,1),(41,false,1),(42,false,1),(44,false,1),(45,false,1),(46,true,5),(47,true,5),(49,false,1),(50,false,1),(51,false,1),(52,true,2),(53,true,2),(54,false,1),(55,true,3),(56,true,3),(57,true,7),(58,true,7),(59,false,1),(61,false,1),(63,false,1),(64,false,1),(65,false,1),(66,false,1),(67,false,1),(68,false,1),(69,false,1),(70,false,1),(71,false,1),(72,true,2),(73,true,2),(74,true,3),(75,true,3),(76,false,1),(77,true,2),(78,true,2),(79,true,4),(80,true,4),(81,false,1),(82,false,1),(83,false,1),(85,false,1),(86,false,1),(87,false,1),(88,false,1),(89,false,1),(90,false,1),(91,false,1),(92,true,15),(93,true,15),(95,false,1),(96,false,1),(97,false,1),(98,false,1),(99,false,1),(100,false,1),(101,false,1),(102,false,1),(103,false,1),(104,false,1),(105,false,1),(106,false,1),(107,false,1),(108,false,1),(110,false,1),(111,false,1),(112,false,1),(113,false,1),(114,false,1),(115,false,1),(116,false,1),(117,true,9),(118,true,9),(119,true,3),(120,true,3),(121,true,4),(122,true,4),(123,false,1),(124,false,1),(125,false,1),(126,false,1),(127,false,1),(128,false,1),(129,false,1),(130,false,1),(131,true,2),(132,true,2),(133,true,8),(134,false,1),(136,true,4),(137,true,4),(138,false,1),(139,false,1),(140,false,1),(141,false,1),(142,false,1),(143,false,1),(144,false,1),(145,false,1),(146,false,1),(147,false,1),(148,false,1),(149,true,14),(150,true,14),(151,false,1),(152,false,1),(153,false,1),(154,false,1),(155,false,1),(156,false,1),(157,true,2),(158,true,2),(159,false,1),(160,false,1),(161,false,1),(162,false,1),(163,false,1),(165,false,1),(166,false,1),(167,false,1),(168,false,1),(169,false,1),(170,false,1),(171,false,1),(172,false,1),(173,false,1),(174,false,1),(175,true,1),(176,true,4),(177,false,1),(178,false,1),(179,false,1),(180,false,1),(181,false,1),(183,false,1),(184,false,1),(186,false,1),(187,false,1),(189,false,1),(190,false,1),(191,false,1),(192,false,1),(193,false,1),(194,false,1),(195,true,1),(196,true,1),(198,false,1),(199,false,1),(201,false,1),(202,false,1),(203,false,1),(204,false,1),(206,false,1),(207,false,1),(208,false,1),(209,false,1),(210,false,1),(211,true,13),(212,true,13),(213,false,1),(214,false,1),(215,false,1),(216,false,1),(217,false,1),(218,false,1),(219,false,1),(220,false,1),(221,false,1),(222,false,1),(223,false,1),(224,false,1),(226,false,1),(227,false,1),(228,false,1),(229,false,1),(230,true,2),(231,true,2),(232,true,6),(233,false,1),(234,false,1),(235,false,1),(236,false,1),(237,false,1),(238,false,1),(240,false,1),(241,false,1),(242,false,1),(243,false,1),(244,false,1),(245,false,1),(246,false,1),(247,false,1),(248,false,1),(249,false,1),(250,false,1),(251,true,3),(252,true,3),(253,false,1),(254,true,3),(255,true,3),(256,false,1),(257,false,1),(259,false,1),(260,false,1),(261,false,1),(262,false,1),(263,false,1),(264,false,1),(265,false,1),(266,false,1),(267,false,1),(268,false,1),(269,false,1),(270,false,1),(271,false,1),(272,false,1),(273,false,1),(274,false,1),(275,false,1),(276,false,1),(277,false,1),(280,true,0),(281,true,0),(282,true,0),(283,false,1),(284,false,1),(285,false,1),(286,false,1),(287,false,1),(288,false,1),(289,false,1),(290,true,11),(291,true,11),(292,false,1),(294,false,1)],[(7,[some 0,some 1,some 2,some 3]),(8,[some 0,some 1,some 2,some 3]),(18,[some 0]),(19,[some 0]),(23,[some 0]),(24,[some 0]),(27,[some 0,some 1,some 2,some 3,some 4,some 5,some 6]),(28,[some 0,some 1,some 2,some 3,some 4,some 5,some 6]),(31,[some 0,some 7,some 8,some 9,some 10]),(32,[some 0,some 7,some 8,some 9,some 10]),(35,[some 0,some 11,some 12,some 13,some 14]),(36,[some 0,some 11,some 12,some 13,some 14]),(46,[some 0,some 1,some 2,some 3,some 4]),(47,[some 0,some 1,some 2,some 3,some 4]),(52,[some 0,some 1]),(53,[some 0,some 1]),(55,[some 0,some 1,some 2]),(56,[some 0,some 1,some 2]),(57,[some 0,some 1,some 2,some 4]),(58,[some 0,some 1,some 2,some 4]),(72,[some 0,some 1]),(73,[some 0,some 1]),(74,[some 0,some 1]),(75,[some 0,some 1]),(77,[some 0,some 1]),(78,[some 0,some 1]),(79,[some 0,some 1,some 2,some 3]),(80,[some 0,some 1,some 2,some 3]),(92,[some 0]),(93,[some 0]),(117,[some 0,some 1,some 3,some 5,some 7,some 8]),(118,[some 0,some 1,some 3,some 5,some 7,some 8]),(119,[some 0,some 1]),(120,[some 0,some 1]),(121,[some 0,some 3]),(122,[some 0,some 3]),(131,[some 0,some 1]),(132,[some 0,some 1]),(136,[some 0,some 2,some 3]),(137,[some 0,some 2,some 3]),(149,[some 0,some 7,some 10,some 11,some 12,some 13]),(150,[some 0,some 7,some 10,some 11,some 12,some 13]),(157,[some 0,some 1]),(158,[some 0,some 1]),(175,[some 0]),(195,[some 0]),(196,[some 0]),(211,[some 0,some 11,some 12]),(212,[some 0,some 11,some 12]),(230,[some 0,some 1]),(231,[some 0,some 1]),(251,[some 0,some 1,some 2]),(252,[some 0,some 1,some 2]),(254,[some 0,some 1,some 2]),(255,[some 0,some 1,some 2]),(290,[some 0,some 1,some 2,some 3,some 4,some 5,some 6,some 7,some 8,some 9,some 10]),(291,[some 0,some 1,some 2,some 3,some 4,some 5,some 6,some 7,some 8,some 9,some 10])],[22,25,26,29,30,33,34,42,51,54,67,71,145,147,148,163,204,216,229,238,250]⟩
theorem qR:mg Tryz.prog TT:=RW kr
theorem cf {t:TypeId} {x:Bool×Nat} (h:TT.Mn t=some x:=by rfl):tK Tryz.prog t=some x:=qR.Mn h
theorem eP {s f k:Nat} (h:TT.foF s f=some k:=by rfl):tj Tryz.prog s f=some k:=qR.foF h
end
section
open Go.RowKit
/-- blocks that are read -/
def MM (C:List aB) (M:List (Nat×List Value)):Prop:= ∀ p∈M,∀ o vs,(p.2.drop o).take vs.length=vs→At C (some ⟨p.1,o,none⟩) vs
theorem mn {C:List aB}:MM C []:=fun p h=>by cases h
theorem mc {C:List aB} {b t:Nat} {cs:List Value} {M:List (Nat×List Value)} (i:Nat) (hC:C[i]? =some (cv b t cs)) (h:MM C M):MM C ((b,cs)::M):=fun p hp o vs hv=>by
 rcases bU.1 hp with rfl|hp
 ·exact qK i hC hv
 ·exact h p hp o vs hv
theorem mr {C:List aB} {b t:Nat} {cs:List Value} {M:List (Nat×List Value)} (i:Nat) (hC:C[i]? =some (cv b t cs).ro) (h:MM C M):MM C ((b,cs)::M):=fun p hp o vs hv=>by
 rcases bU.1 hp with rfl|hp
 ·exact xM i hC hv
 ·exact h p hp o vs hv
def qG:List Prop→Prop
 |[]=>True
 |p::l=>p∧qG l
theorem kR {p:Prop} {l:List Prop} (h:p) (h2:qG l):qG (p::l):=⟨h,h2⟩
/-- the value of an operation, what it asks for, and what is left of the list of places -/
def pv (T:D_) (ops:Array Oper) (M:List (Nat×List Value)) (L:dC) (hs:List Nat) (g:Option (Nat×Bool)) (op:Op):Option (Value×List Prop×List Nat):=
 match D3 ops L g with
 |true=>some (undef,[],hs)
 |false=>match kx ops L g with
  |false=>none
  |true=>match op with
   | .move x=>match ev L x with
    |some v=>some (v,[],hs)
    |none=>none
   | .assign x=>match ev L x with
    |some v=>some (v,[],hs)
    |none=>none
   | .pick c x y=>match ev L c with
    |some (.bool true)=>match ev L x with
     |some v=>some (v,[],hs)
     |none=>none
    |some (.bool false)=>match ev L y with
     |some v=>some (v,[],hs)
     |none=>none
    |_=>none
   | .unOp .not _ x=>match ev L x with
    |some (.bool b)=>some (.bool !b,[],hs)
    |_=>none
   | .extract x i=>match ev L x with
    |some (.tuple vs)=>match vs.toList[i]? with
     |some v=>some (v,[],hs)
     |none=>none
    |_=>none
   | .fieldAddr s x f=>match ev L x with
    |some (.pointer (some ⟨b,o,none⟩))=>match T.foF s f with
     |some k=>some (.pointer (some ⟨b,o+k,none⟩),[],hs)
     |none=>none
    |_=>none
   | .binOp op _ x y _=>match ev L x with
    |some (.int .i64 a)=>match ev L y with
     |some (.int .i64 b)=>match op with
      | .lss=>some (.bool (decide (a<b)),[],hs)
      | .leq=>some (.bool (decide (a≤b)),[],hs)
      | .gtr=>some (.bool (decide (b<a)),[],hs)
      | .geq=>some (.bool (decide (b≤a)),[],hs)
      | .eql=>some (.bool (decide (a=b)),[],hs)
      | .neq=>some (.bool (!decide (a=b)),[],hs)
      | .add=>some (.int .i64 (a+b),[-9223372036854775808≤a+b,a+b≤9223372036854775807],hs)
      | .sub=>some (.int .i64 (a-b),[-9223372036854775808≤a-b,a-b≤9223372036854775807],hs)
      |_=>none
     |_=>none
    |_=>none
   | .load t x=>match ev L x with
    |some (.pointer (some ⟨b,o,none⟩))=>match M[hs.headD 0]? with
     |some (b',cs)=>match T.Mn t with
      |some (false,_)=>match cs[o]? with
       |some v=>some (v,[b'=b],hs.tail)
       |none=>none
      |some (true,n)=>match Nat.beq o 0 with
       |true=>match Nat.beq cs.length n with
        |true=>some (.agg cs.toArray,[b'=b],hs.tail)
        |false=>none
       |false=>none
      |none=>none
     |none=>none
    |_=>none
   | .call c=>match c with
    |{callee:= .builtin .len,args:=xs,argTypes:=ts}=>match xs.toList with
     |[x]=>match ts.toList with
      |[t]=>match ev L x with
       |some (.slice A n c)=>match M7 T.sl t with
        |true=>some (.int .i64 n,[],hs)
        |false=>none
       |_=>none
      |_=>none
     |_=>none
    |_=>none
   |_=>none
section
variable {E:fG} {T:D_} {ops:Array Oper} {M:List (Nat×List Value)} {D:List Deferred} {L:List (Nat×Value)} {C:List aB} {hs hs':List Nat}
theorem wT {cs:List Value} {o:Nat} {v:Value} (h:cs[o]? =some v):(cs.drop o).take [v].length=[v]:=by
 obtain ⟨hl,rfl⟩:=aX.1 h
 rw [List.drop_eq_getElem_cons hl]; rfl
theorem U8 {o:Oper} {v:Value} {S:List Prop} (hT:mg E.P T) (hM:MM C M) (h:pv T ops M L hs o.guard o.op=some (v,S,hs')) (hS:qG S):SD E ops o D L C v:=by
 obtain ⟨dst,op,ty,ps,af,g⟩:=o
 unfold pv at h
 simp only at h
 split at h
 ·rename_i hg
  cases h
  exact KF hg
 ·split at h
  ·cases h
  ·rename_i hg
   split at h
   ·split at h
    ·rename_i hx; cases h; exact GL hg hx
    ·cases h
   ·split at h
    ·rename_i hx; cases h; exact Ai hg hx
    ·cases h
   ·split at h
    ·rename_i hc
     split at h
     ·rename_i hx; cases h; exact Ak hg hc hx
     ·cases h
    ·rename_i hc
     split at h
     ·rename_i hx; cases h; exact As hg hc hx
     ·cases h
    ·cases h
   ·split at h
    ·rename_i hx; cases h; exact LH hg hx
    ·cases h
   ·split at h
    ·rename_i vs hx
     split at h
     ·rename_i v' hv; cases h; exact zw (vs:=vs.toList) hg (by simpa using hx) hv
     ·cases h
    ·cases h
   ·split at h
    ·rename_i hx
     split at h
     ·rename_i hk; cases h; exact PL hg hx (hT.foF hk) rfl
     ·cases h
    ·cases h
   ·split at h
    ·rename_i hx
     split at h
     ·rename_i hy
      split at h
      ·cases h; exact gL hg hx hy qU
      ·cases h; exact gL hg hx hy Un
      ·cases h; exact gL hg hx hy SR
      ·cases h; exact gL hg hx hy GZ
      ·cases h; exact gL hg hx hy nP
      ·cases h; exact gL hg hx hy xo
      ·cases h; exact gL hg hx hy (oZ ⟨hS.1,hS.2.1⟩)
      ·cases h; exact gL hg hx hy (x_ ⟨hS.1,hS.2.1⟩)
      ·cases h
     ·cases h
    ·cases h
   ·split at h
    ·rename_i hx
     split at h
     ·rename_i b' cs hm
      have A:=aQ hm
      split at h
      ·rename_i hk
       split at h
       ·rename_i hv
        cases h
        obtain rfl:=hS.1
        exact wg hg hx (hT.Mn hk) (hM _ A _ _ (wT hv))
       ·cases h
      ·rename_i n hk
       split at h
       ·rename_i ho
        split at h
        ·rename_i hn
         cases h
         obtain rfl:=hS.1
         have H:=Nat.eq_of_beq_eq_true ho
         subst H
         exact zf hg hx (hT.Mn hk) (hM _ A 0 cs sm) (Nat.eq_of_beq_eq_true hn)
        ·cases h
       ·cases h
      ·cases h
     ·cases h
    ·cases h
   ·split at h
    ·rename_i xs ts
     split at h
     ·rename_i x G
      split at h
      ·rename_i t F
       split at h
       ·rename_i hx
        split at h
        ·rename_i B
         cases h
         obtain ⟨e,he⟩:=hT.sl t (Dy B)
         have AA:xs= #[x]:=by apply Array.ext'; simpa using G
         have J:ts= #[t]:=by apply Array.ext'; simpa using F
         subst AA J
         exact KB hg hx he
        ·cases h
       ·cases h
      ·cases h
     ·cases h
    ·cases h
   ·cases h
def pr (T:D_) (n:Nat) (ops:Array Oper) (M:List (Nat×List Value)):Nat→List Nat→dC→List Oper→Option (dC×List Oper×List Prop)
 |0,_,L,rest=>some (L,rest,[])
 |k+1,hs,L,[]=>none
 |k+1,hs,L,o::rest=>match o.dst with
  |none=>none
  |some d=>match Nat.blt d n with
   |false=>none
   |true=>match pv T ops M L hs o.guard o.op with
    |none=>none
    |some (v,S,hs')=>match pr T n ops M k hs' ((d,v)::L) rest with
     |none=>none
     |some (L',rest',S')=>some (L',rest',S++S')
theorem ye: ∀ {S S':List Prop},qG (S++S')→qG S∧qG S'
 |[],S',h=>⟨trivial,h⟩
 |p::S,S',h=>⟨⟨h.1,(ye h.2).1⟩,(ye h.2).2⟩
/-- whatever is closed under single steps -/
theorem K1 {J:List Oper→dC→Prop} (hT:mg E.P T) (hM:MM C M) (hJ: ∀ o rest L d v,SD E ops o D L C v→o.dst=some d→Nat.blt d E.n=true→J rest ((d,v)::L)→J (o::rest) L):
 ∀ (k:Nat) (hs:List Nat) (L:dC) (rest:List Oper) {L':dC} {rest':List Oper} {S:List Prop},pr T E.n ops M k hs L rest=some (L',rest',S)→qG S→J rest' L'→J rest L
 |0,hs,L,rest,L',rest',S,h,hS,hj=>by
  unfold pr at h
  cases h
  exact hj
 |k+1,hs,L,[],L',rest',S,h,hS,hj=>by unfold pr at h; cases h
 |k+1,hs,L,o::rest,L',rest',S,h,hS,hj=>by
  unfold pr at h
  split at h
  ·cases h
  ·rename_i d hd
   split at h
   ·cases h
   ·rename_i hn
    split at h
    ·cases h
    ·rename_i v S1 A hv
     split at h
     ·cases h
     ·rename_i L1 G S2 hr
      cases h
      obtain ⟨B,F⟩:=ye hS
      exact hJ o rest L d v (U8 hT hM hv B) hd hn (K1 hT hM hJ k A _ rest hr F hj)
variable {Q:dk} {rest rest':List Oper} {L0 L':List (Nat×Value)} {S:List Prop} {F:List (Nat×Value)→Prop}
/-- a run of operations, one after the other -/
theorem rP (k:Nat) (hs:List Nat) (hM:MM C M) (j:RJ E ops Q rest' D L' C) (hT:mg E.P T:=by exact qR) (h:pr T E.n ops M k hs L rest=some (L0,rest',S):=by rfl) (hL:L0=L':=by (try dsimp only)<;>rfl) (hS:qG S:=by repeat' first|exact True.intro |refine kR ?_ ?_ |exact rfl|omega|(dsimp only; omega)):RJ E ops Q rest D L C:=by
 subst hL
 exact K1 (J:=fun r L=>RJ E ops Q r D L C) hT hM (fun o rest L d v A B F G=>Tb A B F G) k hs L rest h hS j
theorem dP (k:Nat) (hs:List Nat) (hM:MM C M) (j:DJ E ops D C F rest' L') (hT:mg E.P T:=by exact qR) (h:pr T E.n ops M k hs L rest=some (L0,rest',S):=by rfl) (hL:L0=L':=by (try dsimp only)<;>rfl) (hS:qG S:=by repeat' first|exact True.intro |refine kR ?_ ?_ |exact rfl|omega|(dsimp only; omega)):DJ E ops D C F rest L:=by
 subst hL
 exact K1 (J:=fun r L=>DJ E ops D C F r L) hT hM (fun o rest L d v A B G H=>S7 A B G H) k hs L rest h hS j
end
section
variable {P:Program} {r:Option Nat} {n:Nat} {B:BS} {w0:World} {ops:Array Oper} {M:List (Nat×List Value)} {D:List Deferred} {L L':List (Nat×Value)} {C:List aB} {Q:dk} {rest rest':List Oper} {S:List Prop} {F:List (Nat×Value)→Prop}
theorem fD (k:Nat) (hs:List Nat) (hM:MM C M) (h:pr TT n ops M k hs L rest=some (L',rest',S)) (j:RJ ⟨P,r,n,B,w0⟩ ops Q rest' D L' C) (hS:qG S:=by repeat' first|exact True.intro |refine kR ?_ ?_ |exact rfl|omega|(dsimp only; omega)) (hT:mg P TT:=by exact qR):RJ ⟨P,r,n,B,w0⟩ ops Q rest D L C:=rP k hs hM j hT h rfl hS
theorem mz (k:Nat) (hs:List Nat) (hM:MM C M) (h:pr TT n ops M k hs L rest=some (L',rest',S)) (j:DJ ⟨P,r,n,B,w0⟩ ops D C F rest' L') (hS:qG S:=by repeat' first|exact True.intro |refine kR ?_ ?_ |exact rfl|omega|(dsimp only; omega)) (hT:mg P TT:=by exact qR):DJ ⟨P,r,n,B,w0⟩ ops D C F rest L:=dP k hs hM j hT h rfl hS
theorem bG (k:Nat) (h:pr TT n ops [] k [] L rest=some (L',rest',S)) (j:RJ ⟨P,r,n,B,w0⟩ ops Q rest' D L' C) (hS:qG S:=by repeat' first|exact True.intro |refine kR ?_ ?_ |exact rfl|omega|(dsimp only; omega)) (hT:mg P TT:=by exact qR):RJ ⟨P,r,n,B,w0⟩ ops Q rest D L C:=rP k [] mn j hT h rfl hS
theorem lP (k:Nat) (h:pr TT n ops [] k [] L rest=some (L',rest',S)) (j:DJ ⟨P,r,n,B,w0⟩ ops D C F rest' L') (hS:qG S:=by repeat' first|exact True.intro |refine kR ?_ ?_ |exact rfl|omega|(dsimp only; omega)) (hT:mg P TT:=by exact qR):DJ ⟨P,r,n,B,w0⟩ ops D C F rest L:=dP k [] mn j hT h rfl hS
end
end
section
open Go.RowKit
/-- parts of a context, reckoned to the end -/
def nA (C:List aB):List Nat→Option (List aB)
 |[]=>some []
 |i::is=>match C[i]? with
  |some A=>match nA C is with
   |some l=>some (A::l)
   |none=>none
  |none=>none
theorem kZ {C:List aB}: ∀ {is:List Nat} {C':List aB},nA C is=some C'→kv C is=C'
 |[],C',h=>by cases h; rfl
 |i::is,C',h=>by
  unfold nA at h
  split at h
  ·rename_i A hA
   split at h
   ·rename_i l hl
    cases h
    show List.filterMap (C[·]?) (i::is)=A::l
    rw [List.filterMap_cons_some hA]
    exact congrArg _ (kZ hl)
   ·cases h
  ·cases h
/-- a part of a context in place of the whole -/
theorem aS {S:BS} {w0:World} {C C':List aB} (is:List Nat) (hn:decide is.Nodup=true:=by rfl) (hC:kv C is=C':=by rfl): ∀ w,St S w0 C w→St S w0 C' w:=fun w h=>St.kv is hn hC h
theorem TQ {S:BS} {w0:World} {C C':List aB} (is:List Nat) (hC:nA C is=some C') (hn:decide is.Nodup=true:=by rfl): ∀ w,St S w0 C w→St S w0 C' w:=fun w h=>St.kv is hn (kZ hC) h
def Pv (C:List aB) (i:Nat) (B:aB):Option (List aB):=match i,C with
 |0,_::C=>some (B::C)
 |i+1,A::C=>match Pv C i B with
  |some l=>some (A::l)
  |none=>none
 |_,[]=>none
theorem Gn: ∀ {C:List aB} {i:Nat} {B:aB} {C':List aB},Pv C i B=some C'→C.set i B=C'
 |[],0,B,C',h=>by cases h
 |[],i+1,B,C',h=>by cases h
 |A::C,0,B,C',h=>by cases h; rfl
 |A::C,i+1,B,C',h=>by
  unfold Pv at h
  split at h
  ·rename_i l hl
   cases h
   exact congrArg _ (Gn hl)
  ·cases h
theorem rp {E:fG} {K:Act→World→Prop} {D:ik} {L:dC} {C C':List aB} {A B:aB} (i:Nat) (hC:C[i]? =some A) (hh:(∀ w,A.holds w→B.holds w)∧(∀ b,B.fQ b→A.fQ b)∧ ∀ b,B.wf b→A.wf b) (hC':Pv C i B=some C') (h:KJ E K D L C'):KJ E K D L C:=Mt i hC hh (Gn hC') h
/-- the operations of a region but these; marks of some places -/
def V_ (n:Nat) (T:List Nat):List Nat:=(List.range n).filter fun i=> !T.contains i
def XH (k:Nat) (t:List Nat):List Bool:=(List.range k).map fun i=>t.contains i
theorem dT {E:fG} {id:Nat} {ops:Array Oper} {Q:dk} {D:ik} {L:dC} {C:List aB} (hm:E.P.follows .mixedOrders=true) (T fe tb i1 i2:List Nat) {C' C1:List aB} {free:List Nat} {SA tbb:List Bool}
 (h1:nA C i1=some C') (h2:nA C i2=some C1) (hf:free=V_ ops.size T) (hfe:SA=XH free.length fe) (htb:tbb=XH T.length tb)
 (h:rf E ops D C' C1 (fun L'=>TJ E ops D C' C1 (fun L C=>KJ E (Q .normal) D L C) tbb (fy ops T) L' C) SA (fy ops free) L)
 (hc:Np ops free T SA tbb=true:=by kernel_rfl) (n1:decide i1.Nodup=true:=by rfl) (n2:decide i2.Nodup=true:=by rfl):WJ E (.region id ops true) Q D L C:=
 Ps hm free T SA tbb C' C1 hc (TQ i1 h1 n1) (TQ i2 h2 n2) h
end
section
open Go.RowKit
def xK (T:D_) (M:List (Nat×List Value)) (L:dC):List ResultVar→List Nat→Option (List Value×List Prop)
 |[],_=>some ([],[])
 | .tmp t::rs,hs=>match L.lookup t with
  |some v=>match xK T M L rs hs with
   |some (vs,S)=>some (v::vs,S)
   |none=>none
  |none=>none
 | .cell a t::rs,hs=>match L.lookup a with
  |some (.pointer (some ⟨b,o,none⟩))=>match M[hs.headD 0]? with
   |some (b',cs)=>match T.Mn t with
    |some (false,_)=>match cs[o]? with
     |some v=>match xK T M L rs hs.tail with
      |some (vs,S)=>some (v::vs,(b'=b)::S)
      |none=>none
     |none=>none
    |some (true,n)=>match Nat.beq o 0 with
     |true=>match Nat.beq cs.length n with
      |true=>match xK T M L rs hs.tail with
       |some (vs,S)=>some (.agg cs.toArray::vs,(b'=b)::S)
       |none=>none
      |false=>none
     |false=>match xK T M L rs hs.tail with
      |some (vs,S)=>some (.agg ((cs.drop o).take n).toArray::vs,(b'=b)::(((cs.drop o).take n).length=n)::S)
      |none=>none
    |none=>none
   |none=>none
  |_=>none
theorem pk {P:Program} {T:D_} {M:List (Nat×List Value)} {L:dC} {C:List aB} (hT:mg P T) (hM:MM C M): ∀ (rs:List ResultVar) (hs:List Nat) {vs:List Value} {S:List Prop},xK T M L rs hs=some (vs,S)→qG S→HB P L C rs vs
 |[],_,vs,S,h,hS=>by unfold xK at h; cases h; exact trivial
 | .tmp t::rs,hs,vs,S,h,hS=>by
  unfold xK at h
  split at h
  ·rename_i v hv
   split at h
   ·rename_i vs' S' hr
    cases h
    exact ⟨hv,pk hT hM rs hs hr hS⟩
   ·cases h
  ·cases h
 | .cell a t::rs,hs,vs,S,h,hS=>by
  unfold xK at h
  split at h
  ·rename_i b o hl
   split at h
   ·rename_i b' cs hm
    have A:=aQ hm
    split at h
    ·rename_i hk
     split at h
     ·rename_i v hv
      split at h
      ·rename_i vs' S' hr
       cases h
       obtain ⟨rfl,hS⟩:=hS
       exact ⟨⟨_,hl,.inr ⟨_,hT.Mn hk,hM _ A _ _ (wT hv)⟩⟩,pk hT hM rs _ hr hS⟩
      ·cases h
     ·cases h
    ·rename_i n hk
     split at h
     ·rename_i ho
      split at h
      ·rename_i hn
       split at h
       ·rename_i vs' S' hr
        cases h
        obtain ⟨rfl,hS⟩:=hS
        have D:=Nat.eq_of_beq_eq_true ho
        subst D
        exact ⟨⟨_,hl,.inl ⟨_,cs,hT.Mn hk,hM _ A 0 cs sm,Nat.eq_of_beq_eq_true hn,U⟩⟩,pk hT hM rs _ hr hS⟩
       ·cases h
      ·cases h
     ·split at h
      ·rename_i vs' S' hr
       cases h
       obtain ⟨rfl,B,hS⟩:=hS
       exact ⟨⟨_,hl,.inl ⟨_,_,hT.Mn hk,hM _ A o _ (by rw [B]),B,U⟩⟩,pk hT hM rs _ hr hS⟩
      ·cases h
    ·cases h
   ·cases h
  ·cases h
section
variable {P:Program} {n:Nat} {fn:Func} {w0:World} {K:Act→World→Prop} {L:List (Nat×Value)} {C:List aB} {M:List (Nat×List Value)} {vs:List Value} {S:List Prop} {u x v:Value}
theorem D8 (hQ: ∀ D L C,LJ ⟨P,none,n,uq,w0⟩ fn (AE w0 v) D L C→KJ ⟨P,none,n,uq,w0⟩ K D L C) (hs:List Nat) (hM:MM C M) (h:xK TT M L fn.results.toList hs=some ([u],S)) (e:u=v) (hS:qG S:=by repeat' first|exact True.intro |refine kR rfl ?_) (hT:mg P TT:=by exact qR):KJ ⟨P,none,n,uq,w0⟩ K [] L C:=
 hQ _ _ _ (kp (pk hT hM _ _ h hS) fun w hs=>CR e hs)
theorem nE (hQ: ∀ D L C,LJ ⟨P,none,n,uq,w0⟩ fn (AE w0 v) D L C→KJ ⟨P,none,n,uq,w0⟩ K D L C) (hs:List Nat) (hM:MM C M) (h:xK TT M L fn.results.toList hs=some (u::x::vs,S)) (e:Value.tuple (u::x::vs).toArray=v) (hS:qG S:=by repeat' first|exact True.intro |refine kR rfl ?_) (hT:mg P TT:=by exact qR):KJ ⟨P,none,n,uq,w0⟩ K [] L C:=
 hQ _ _ _ (kp (pk hT hM _ _ h hS) fun w hs=>CR e hs)
theorem LX {α:Type} {V:α→Value} {p:α→Prop} {N:α→List aB} (hQ: ∀ D L C,LJ ⟨P,none,n,uq,w0⟩ fn (JC w0 V p N) D L C→KJ ⟨P,none,n,uq,w0⟩ K D L C) (x:α) (is hs:List Nat) (hM:MM C M) (h:xK TT M L fn.results.toList hs=some (vs,S)) (hw:(N x).all (·.wr)=true) (hN:kv C is=N x) (hV:Sr vs=V x) (hp:p x) (hn:decide is.Nodup=true:=by rfl) (hS:qG S:=by repeat' first|exact True.intro |refine kR rfl ?_) (hT:mg P TT:=by exact qR):KJ ⟨P,none,n,uq,w0⟩ K [] L C:=
 hQ _ _ _ (kp (pk hT hM _ _ h hS) fun w hs=>Rz x is hV hp hn hN hw hs)
theorem LM {A:aB} {α:Type} {V:α→Value} {p:α→Prop} {A':α→aB} (hQ: ∀ D L C,LJ ⟨P,none,n,⟨A.wf,fun _=>True⟩,w0⟩ fn (No w0 A V p A') D L C→KJ ⟨P,none,n,⟨A.wf,fun _=>True⟩,w0⟩ K D L C) (x:α) (i:Nat) (hs:List Nat) (hM:MM C M) (h:xK TT M L fn.results.toList hs=some (vs,S)) (hw:(A' x).wr=true) (hC:C[i]? =some (A' x)) (hV:Sr vs=V x) (hp:p x) (hS:qG S:=by repeat' exact True.intro) (hT:mg P TT:=by exact qR):KJ ⟨P,none,n,⟨A.wf,fun _=>True⟩,w0⟩ K [] L C:=
 hQ _ _ _ (kp (pk hT hM _ _ h hS) fun w hs=>U7 x i hV hp hC hw hs)
end
end
section
open Go.RowKit
def FK {α:Type _}:List α→List α→Option (List α)
 |[],m=>some m
 |a::l,m=>match FK l m with
  |some r=>some (a::r)
  |none=>none
theorem Gp {α:Type _}: ∀ {l m r:List α},FK l m=some r→l++m=r
 |[],m,r,h=>by cases h; rfl
 |a::l,m,r,h=>by
  unfold FK at h
  split at h
  ·rename_i r' hr
   cases h
   exact congrArg (a:: ·) (Gp hr)
  ·cases h
def Vm (L:dC):List Nat→Option (dC)
 |[]=>some []
 |t::ts=>match L.lookup t with
  |some v=>match Vm L ts with
   |some r=>some ((t,v)::r)
   |none=>none
  |none=>none
theorem FW {L M:dC} (k:dx L M): ∀ {ts:List Nat} {r:dC},Vm L ts=some r→dx L (r++M)
 |[],r,h=>by cases h; exact k
 |t::ts,r,h=>by
  unfold Vm at h
  split at h
  ·rename_i v hv
   split at h
   ·rename_i r' hr
    cases h
    exact dx.cons hv (FW k hr)
   ·cases h
  ·cases h
section
variable {E:fG} {Q:dk} {D:List Deferred} {L L0:List (Nat×Value)} {C C0:List aB} {ι:Type} {Li:ι→List (Nat×Value)} {Ci:ι→List aB}
theorem bS {c:Code} (kL kC:List Nat) (hL:Vm L kL=some L0) (hC0:nA C kC=some C0) (S:ι→dC) (G:ι→List aB) (hLi: ∀ x,FK L0 (S x)=some (Li x)) (hCi: ∀ x,FK C0 (G x)=some (Ci x)) (μ:ι→Nat) (x0:ι)
 (h0:dx L (S x0)) (hC: ∀ w,St E.S E.w0 C w→St E.S E.w0 (Ci x0) w)
 (round: ∀ x (J:Act→World→Prop),(∀ y D' L' C',D'=D→μ y<μ x→dx L' (Li y)→(∀ w,St E.S E.w0 C' w→St E.S E.w0 (Ci y) w)→KJ E J D' L' C')→WJ E c (Exit.then J Q) D (Li x) (Ci x)):WJ E (.loop c) Q D L C:=
 QM Li Ci μ x0 (Gp (hLi x0)▸FW h0 hL) hC round
theorem oW {x y:Code} (kL kC:List Nat) (hL:Vm L kL=some L0) (hC0:nA C kC=some C0) (S:ι→dC) (G:ι→List aB) (hLi: ∀ x,FK L0 (S x)=some (Li x)) (hCi: ∀ x,FK C0 (G x)=some (Ci x))
 (hy: ∀ z,WJ E y Q D (Li z) (Ci z)) (h: ∀ K:Act→World→Prop,(∀ z,KJ E K D (Li z) (Ci z))→WJ E x (Exit.then K Q) D L C):WJ E (.seq x y) Q D L C:=Se Li Ci hy h
end
end
section
open Go.RowKit
set_option linter.unusedSectionVars false
/-- what is asked of keys -/
structure wj (P:Program) (kt:Nat) {K:Type} (kV:K→Value):Prop where
 check: ∀ (e:Bool) (x:K) (w:World),(Instr.checkKey e 10000 kt (kV x)).run P w= .ok () w
 find: ∀ (x:K) (w:World) (es:List MapEntry),(∀ e∈es,∃ k,e.key=kV k)→
  ((Instr.findKey kt (kV x) es).run P w= .ok none w∧ ∀ e∈es,e.key≠kV x)∨ ∃ j e,(Instr.findKey kt (kV x) es).run P w= .ok (some (j,e.val)) w∧es[j]? =some e∧e.key=kV x
 bits: ∀ x,Instr.sameBits 10000 (kV x) (kV x)=true
 inj: ∀ x y,kV x=kV y→x=y
section
variable {K:Type} [DecidableEq K] {kV:K→Value}
def eA {β:Type} (l:List (K×β)) (x:K) (y:β):List (K×β):=if (l.lookup x).isSome then l.map (fun p=>if p.1=x then (x,y) else p) else l++[(x,y)]
def fH {β:Type} (l:List (K×β)) (x:K):List (K×β):=l.filter fun p=> !decide (p.1=x)
def cT {β γ:Type} (f:β→γ) (l:List (K×β)):List (K×γ):=l.map fun p=>(p.1,f p.2)
theorem nX {β γ:Type} (f:β→γ) (x:K): ∀ l:List (K×β),(cT f l).lookup x=(l.lookup x).map f
 |[]=>rfl
 |p::l=>by
  obtain ⟨k,v⟩:=p
  have ih:=nX f x l
  by_cases h:x=k
  ·subst h; simp [cT,List.lookup]
  ·have:(x==k)=false:=by simpa using h
   simp only [cT,List.map_cons,List.lookup,this] at ih ⊢
   exact ih
theorem g6 {β γ:Type} (f:β→γ) (l:List (K×β)) (x:K) (y:β):cT f (eA l x y)=eA (cT f l) x (f y):=by
 unfold eA
 rw [nX,Option.isSome_map]
 split
 ·simp only [cT,List.map_map]
  refine List.map_congr_left fun p _=>?_
  simp only [Function.comp]
  split<;>rfl
 ·simp [cT]
theorem oL {β γ:Type} (f:β→γ) (l:List (K×β)) (x:K):cT f (fH l x)=fH (cT f l) x:=by
 unfold fH cT
 rw [List.filter_map]
 rfl
theorem ij {β:Type} {x:K}: ∀ {l:List (K×β)},l.lookup x=none↔ ∀ p∈l,p.1≠x
 |[]=>by simp
 |p::l=>by
  obtain ⟨k,v⟩:=p
  by_cases h:x=k
  ·subst h; simp [List.lookup]
  ·have hb:(x==k)=false:=by simpa using h
   simp only [List.lookup,hb,bU,forall_eq_or_imp]
   rw [ij (l:=l)]
   exact ⟨fun q=>⟨fun e=>h e.symm,q⟩,fun q=>q.2⟩
theorem lW {β:Type} {x:K} {y:β}: ∀ {l:List (K×β)},(l.map (·.1)).Nodup→((x,y)∈l↔l.lookup x=some y)
 |[],_=>by simp
 |p::l,hn=>by
  obtain ⟨k,v⟩:=p
  simp only [List.map_cons,List.nodup_cons] at hn
  by_cases h:x=k
  ·subst h
   simp only [List.lookup,beq_self_eq_true,bU,Prod.mk.injEq,true_and,Option.some.injEq]
   constructor
   ·rintro (e|e)
    ·exact e.symm
    ·exact absurd (cp.2 ⟨_,e,U⟩) hn.1
   ·intro e; exact .inl e.symm
  ·have hb:(x==k)=false:=by simpa using h
   simp only [List.lookup,hb,bU,Prod.mk.injEq,h,false_and,false_or]
   exact lW hn.2
structure jP (kV:K→Value) (es:Array MapEntry) (c:Nat) (m:List (K×Value)):Prop where
 list:es.toList.map (fun (e:MapEntry)=>(e.key,e.val))=m.map (fun p=>(kV p.1,p.2))
 keys:(m.map (·.1)).Nodup
 Jr: ∀ e∈es.toList,e.born<c
 born:(es.toList.map (·.born)).Nodup
def kQ (kV:K→Value) (b:Nat) (m:List (K×Value)):aB where
 fQ k:=k=b
 wf k:=k=b
 holds w:= ∃ es c,w.heap[b]? =some (.map es c)∧jP kV es c m
 wr:=true
 ld _ h:=h
 whole _ _ h:=h
 lt w h k hk:=by obtain ⟨es,c,he,_⟩:=h; exact hk▸ed he
 pD w w' hk h:=by obtain ⟨es,c,he,hm⟩:=h; exact ⟨es,c,(hk b rfl).trans he,hm⟩
theorem jP.nil:jP kV #[] 0 []:=⟨rfl,List.nodup_nil,sm,List.nodup_nil⟩
theorem jP.size {es:Array MapEntry} {c:Nat} {m:List (K×Value)} (h:jP kV es c m):es.size=m.length:=by
 have:=congrArg List.length h.list
 simpa using this
theorem Ew {P:Program} {kt:Nat} (hk:wj P kt kV) (x:K): ∀ (es:List MapEntry) (m:List (K×Value)),es.map (fun (e:MapEntry)=>(e.key,e.val))=m.map (fun p=>(kV p.1,p.2))→
 ((∀ e∈es,e.key≠kV x)→m.lookup x=none)∧ ∀ (j:Nat) (e:MapEntry),es[j]? =some e→e.key=kV x→m[j]? =some (x,e.val):=by
 intro es m h
 refine ⟨fun hn=>ij.2 fun p hp e=>?_,fun j e he hx=>?_⟩
 ·have:(kV p.1,p.2)∈es.map (fun (e:MapEntry)=>(e.key,e.val)):=by rw [h]; exact cp.2 ⟨p,hp,rfl⟩
  obtain ⟨z,hz,B⟩:=cp.1 this
  simp only [Prod.mk.injEq] at B
  exact hn z hz (by rw [B.1,e])
 ·have A:(es.map (fun (e:MapEntry)=>(e.key,e.val)))[j]? =some (e.key,e.val):=by rw [dL,he]; rfl
  rw [h,dL] at A
  cases hm:m[j]? with
  |none=>simp [hm] at A
  |some p=>
   simp only [hm,Option.map_some,Option.some.injEq,Prod.mk.injEq] at A
   have:=hk.inj _ _ (A.1.trans hx)
   obtain ⟨k,v⟩:=p
   simp only at this A
   rw [this,A.2]
theorem pR {P:Program} {w:World} {kt:Nat} {x:K} {es:Array MapEntry} {c:Nat} {m:List (K×Value)} (hk:wj P kt kV) (h:jP kV es c m):
 ((Instr.findKey kt (kV x) es.toList).run P w= .ok none w∧m.lookup x=none)∨
 ∃ j v,(Instr.findKey kt (kV x) es.toList).run P w= .ok (some (j,v)) w∧m[j]? =some (x,v)∧m.lookup x=some v:=by
 obtain ⟨D,E⟩:=Ew hk x es.toList m h.list
 rcases hk.find x w es.toList (fun e he=>by
  have:(e.key,e.val)∈m.map (fun p=>(kV p.1,p.2)):=by rw [← h.list]; exact cp.2 ⟨e,he,rfl⟩
  obtain ⟨p,_,hp⟩:=cp.1 this
  simp only [Prod.mk.injEq] at hp
  exact ⟨p.1,hp.1.symm⟩) with ⟨A,B⟩|⟨j,e,A,B,C⟩
 ·exact .inl ⟨A,D B⟩
 ·have:=E j e B C
  exact .inr ⟨j,e.val,A,this,(lW h.keys).1 (aQ this)⟩
theorem jE {P:Program} {w:World} {kt:Nat} {x:K} (hk:wj P kt kV) (e:Bool):(Instr.checkKey e 10000 kt (kV x)).run P w= .ok () w:=hk.check e x w
section
variable {E:fG} {ops:Array Oper} {Q:dk} {rest:List Oper} {D:List Deferred} {L:List (Nat×Value)} {C:List aB}
variable {dst:Option Tmp} {d:Nat} {ty:TypeId} {ps:String} {af:Array Edge} {g:Option (Nat×Bool)}
theorem nq {t:TypeId} (hg:kx ops L g=true) (hd:Nat.blt d E.n=true) (k: ∀ b,RJ E ops Q rest D ((d,.map (some b))::L) (kQ kV b []::C)):RJ E ops Q (⟨some d,.makeMap t none,ty,ps,af,g⟩::rest) D L C:=by
 intro a w B hs
 have hd':d<E.n:=by rw [← Nat.blt_eq]; exact hd
 unfold tG
 rw [if_pos (eG B hg)]
 refine ju (v:= .map (some w.heap.size)) (w':=w.alloc (.map #[] 0)) sm ?_ ?_
 ·simp [execOp,Instr.makeMap,newObj,Sem.run]
 ·refine k _ _ _ (B.put hd' _) (hs.grow (eg.alloc no w _) (N:=[kQ kV w.heap.size []]) ⟨fun A hA=>?_,fun A hA b hb=>?_,List.pairwise_singleton _ _⟩)
  ·simp at hA; subst hA; exact ⟨#[],0,heap_alloc_new w _,jP.nil⟩
  ·simp at hA; subst hA; exact Nat.le_of_eq (Eq.symm hb)
theorem jP.push {es:Array MapEntry} {c:Nat} {m:List (K×Value)} (h:jP kV es c m) {x:K} (hx:m.lookup x=none) (v:Value):jP kV (es.push {key:=kV x,val:=v,born:=c}) (c+1) (m++[(x,v)]):=by
 refine ⟨by simp [h.list],?_,?_,?_⟩
 ·rw [List.map_append,List.nodup_append]
  refine ⟨h.keys,sm,fun a ha b hb=>?_⟩
  simp at hb; subst hb
  obtain ⟨p,hp,rfl⟩:=cp.1 ha
  exact ij.1 hx p hp
 ·intro e he
  simp only [Array.toList_push,g9,ck] at he
  rcases he with he|rfl
  ·exact Nat.lt_succ_of_lt (h.Jr e he)
  ·exact Nat.lt_succ_self _
 ·simp only [Array.toList_push,List.map_append,List.map_cons,List.map_nil]
  rw [List.nodup_append]
  refine ⟨h.born,sm,fun a ha b hb=>?_⟩
  simp at hb; subst hb
  obtain ⟨p,hp,rfl⟩:=cp.1 ha
  exact Nat.ne_of_lt (h.Jr p hp)
theorem Of {m:List (K×Value)} {j:Nat} {x:K} {v0 v:Value} (hn:(m.map (·.1)).Nodup) (hj:m[j]? =some (x,v0)):m.map (fun p=>if p.1=x then (x,v) else p)=m.set j (x,v):=by
 refine List.ext_getElem? fun i=>?_
 rw [dL,List.getElem?_set]
 by_cases e:j=i
 ·subst e
  have hl:=(aX.1 hj).1
  rw [hj]; simp [hl]
 ·rw [if_neg e]
  cases hi:m[i]? with
  |none=>rfl
  |some p=>
   simp only [Option.map_some]
   rw [if_neg]
   intro hp
   have B:(m.map (·.1))[i]? =some x:=by rw [dL,hi]; simp [hp]
   have C:(m.map (·.1))[j]? =some x:=by rw [dL,hj]; rfl
   have A:=(aX.1 B).1
   exact e (((List.getElem?_inj A hn).1 (B.trans C.symm)).symm)
theorem jP.set {es:Array MapEntry} {c:Nat} {m:List (K×Value)} (h:jP kV es c m) {x:K} {j:Nat} {v0:Value} (hj:m[j]? =some (x,v0)) (hx:m.lookup x=some v0) (v:Value):
 jP kV (es.modify j fun e=>{e with key:=kV x,val:=v}) c (eA m x v):=by
 have C:eA m x v=m.set j (x,v):=by unfold eA; rw [hx]; simpa using Of h.keys hj
 have hl:=(aX.1 hj).1
 have E:=h.size
 have A:j<es.size:=by omega
 have B:(es.modify j fun e=>{e with key:=kV x,val:=v}).toList=es.toList.set j {(es[j]) with key:=kV x,val:=v}:=by
  refine List.ext_getElem? fun i=>?_
  rw [Array.getElem?_toList,Array.getElem?_modify,List.getElem?_set]
  by_cases e:j=i
  ·subst e; simp [A]
  ·simp [e]
 have D:(es.toList.set j {(es[j]) with key:=kV x,val:=v}).map (·.born)=es.toList.map (·.born):=by
  rw [List.map_set]
  refine List.ext_getElem? fun i=>?_
  rw [List.getElem?_set]
  by_cases e:j=i
  ·subst e; simp [A]
  ·rw [if_neg e]
 refine ⟨?_,?_,?_,?_⟩
 ·rw [B,C,List.map_set,List.map_set,h.list]
 ·rw [C,List.map_set]
  have:(m.map (·.1)).set j x=m.map (·.1):=by
   refine List.ext_getElem? fun i=>?_
   rw [List.getElem?_set]
   by_cases e:j=i
   ·subst e; simp [hl]; simpa using (congrArg Prod.fst ((aX.1 hj).2)).symm
   ·rw [if_neg e]
  simp only [this]
  exact h.keys
 ·intro e he
  rw [B] at he
  have hb:e.born∈(es.toList.set j {(es[j]) with key:=kV x,val:=v}).map (·.born):=cp.2 ⟨e,he,rfl⟩
  rw [D] at hb
  obtain ⟨e',he',hq⟩:=cp.1 hb
  rw [← hq]; exact h.Jr e' he'
 ·rw [B,D]; exact h.born
/-- m[x] = y -/
theorem jt {t kt et:TypeId} {xm xk xv:Operand} {b:Nat} {x:K} {v:Value} {m m':List (K×Value)} {C':List aB} (i:Nat) (hg:kx ops L g=true) (hm:ev L xm=some (.map (some b))) (hk:ev L xk=some (kV x)) (hv:ev L xv=some v)
 (ht:E.P.underlying t=some (.map kt et)) (hkt:wj E.P kt kV) (hC:C[i]? =some (kQ kV b m)) (hm':eA m x v=m') (hC':C.set i (kQ kV b m')=C') (k:RJ E ops Q rest D L C'):
 RJ E ops Q (⟨none,.mapUpdate t xm xk xv,ty,ps,af,g⟩::rest) D L C:=by
 subst hm' hC'
 intro a w A hs
 unfold tG
 rw [if_pos (eG A hg)]
 obtain ⟨es,c,he,hi⟩:=hs.holds _ (aQ hC)
 have B:(getObj b).run E.P w= .ok (.map es c) w:=MapKept.run_getObj_map he
 rcases pR (P:=E.P) (w:=w) (x:=x) hkt hi with ⟨AA,F⟩|⟨j,N,AA,F,J⟩
 ·refine te (w':={w with heap:=w.heap.setIfInBounds b (.map (es.push {key:=kV x,val:=v,born:=c}) (c+1))}) sm ?_ ?_
  ·simp [execOp,A.ev hm,A.ev hk,A.ev hv,Instr.mapUpdate,run_underlying ht,B,jE hkt,AA,MapKept.run_setObj_map _ he]
  ·refine k _ _ ⟨A.defers,A.size,A.at_⟩ (hs.Ae (b:=b) i hC U U (nZ _) (fun _ h=>h) ⟨_,_,qi he,?_⟩)
   have:eA m x v=m++[(x,v)]:=by unfold eA; rw [F]; rfl
   rw [this]; exact hi.push F v
 ·have M:=hi.size
  have G:j<es.size:=by have:=(aX.1 F).1; omega
  have H:(es[j]).key=kV x:=by
   have:=congrArg (fun l=>l[j]?) hi.list
   simp [G,F] at this
   exact this.1
  refine te (w':={w with heap:=w.heap.setIfInBounds b (.map (es.modify j fun e=>{e with key:=kV x,val:=v}) c)}) sm ?_ ?_
  ·simp [execOp,A.ev hm,A.ev hk,A.ev hv,Instr.mapUpdate,run_underlying ht,B,jE hkt,AA,MapKept.run_setObj_map _ he,Instr.keyThatStays,G,H,hkt.bits x]
  ·exact k _ _ ⟨A.defers,A.size,A.at_⟩ (hs.Ae (b:=b) i hC U U (nZ _) (fun _ h=>h) ⟨_,_,qi he,hi.set F J v⟩)
theorem jP.del {es:Array MapEntry} {c:Nat} {m:List (K×Value)} (h:jP kV es c m) {x:K} {j:Nat} {v0:Value} (hj:m[j]? =some (x,v0)):jP kV (es.eraseIdxIfInBounds j) c (fH m x):=by
 have hl:=(aX.1 hj).1
 have D:=h.size
 have A:j<es.size:=by omega
 have B:(es.eraseIdxIfInBounds j).toList=es.toList.eraseIdx j:=by simp [Array.eraseIdxIfInBounds,A]
 have E:fH m x=m.eraseIdx j:=by
  have hn:=h.keys
  clear h D A B
  induction m generalizing j with
  |nil=>simp at hj
  |cons p m ih=>
   obtain ⟨k,v⟩:=p
   simp only [List.map_cons,List.nodup_cons] at hn
   cases j with
   |zero=>
    simp at hj
    obtain ⟨rfl,rfl⟩:=hj
    simp only [fH,List.eraseIdx_zero,List.tail_cons]
    rw [List.filter_cons_of_neg sm]
    refine List.filter_eq_self.2 fun p hp=>?_
    have:p.1≠k:=fun e=>hn.1 (cp.2 ⟨p,hp,e⟩)
    simpa using this
   |succ j=>
    simp only [List.getElem?_cons_succ] at hj
    have C:k≠x:=fun e=>hn.1 (cp.2 ⟨_,aQ hj,e.symm⟩)
    simp only [fH,List.eraseIdx_cons_succ] at ih ⊢
    rw [List.filter_cons_of_pos (by simpa using C),ih hj (by simpa using (aX.1 hj).1) hn.2]
 have sub:(es.eraseIdxIfInBounds j).toList.Sublist es.toList:=by rw [B]; exact List.eraseIdx_sublist _ _
 refine ⟨?_,?_,fun e he=>h.Jr e (sub.subset he),h.born.sublist (sub.map _)⟩
 ·rw [B,E,ChangeMaps.map_eraseIdx,ChangeMaps.map_eraseIdx,h.list]
 ·rw [E]; exact h.keys.sublist ((List.eraseIdx_sublist _ _).map _)
theorem El {m:List (K×Value)} {x:K} (h:m.lookup x=none):fH m x=m:=List.filter_eq_self.2 fun p hp=>by simpa using ij.1 h p hp
/-- y, ok := m[x] -/
theorem K2 {t kt et:TypeId} {xm xk:Operand} {b:Nat} {x:K} {z:Value} {m:List (K×Value)} (hg:kx ops L g=true) (hm:ev L xm=some (.map (some b))) (hk:ev L xk=some (kV x))
 (ht:E.P.underlying t=some (.map kt et)) (hkt:wj E.P kt kV) (hz:tV E.P et=some z) (hC:jC C (kQ kV b m).holds):
 SD E ops ⟨dst,.lookup t xm xk true,ty,ps,af,g⟩ D L C (.tuple [(m.lookup x).getD z,.bool (m.lookup x).isSome].toArray):=
 eL hg sm fun a w A hs=>by
  obtain ⟨es,c,he,hi⟩:=hs.has hC
  have B:(getObj b).run E.P w= .ok (.map es c) w:=MapKept.run_getObj_map he
  rcases pR (P:=E.P) (w:=w) (x:=x) hkt hi with ⟨F,G⟩|⟨j,AA,F,G,H⟩
  ·simp [execOp,Instr.lookup,A.ev hm,A.ev hk,run_underlying ht,B,jE hkt,F,G,Kn hz]
  ·simp [execOp,Instr.lookup,A.ev hm,A.ev hk,run_underlying ht,B,jE hkt,F,H]
/-- m[x] -/
theorem IP {t kt et:TypeId} {xm xk:Operand} {b:Nat} {x:K} {z:Value} {m:List (K×Value)} (hg:kx ops L g=true) (hm:ev L xm=some (.map (some b))) (hk:ev L xk=some (kV x))
 (ht:E.P.underlying t=some (.map kt et)) (hkt:wj E.P kt kV) (hz:tV E.P et=some z) (hC:jC C (kQ kV b m).holds):
 SD E ops ⟨dst,.lookup t xm xk false,ty,ps,af,g⟩ D L C ((m.lookup x).getD z):=
 eL hg sm fun a w A hs=>by
  obtain ⟨es,c,he,hi⟩:=hs.has hC
  have B:(getObj b).run E.P w= .ok (.map es c) w:=MapKept.run_getObj_map he
  rcases pR (P:=E.P) (w:=w) (x:=x) hkt hi with ⟨F,G⟩|⟨j,AA,F,G,H⟩
  ·simp [execOp,Instr.lookup,A.ev hm,A.ev hk,run_underlying ht,B,jE hkt,F,G,Kn hz]
  ·simp [execOp,Instr.lookup,A.ev hm,A.ev hk,run_underlying ht,B,jE hkt,F,H]
theorem tR {β:Type} {t kt et:TypeId} {xm xk:Operand} {b:Nat} {x:K} {f:β→Value} {z:β} {l:List (K×β)} (hg:kx ops L g=true) (hm:ev L xm=some (.map (some b))) (hk:ev L xk=some (kV x))
 (ht:E.P.underlying t=some (.map kt et)) (hkt:wj E.P kt kV) (hz:tV E.P et=some (f z)) (hC:jC C (kQ kV b (cT f l)).holds):
 SD E ops ⟨dst,.lookup t xm xk true,ty,ps,af,g⟩ D L C (.tuple [f ((l.lookup x).getD z),.bool (l.lookup x).isSome].toArray):=by
 have:=K2 (dst:=dst) (ty:=ty) (ps:=ps) (af:=af) (D:=D) hg hm hk ht hkt hz hC
 rw [nX] at this
 have A:((l.lookup x).map f).getD (f z)=f ((l.lookup x).getD z):=by cases l.lookup x<;>rfl
 rw [A,Option.isSome_map] at this
 exact this
theorem w7 {β:Type} {t kt et:TypeId} {xm xk:Operand} {b:Nat} {x:K} {f:β→Value} {z:β} {l:List (K×β)} (hg:kx ops L g=true) (hm:ev L xm=some (.map (some b))) (hk:ev L xk=some (kV x))
 (ht:E.P.underlying t=some (.map kt et)) (hkt:wj E.P kt kV) (hz:tV E.P et=some (f z)) (hC:jC C (kQ kV b (cT f l)).holds):
 SD E ops ⟨dst,.lookup t xm xk false,ty,ps,af,g⟩ D L C (f ((l.lookup x).getD z)):=by
 have:=IP (dst:=dst) (ty:=ty) (ps:=ps) (af:=af) (D:=D) hg hm hk ht hkt hz hC
 rw [nX] at this
 have A:((l.lookup x).map f).getD (f z)=f ((l.lookup x).getD z):=by cases l.lookup x<;>rfl
 rw [A] at this
 exact this
end
theorem nm {β:Type} {x:K} {y:β} {l:List (K×β)} (h:(x,y)∈l):(fH l x).length<l.length:=by
 unfold fH
 exact List.length_filter_lt_length_iff_exists.2 ⟨_,h,sm⟩
theorem Ab {β:Type} {x:K} {p:K×β} {l:List (K×β)}:p∈fH l x↔p∈l∧p.1≠x:=by simp [fH]
/-- an iterator over a map: what is left; what came last -/
def Bi (kV:K→Value) (r b:Nat) (m left:List (K×Value)) (cur:Option (K×Value)):aB where
 fQ k:=k=r∨k=b
 wf k:=k=r∨k=b
 holds w:=r≠b∧ ∃ (es:Array MapEntry) (c since:Nat) (seen:Array Nat) (st:Nat),w.heap[b]? =some (.map es c)∧jP kV es c m∧w.heap[r]? =some (.mapIter (some b) since seen st)∧(∀ e∈es.toList,e.born<since)∧since≤st∧since≤c∧
  (leftOf es seen).toList.map (fun (e:MapEntry)=>(e.key,e.val))=left.map (fun p=>(kV p.1,p.2))∧
  ∀ p,cur=some p→ ∃ (e:MapEntry) (seen0:Array Nat),e∈es.toList∧seen=seen0.push e.born∧st=c∧e.key=kV p.1∧e.val=p.2
 wr:=true
 ld _ h:=h
 whole _ _ h:=h
 lt w h k hk:=by
  obtain ⟨_,es,c,since,seen,st,h1,_,h2,_⟩:=h
  rcases hk with rfl|rfl
  ·exact ed h2
  ·exact ed h1
 pD w w' hk h:=by
  obtain ⟨hne,es,c,since,seen,st,h1,h2,h3,h4⟩:=h
  exact ⟨hne,es,c,since,seen,st,(hk b (.inr rfl)).trans h1,h2,(hk r (.inl rfl)).trans h3,h4⟩
theorem DU {r b:Nat} {m left:List (K×Value)} {cur:Option (K×Value)}:(∀ w,(Bi kV r b m left cur).holds w→(Bi kV r b m left none).holds w)∧(∀ k,(Bi kV r b m left none).fQ k→(Bi kV r b m left cur).fQ k)∧ ∀ k,(Bi kV r b m left none).wf k→(Bi kV r b m left cur).wf k:=
 ⟨fun w h=>by
  obtain ⟨A,es,c,since,seen,st,B,C,D,E,F,h5',G,_⟩:=h
  exact ⟨A,es,c,since,seen,st,B,C,D,E,F,h5',G,fun p hp=>by cases hp⟩,fun _ h=>h,fun _ h=>h⟩
theorem Kv {r b:Nat} {m left:List (K×Value)} {cur:Option (K×Value)}:(∀ w,(Bi kV r b m left cur).holds w→(kQ kV b m).holds w)∧(∀ k,(kQ kV b m).fQ k→(Bi kV r b m left cur).fQ k)∧ ∀ k,(kQ kV b m).wf k→(Bi kV r b m left cur).wf k:=
 ⟨fun w h=>by
  obtain ⟨C,es,c,since,seen,st,A,B,_⟩:=h
  exact ⟨es,c,A,B⟩,fun _ h=> .inr h,fun _ h=> .inr h⟩
theorem CU {es:Array MapEntry} {c:Nat} {m:List (K×Value)} (hinj: ∀ x y,kV x=kV y→x=y) (hi:jP kV es c m) {x y:MapEntry} (hx:x∈es.toList) (hy:y∈es.toList) (e:x.key=y.key):x=y:=by
 have hk:(es.toList.map (·.key))=(m.map (·.1)).map kV:=by
  have:=congrArg (List.map Prod.fst) hi.list
  simpa [Function.comp_def] using this
 have h:(es.toList.map (·.key)).Nodup:=by
  rw [hk,List.nodup_iff_pairwise_ne,List.pairwise_map]
  exact hi.keys.imp (fun B he=>B (hinj _ _ he))
 obtain ⟨i,A⟩:=List.getElem?_of_mem hx
 obtain ⟨j,hj⟩:=List.getElem?_of_mem hy
 have C:(es.toList.map (·.key))[i]? =some x.key:=by rw [dL,A]; rfl
 have D:(es.toList.map (·.key))[j]? =some x.key:=by rw [dL,hj,e]; rfl
 have E:=(List.getElem?_inj (aX.1 C).1 h).1 (C.trans D.symm)
 subst E
 exact Option.some.inj (A.symm.trans hj)
section
variable {E:fG} {ops:Array Oper} {Q:dk} {rest:List Oper} {D:List Deferred} {L:List (Nat×Value)} {C:List aB}
variable {dst:Option Tmp} {d:Nat} {ty:TypeId} {ps:String} {af:Array Edge} {g:Option (Nat×Bool)}
theorem Aj {t kt et:TypeId} {xm:Operand} {b:Nat} {m:List (K×Value)} (i:Nat) (hg:kx ops L g=true) (hm:ev L xm=some (.map (some b))) (ht:E.P.underlying t=some (.map kt et)) (hC:C[i]? =some (kQ kV b m)) (hd:Nat.blt d E.n=true)
 (k: ∀ r,RJ E ops Q rest D ((d,.pointer (some ⟨r,0,none⟩))::L) (C.set i (Bi kV r b m m none))):RJ E ops Q (⟨some d,.range t xm,ty,ps,af,g⟩::rest) D L C:=by
 intro a w A hs
 have hd':d<E.n:=by rw [← Nat.blt_eq]; exact hd
 unfold tG
 rw [if_pos (eG A hg)]
 obtain ⟨es,c,he,hi⟩:=hs.holds _ (aQ hC)
 have F:b<w.heap.size:=ed he
 have B:(getObj b).run E.P w= .ok (.map es c) w:=MapKept.run_getObj_map he
 refine ju (v:= .pointer (some ⟨w.heap.size,0,none⟩)) (w':=w.alloc (.mapIter (some b) c #[] c)) sm ?_ ?_
 ·simp [execOp,Instr.range,A.ev hm,run_underlying ht,B,newObj,Sem.run]
 ·refine k _ _ _ (A.put hd' _) (hs.mv i hC ⟨⟨I,es,c,c,#[],c,?_,hi,heap_alloc_new w _,hi.Jr,Nat.le_refl _,Nat.le_refl _,?_,fun p hp=>by cases hp⟩,eg.alloc _ w _,fun q hq=>?_,fun q hq=>?_⟩)
  ·rw [Below.heap_alloc w _ b F]; exact he
  ·have:leftOf es #[]=es:=by unfold leftOf; exact Array.filter_eq_self.2 sm
   rw [this]; exact hi.list
  ·rcases hq with rfl|rfl
   ·exact .inr (Nat.le_refl _)
   ·exact .inl U
  ·rcases hq with rfl|rfl
   ·exact .inr (Nat.le_refl _)
   ·exact .inl U
theorem ze {es:Array MapEntry} {c:Nat} {m left:List (K×Value)} {seen:Array Nat} (hinj: ∀ x y,kV x=kV y→x=y) (hi:jP kV es c m) (h:(leftOf es seen).toList.map (fun (e:MapEntry)=>(e.key,e.val))=left.map (fun p=>(kV p.1,p.2))):(left.map (·.1)).Nodup:=by
 have B:((leftOf es seen).toList.map (·.key)).Sublist (es.toList.map (·.key)):=by
  unfold leftOf; rw [Array.toList_filter]; exact List.filter_sublist.map _
 have D:(es.toList.map (·.key))=(m.map (·.1)).map kV:=by
  have:=congrArg (List.map Prod.fst) hi.list
  simpa [Function.comp_def] using this
 have E:((leftOf es seen).toList.map (·.key))=(left.map (·.1)).map kV:=by
  have:=congrArg (List.map Prod.fst) h
  simpa [Function.comp_def] using this
 rw [D,E] at B
 have F:((m.map (·.1)).map kV).Nodup:=by
  rw [List.nodup_iff_pairwise_ne,List.pairwise_map]
  exact hi.keys.imp (fun A he=>A (hinj _ _ he))
 have C:=F.sublist B
 rw [List.nodup_iff_pairwise_ne,List.pairwise_map] at C
 rw [List.nodup_iff_pairwise_ne]
 exact C.imp (fun A he=>A (by rw [he]))
theorem LI (hinj: ∀ x y,kV x=kV y→x=y) {xi:Operand} {r b:Nat} {m left:List (K×Value)} {cur:Option (K×Value)} (i:Nat) (hg:kx ops L g=true) (hm:ev L xi=some (.pointer (some ⟨r,0,none⟩))) (hC:C[i]? =some (Bi kV r b m left cur)) (hd:Nat.blt d E.n=true)
 (k0:left=[]→RJ E ops Q rest D ((d,.tuple [.bool false].toArray)::L) C)
 (k1: ∀ x v,(x,v)∈left→(left.map (·.1)).Nodup→RJ E ops Q rest D ((d,.tuple [.bool true,kV x,v].toArray)::L) (C.set i (Bi kV r b m (fH left x) (some (x,v))))):
 RJ E ops Q (⟨some d,.next xi false,ty,ps,af,g⟩::rest) D L C:=by
 intro a w G hs
 have hd':d<E.n:=by rw [← Nat.blt_eq]; exact hd
 unfold tG
 rw [if_pos (eG G hg)]
 obtain ⟨R,es,c,since,seen,st,X,hi,Y,J,V,M,A,_⟩:=hs.holds _ (aQ hC)
 rcases run_next_at (P:=E.P) w ty r b since st seen es c Y X J V with ⟨Z,hr⟩|⟨e,he,N,H,hr⟩
 ·refine ju (v:= .tuple #[.bool false]) (w':=w) sm ?_ ?_
  ·simp [execOp,G.ev hm,hr]
  ·refine k0 ?_ _ _ (G.put hd' _) hs
   have:(leftOf es seen).toList=[]:=by rw [← List.length_eq_zero_iff,Array.length_toList]; exact Z
   rw [this] at A
   exact List.map_eq_nil_iff.1 A.symm
 ·have O:(e.key,e.val)∈left.map (fun p=>(kV p.1,p.2)):=by rw [← A]; exact cp.2 ⟨e,he,rfl⟩
  obtain ⟨p,hp,S⟩:=cp.1 O
  obtain ⟨x,v⟩:=p
  simp only [Prod.mk.injEq] at S
  obtain ⟨hk,hv⟩:=S
  refine ju (v:= .tuple #[.bool true,e.key,e.val]) (w':=ChangeMaps.setBlock N r (.mapIter (some b) since (seen.push e.born) c)) sm ?_ ?_
  ·simp [execOp,G.ev hm,hr]
  ·rw [← hk,← hv]
   have AA:=ze hinj hi A
   have F:e∈es.toList:=by unfold leftOf at he; rw [Array.toList_filter] at he; exact (List.mem_filter.1 he).1
   have f:c=c:=rfl
   have B:N.heap=w.heap:=by rcases H with rfl|rfl<;>rfl
   refine k1 x v hp AA _ _ (G.put hd' _) (hs.mv i hC ⟨⟨R,es,c,since,seen.push e.born,c,?_,hi,?_,J,M,M,?_,fun q hq=>?_⟩,?_,fun q hq=> .inl hq,fun q hq=> .inl hq⟩)
   ·show (N.heap.setIfInBounds r _)[b]? =_
    rw [Array.getElem?_setIfInBounds_ne R,B]; exact X
   ·show (N.heap.setIfInBounds r _)[r]? =_
    rw [Array.getElem?_setIfInBounds_self_of_lt (by rw [B]; exact ed Y)]
   ·have T:leftOf es (seen.push e.born)=(leftOf es seen).filter (fun z=> !(z.born==e.born)):=by
     unfold leftOf
     rw [Array.filter_filter]
     congr 1
     funext z
     simp only [Array.contains_push,Bool.not_or]
     rw [Bool.and_comm]
    rw [T,Array.toList_filter]
    have key: ∀ (l:List MapEntry) (ll:List (K×Value)),(∀ z∈l,z∈es.toList)→l.map (fun (e:MapEntry)=>(e.key,e.val))=ll.map (fun p=>(kV p.1,p.2))→
     (l.filter (fun z=> !(z.born==e.born))).map (fun (e:MapEntry)=>(e.key,e.val))=(fH ll x).map (fun p=>(kV p.1,p.2)):=by
     intro l
     induction l with
     |nil=>intro ll _ h; cases ll with
      |nil=>rfl
      |cons p ll=>simp at h
     |cons z l ih=>
      intro ll hz h
      cases ll with
      |nil=>simp at h
      |cons p ll=>
       simp only [List.map_cons,List.cons.injEq,Prod.mk.injEq] at h
       have ih':=ih ll (fun y hy=>hz y (by simp [hy])) h.2
       have AB:(z.born=e.born)↔(p.1=x):=by
        constructor
        ·intro hb
         have:z=e:=D2 hi.born (hz z sm) F hb
         rw [this] at h
         have:=h.1.1.symm.trans hk.symm
         exact hinj _ _ this
        ·intro hx
         have W:z.key=e.key:=by rw [h.1.1,hx,hk]
         rw [CU hinj hi (hz z sm) F W]
       unfold fH at ih' ⊢
       by_cases hx:p.1=x
       ·rw [List.filter_cons_of_neg (by simp [AB.2 hx]),List.filter_cons_of_neg (by simp [hx])]; exact ih'
       ·rw [List.filter_cons_of_pos (by simpa using fun hb=>hx (AB.1 hb)),List.filter_cons_of_pos (by simpa using hx)]
        simp only [List.map_cons,h.1.1,h.1.2,ih']
    exact key _ _ (fun z hz=>by unfold leftOf at hz; rw [Array.toList_filter] at hz; exact (List.mem_filter.1 hz).1) A
   ·cases hq
    exact ⟨e,seen,F,U,U,hk.symm,hv.symm⟩
   ·refine ⟨?_,?_,?_,?_,fun q hq hn=>?_⟩
    ·rcases H with rfl|rfl<;>rfl
    ·rcases H with rfl|rfl<;>rfl
    ·rcases H with rfl|rfl<;>rfl
    ·show w.heap.size≤(N.heap.setIfInBounds r _).size
     simp [B]
    ·show (N.heap.setIfInBounds r _)[q]? =_
     rw [Array.getElem?_setIfInBounds_ne (fun e=>hn (.inl e.symm)),B]
theorem yb {xi:Operand} {r b:Nat} {m left:List (K×Value)} {x:K} {v:Value} (i:Nat) (hg:kx ops L g=true) (hm:ev L xi=some (.pointer (some ⟨r,0,none⟩))) (hC:C[i]? =some (Bi kV r b m left (some (x,v)))):
 SD E ops ⟨dst,.entry xi,ty,ps,af,g⟩ D L C (.tuple [kV x,v].toArray):=
 eL hg sm fun a w F hs=>by
  obtain ⟨N,es,c,since,seen,st,J,hi,M,H,O,AA,G,B⟩:=hs.holds _ (aQ hC)
  obtain ⟨e,A,he,rfl,rfl,hk,hv⟩:=B _ rfl
  have:=run_entry_at (P:=E.P) w r b since A es st e M J he hi.born
  simp [execOp,F.ev hm,this,hk,hv]
theorem yQ (hinj: ∀ x y,kV x=kV y→x=y) {β:Type} {f:β→Value} {xi:Operand} {r b:Nat} {m:List (K×Value)} {ll:List (K×β)} {cur:Option (K×Value)} (i:Nat) (hg:kx ops L g=true) (hm:ev L xi=some (.pointer (some ⟨r,0,none⟩))) (hC:C[i]? =some (Bi kV r b m (cT f ll) cur)) (hd:Nat.blt d E.n=true)
 (k0:ll=[]→RJ E ops Q rest D ((d,.tuple [.bool false].toArray)::L) C)
 (k1: ∀ x y,(x,y)∈ll→(ll.map (·.1)).Nodup→RJ E ops Q rest D ((d,.tuple [.bool true,kV x,f y].toArray)::L) (C.set i (Bi kV r b m (cT f (fH ll x)) (some (x,f y))))):
 RJ E ops Q (⟨some d,.next xi false,ty,ps,af,g⟩::rest) D L C:=by
 refine LI hinj i hg hm hC hd (fun h=>k0 (List.map_eq_nil_iff.1 h)) (fun x v B hn=>?_)
 obtain ⟨p,hp,A⟩:=cp.1 B
 simp only [Prod.mk.injEq] at A
 obtain ⟨rfl,rfl⟩:=A
 have:=k1 p.1 p.2 hp (by simpa [cT,Function.comp_def] using hn)
 rwa [oL] at this
end
end
end
section
structure bZ where
 Start:Int
 fI:Int
 qe:List Int
 wX:List (List (Int×ag))
 dE:Int
 fT:Int
 Ky:Int
def bZ.n (w:bZ):Nat:=w.qe.length
def fV (s:Int):aK:=if s<0 then ⟨0,1⟩ else ⟨1,0⟩
def dK (a b:aK):aK:=⟨a.right+b.right,a.fp+b.fp⟩
def vg (w:bZ) (b:Nat):List (Int×ag):=(w.wX[b]?).getD []
def jl (w:bZ) (b:Nat):List (Int×ag):=(-1,⟨w.Start,w.fI⟩)::vg w b
def bW (w:bZ) (b:Nat):Int:=(w.qe[b]?).getD 0
def lK (w:bZ) (b:Nat) (p:aK×Int) (o:Int×ag):Option (aK×Int):=if max (p.2+bW w b) o.2.Lo≤min o.2.Hi w.fI then some (dK p.1 (fV o.1),max (p.2+bW w b) o.2.Lo) else none
def fwd (w:bZ):Nat→List (aK×Int)
 |0=>[(⟨0,0⟩,w.Start)]
 |b+1=>(fwd w b).flatMap fun p=>(jl w b).filterMap (lK w b p)
def oU (w:bZ) (b:Nat) (p:aK×Int) (o:Int×ag):Option (aK×Int):=if o.2.Lo≤min p.2 o.2.Hi then some (dK p.1 (fV o.1),min p.2 o.2.Hi-bW w b) else none
def bwd (w:bZ):Nat→List (aK×Int)
 |0=>[(⟨0,0⟩,w.fI)]
 |k+1=>(⟨0,0⟩,w.fI)::(bwd w k).flatMap fun p=>(jl w (w.n-(k+1))).filterMap (oU w (w.n-(k+1)) p)
def back (w:bZ) (b:Nat):List (aK×Int):=bwd w (w.n-b)
def lf (w:bZ) (t:aK):Bool:=decide (t.fp≤w.dE∧w.Ky-t.right≤w.fT)
theorem gH {w:bZ} {b:Nat} {q:aK×Int}:q∈fwd w (b+1)↔ ∃ p∈fwd w b,∃ o∈jl w b,lK w b p o=some q:=by
 simp only [fwd,List.mem_flatMap,List.mem_filterMap]
theorem vR {w:bZ} {b:Nat} (h:w.n≤b):back w b=[(⟨0,0⟩,w.fI)]:=by
 unfold back; rw [Nat.sub_eq_zero_of_le h]; rfl
theorem pK {w:bZ} {b:Nat} (h:b<w.n) {q:aK×Int}:q∈back w b↔q=(⟨0,0⟩,w.fI)∨ ∃ p∈back w (b+1),∃ o∈jl w b,oU w b p o=some q:=by
 unfold back
 have e:w.n-b=(w.n-(b+1))+1:=by omega
 rw [e]
 simp only [bwd,bU,List.mem_flatMap,List.mem_filterMap]
 rw [show w.n-(w.n-(b+1)+1)=b by omega]
def uw (m c:List (aK×Int)):Prop:=(∀ t v,m.lookup t=some v→(t,v)∈c)∧ ∀ t y,(t,y)∈c→ ∃ v,m.lookup t=some v∧v≤y
def xe (m c:List (aK×Int)):Prop:=(∀ t v,m.lookup t=some v→(t,v)∈c)∧ ∀ t y,(t,y)∈c→ ∃ v,m.lookup t=some v∧y≤v
def wZ (m c:List (aK×Int)):Prop:= ∀ t v,m.lookup t=some v→(t,v)∈c
theorem ml {K β:Type} [DecidableEq K] {m:List (K×β)} {x t:K} {y:β}:(eA m x y).lookup t=if t=x then some y else m.lookup t:=by
 unfold eA
 by_cases hx:(m.lookup x).isSome
 ·rw [if_pos hx]
  have key: ∀ l:List (K×β),(l.lookup x).isSome∨True→(l.map (fun p=>if p.1=x then (x,y) else p)).lookup t=if t=x then (if (l.lookup x).isSome then some y else none) else l.lookup t:=by
   intro l _
   induction l with
   |nil=>simp
   |cons p l ih=>
    obtain ⟨k,v⟩:=p
    have ih:=ih (.inr trivial)
    by_cases hk:k=x
    ·subst hk
     by_cases ht:t=k
     ·subst ht; simp [List.lookup]
     ·have:(t==k)=false:=by simpa using ht
      simp only [List.map_cons,if_true,List.lookup,this,ih,if_neg ht]
    ·have hk':(x==k)=false:=by simpa using fun e=>hk e.symm
     by_cases ht:t=k
     ·subst ht; simp [List.lookup,hk]
     ·have A:(t==k)=false:=by simpa using ht
      simp only [List.map_cons,if_neg hk,List.lookup,A,ih,hk']
  rw [key m (.inr trivial)]
  by_cases ht:t=x
  ·subst ht
   rw [if_pos rfl,if_pos rfl,if_pos hx]
  ·rw [if_neg ht,if_neg ht]
 ·rw [if_neg hx]
  have hn:m.lookup x=none:=by cases h0:m.lookup x with
   |none=>rfl
   |some v=>exact absurd (by rw [h0]; rfl) hx
  by_cases ht:t=x
  ·subst ht
   rw [if_pos rfl]
   have:=ij.1 hn
   clear hn hx
   induction m with
   |nil=>simp
   |cons p m ih=>
    obtain ⟨k,v⟩:=p
    have hk:(t==k)=false:=by simpa using fun e=>this (k,v) sm e.symm
    simp only [List.cons_append,List.lookup,hk]
    exact ih (fun q hq=>this q (dU _ hq))
  ·rw [if_neg ht]
   clear hn hx
   induction m with
   |nil=>
    have:(t==x)=false:=by simpa using ht
    simp [List.lookup,this]
   |cons p m ih=>
    obtain ⟨k,v⟩:=p
    by_cases hk:t=k
    ·subst hk; simp [List.lookup]
    ·have:(t==k)=false:=by simpa using hk
     simp only [List.cons_append,List.lookup,this]
     exact ih
/-- what a map is after a try -/
def qg (m:List (aK×Int)) (q:aK×Int):List (aK×Int):=match m.lookup q.1 with
 |none=>eA m q.1 q.2
 |some v=>if q.2<v then eA m q.1 q.2 else m
def qf (m:List (aK×Int)) (q:aK×Int):List (aK×Int):=match m.lookup q.1 with
 |none=>eA m q.1 q.2
 |some v=>if v<q.2 then eA m q.1 q.2 else m
theorem yX {m:List (aK×Int)} {q:aK×Int} {t:aK}:(qg m q).lookup t=if t=q.1 then some (match m.lookup q.1 with |none=>q.2|some v=>min q.2 v) else m.lookup t:=by
 unfold qg
 cases h:m.lookup q.1 with
 |none=>simp only; rw [ml]
 |some v=>
  simp only
  split
  ·rename_i A
   rw [ml,Int.min_eq_left I]
  ·rename_i A
   split
   ·rename_i e; subst e; rw [h,Int.min_eq_right I]
   ·rfl
theorem zk {m:List (aK×Int)} {q:aK×Int} {t:aK}:(qf m q).lookup t=if t=q.1 then some (match m.lookup q.1 with |none=>q.2|some v=>max q.2 v) else m.lookup t:=by
 unfold qf
 cases h:m.lookup q.1 with
 |none=>simp only; rw [ml]
 |some v=>
  simp only
  split
  ·rename_i A
   rw [ml,Int.max_eq_left I]
  ·rename_i A
   split
   ·rename_i e; subst e; rw [h,Int.max_eq_right I]
   ·rfl
def yE (m m':List (aK×Int)):Prop:= ∀ t v,m.lookup t=some v→ ∃ v',m'.lookup t=some v'∧v'≤v
def yu (m m':List (aK×Int)):Prop:= ∀ t v,m.lookup t=some v→ ∃ v',m'.lookup t=some v'∧v≤v'
theorem yE.refl (m:List (aK×Int)):yE m m:=fun t v h=>⟨v,h,I⟩
theorem yu.refl (m:List (aK×Int)):yu m m:=fun t v h=>⟨v,h,I⟩
theorem wV {m:List (aK×Int)} {q:aK×Int}:yE m (qg m q):=fun t v h=>by
 rw [yX]
 split
 ·rename_i e; subst e; rw [h]; exact ⟨_,rfl,by simp only; omega⟩
 ·exact ⟨v,h,I⟩
theorem rH {m:List (aK×Int)} {q:aK×Int}:yu m (qf m q):=fun t v h=>by
 rw [zk]
 split
 ·rename_i e; subst e; rw [h]; exact ⟨_,rfl,by simp only; omega⟩
 ·exact ⟨v,h,I⟩
theorem Hk {m c:List (aK×Int)} {q:aK×Int} (h:wZ m c) (hq:q∈c):wZ (qg m q) c:=fun t v hv=>by
 rw [yX] at hv
 split at hv
 ·rename_i e
  subst e
  cases hm:m.lookup q.1 with
  |none=>simp only [hm,Option.some.injEq] at hv; subst hv; exact hq
  |some x=>
   simp only [hm,Option.some.injEq] at hv; subst hv
   rcases Int.lt_or_le q.2 x with A|A
   ·rw [Int.min_eq_left I]; exact hq
   ·rw [Int.min_eq_right I]; exact h _ _ hm
 ·exact h t v hv
theorem HI {m c:List (aK×Int)} {q:aK×Int} (h:wZ m c) (hq:q∈c):wZ (qf m q) c:=fun t v hv=>by
 rw [zk] at hv
 split at hv
 ·rename_i e
  subst e
  cases hm:m.lookup q.1 with
  |none=>simp only [hm,Option.some.injEq] at hv; subst hv; exact hq
  |some x=>
   simp only [hm,Option.some.injEq] at hv; subst hv
   rcases Int.lt_or_le q.2 x with A|A
   ·rw [Int.max_eq_right I]; exact h _ _ hm
   ·rw [Int.max_eq_left I]; exact hq
 ·exact h t v hv
theorem Hh {m:List (aK×Int)} {q:aK×Int}: ∃ v,(qg m q).lookup q.1=some v∧v≤q.2:=by
 rw [yX,if_pos rfl]
 refine ⟨_,U,?_⟩
 cases m.lookup q.1<;>simp only <;>omega
theorem I0 {m:List (aK×Int)} {q:aK×Int}: ∃ v,(qf m q).lookup q.1=some v∧q.2≤v:=by
 rw [zk,if_pos rfl]
 refine ⟨_,U,?_⟩
 cases m.lookup q.1<;>simp only <;>omega
/-- all that comes of one entry, by some options, is held -/
def jM (w:bZ) (b:Nat) (m:List (aK×Int)) (p:aK×Int) (os:List (Int×ag)):Prop:= ∀ o∈os,∀ q,lK w b p o=some q→ ∃ v,m.lookup q.1=some v∧v≤q.2
def jQ (w:bZ) (b:Nat) (m:List (aK×Int)) (p:aK×Int) (os:List (Int×ag)):Prop:= ∀ o∈os,∀ q,oU w b p o=some q→ ∃ v,m.lookup q.1=some v∧q.2≤v
theorem jM.lower {w:bZ} {b:Nat} {m m':List (aK×Int)} {p:aK×Int} {os:List (Int×ag)} (h:jM w b m p os) (hl:yE m m'):jM w b m' p os:=fun o ho q hq=>by
 obtain ⟨v,A,C⟩:=h o ho q hq
 obtain ⟨v',B,D⟩:=hl _ _ A
 exact ⟨v',B,I⟩
theorem jQ.upper {w:bZ} {b:Nat} {m m':List (aK×Int)} {p:aK×Int} {os:List (Int×ag)} (h:jQ w b m p os) (hl:yu m m'):jQ w b m' p os:=fun o ho q hq=>by
 obtain ⟨v,A,C⟩:=h o ho q hq
 obtain ⟨v',B,D⟩:=hl _ _ A
 exact ⟨v',B,I⟩
theorem jM.sub {w:bZ} {b:Nat} {m:List (aK×Int)} {p:aK×Int} {os os':List (Int×ag)} (h:jM w b m p os) (hs: ∀ o∈os',o∈os):jM w b m p os':=fun o ho=>h o (hs o ho)
theorem jQ.sub {w:bZ} {b:Nat} {m:List (aK×Int)} {p:aK×Int} {os os':List (Int×ag)} (h:jQ w b m p os) (hs: ∀ o∈os',o∈os):jQ w b m p os':=fun o ho=>h o (hs o ho)
theorem jM.add {w:bZ} {b:Nat} {m m':List (aK×Int)} {p:aK×Int} {os:List (Int×ag)} {o:Int×ag} (h:jM w b m p os) (hl:yE m m') (hn: ∀ q,lK w b p o=some q→ ∃ v,m'.lookup q.1=some v∧v≤q.2):jM w b m' p (os++[o]):=fun o' ho q hq=>by
 rcases g9.1 ho with ho|ho
 ·exact h.lower hl o' ho q hq
 ·simp only [ck] at ho; subst ho; exact hn q hq
theorem jQ.add {w:bZ} {b:Nat} {m m':List (aK×Int)} {p:aK×Int} {os:List (Int×ag)} {o:Int×ag} (h:jQ w b m p os) (hl:yu m m') (hn: ∀ q,oU w b p o=some q→ ∃ v,m'.lookup q.1=some v∧q.2≤v):jQ w b m' p (os++[o]):=fun o' ho q hq=>by
 rcases g9.1 ho with ho|ho
 ·exact h.upper hl o' ho q hq
 ·simp only [ck] at ho; subst ho; exact hn q hq
theorem gj {m:List (aK×Int)} (hn:(m.map (·.1)).Nodup) {t:aK} {v:Int}:(t,v)∈m↔m.lookup t=some v:=lW hn
theorem pU {z t:aK} {x v:Int}:List.lookup t [(z,x)]=some v↔t=z∧v=x:=by
 by_cases e:t=z
 ·subst e; simp [List.lookup,eq_comm]
 ·have:(t==z)=false:=by simpa using e
  simp [List.lookup,this,e]
theorem IS {w:bZ}:uw [(⟨0,0⟩,w.Start)] (fwd w 0):=by
 refine ⟨fun t v h=>?_,fun t y h=>?_⟩
 ·obtain ⟨rfl,rfl⟩:=pU.1 h
  simp [fwd]
 ·simp only [fwd,ck,Prod.mk.injEq] at h
  obtain ⟨rfl,rfl⟩:=h
  exact ⟨w.Start,pU.2 ⟨U,U⟩,Int.le_refl _⟩
theorem Lw {w:bZ} {b:Nat} {mb m:List (aK×Int)} (hn:(mb.map (·.1)).Nodup) (h:uw mb (fwd w b)) (hs:wZ m (fwd w (b+1))) (hd: ∀ p∈mb,jM w b m p (jl w b)):uw m (fwd w (b+1)):=⟨hs,fun t y hy=>by
 obtain ⟨p,hp,o,ho,e⟩:=gH.1 hy
 obtain ⟨v,B,E⟩:=h.2 p.1 p.2 hp
 unfold lK at e
 split at e
 ·rename_i D
  simp only [Option.some.injEq,Prod.mk.injEq] at e
  obtain ⟨v',A,C⟩:=hd (p.1,v) ((gj hn).2 B) o ho (dK p.1 (fV o.1),max (v+bW w b) o.2.Lo) (by unfold lK; rw [if_pos (by simp only; omega)])
  simp only at A C
  rw [e.1] at A
  exact ⟨v',A,I⟩
 ·cases e⟩
theorem Jc {w:bZ} {b:Nat} (hb:w.n≤b):xe [(⟨0,0⟩,w.fI)] (back w b):=by
 rw [vR hb]
 refine ⟨fun t v h=>?_,fun t y h=>?_⟩
 ·obtain ⟨rfl,rfl⟩:=pU.1 h
  simp
 ·simp only [ck,Prod.mk.injEq] at h
  obtain ⟨rfl,rfl⟩:=h
  exact ⟨w.fI,pU.2 ⟨U,U⟩,Int.le_refl _⟩
theorem KY {w:bZ} {b:Nat} (hb:b<w.n) {mb m:List (aK×Int)} (hn:(mb.map (·.1)).Nodup) (h:xe mb (back w (b+1))) (hs:wZ m (back w b)) (h0: ∃ v,m.lookup ⟨0,0⟩=some v∧w.fI≤v) (hd: ∀ p∈mb,jQ w b m p (jl w b)):xe m (back w b):=⟨hs,fun t y hy=>by
 rcases (pK hb).1 hy with e|⟨p,hp,o,ho,e⟩
 ·simp only [Prod.mk.injEq] at e
  obtain ⟨rfl,rfl⟩:=e
  exact h0
 obtain ⟨v,B,E⟩:=h.2 p.1 p.2 hp
 unfold oU at e
 split at e
 ·rename_i D
  simp only [Option.some.injEq,Prod.mk.injEq] at e
  obtain ⟨v',A,C⟩:=hd (p.1,v) ((gj hn).2 B) o ho (dK p.1 (fV o.1),min v o.2.Hi-bW w b) (by unfold oU; rw [if_pos (by simp only; omega)])
  simp only at A C
  rw [e.1] at A
  exact ⟨v',A,I⟩
 ·cases e⟩
end
section
def j7 (w:bZ) (b:Nat) (p u:aK×Int) (o:Int×ag):ag:=⟨max (p.2+bW w b) o.2.Lo,min u.2 o.2.Hi⟩
def yY (p u:aK×Int) (o:Int×ag):aK:=dK (dK p.1 u.1) (fV o.1)
def nz (w:bZ) (b:Nat) (p u:aK×Int) (o:Int×ag):Option (Int×ag):=if (j7 w b p u o).Lo≤(j7 w b p u o).Hi∧lf w (yY p u o)=true then some (o.1,j7 w b p u o) else none
def qY (w:bZ) (b:Nat) (mf mb:List (aK×Int)):List (Int×ag):=(jl w b).flatMap fun o=>mf.flatMap fun p=>mb.filterMap fun u=>nz w b p u o
def gp (w:bZ) (b:Nat):List (Int×ag):=qY w b (fwd w b) (back w (b+1))
theorem ja {w:bZ} {b:Nat} {mf mb:List (aK×Int)} {q:Int×ag}:q∈qY w b mf mb↔ ∃ o∈jl w b,∃ p∈mf,∃ u∈mb,nz w b p u o=some q:=by
 simp only [qY,List.mem_flatMap,List.mem_filterMap]
theorem jY {w:bZ} {b:Nat} {p u:aK×Int} {o q:Int×ag}:nz w b p u o=some q↔(j7 w b p u o).Lo≤(j7 w b p u o).Hi∧lf w (yY p u o)=true∧q=(o.1,j7 w b p u o):=by
 unfold nz
 split
 ·rename_i h
  simp only [Option.some.injEq]
  exact ⟨fun e=>⟨h.1,h.2,e.symm⟩,fun e=>e.2.2.symm⟩
 ·rename_i h
  simp only [reduceCtorEq,false_iff]
  exact fun e=>h ⟨e.1,e.2.1⟩
theorem jx {w:bZ} {b:Nat} {mf mb:List (aK×Int)} {q:Int×ag} (h:q∈qY w b mf mb):q.2.Lo≤q.2.Hi:=by
 obtain ⟨o,_,p,_,u,_,e⟩:=ja.1 h
 obtain ⟨A,_,rfl⟩:=jY.1 e
 exact A
/-- what the maps tell is what all ways tell -/
theorem Oh {w:bZ} {b:Nat} {mf mb:List (aK×Int)} (hf:uw mf (fwd w b)) (hb:xe mb (back w (b+1))) (nf:(mf.map (·.1)).Nodup) (nb:(mb.map (·.1)).Nodup) {q:Int×ag} (h:q∈qY w b mf mb):q∈gp w b:=by
 obtain ⟨o,ho,p,hp,u,hu,e⟩:=ja.1 h
 exact ja.2 ⟨o,ho,p,hf.1 _ _ ((gj nf).1 hp),u,hb.1 _ _ ((gj nb).1 hu),e⟩
theorem Lf {w:bZ} {b:Nat} {mf mb:List (aK×Int)} (hf:uw mf (fwd w b)) (hb:xe mb (back w (b+1))) (nf:(mf.map (·.1)).Nodup) (nb:(mb.map (·.1)).Nodup) {q:Int×ag} (h:q∈gp w b): ∃ q'∈qY w b mf mb,q'.1=q.1∧q'.2.Lo≤q.2.Lo∧q.2.Hi≤q'.2.Hi:=by
 obtain ⟨o,ho,p,hp,u,hu,e⟩:=ja.1 h
 obtain ⟨A,B,rfl⟩:=jY.1 e
 obtain ⟨v,hv,C⟩:=hf.2 p.1 p.2 hp
 obtain ⟨y,hy,D⟩:=hb.2 u.1 u.2 hu
 simp only [j7] at A
 refine ⟨(o.1,j7 w b (p.1,v) (u.1,y) o),ja.2 ⟨o,ho,(p.1,v),(gj nf).2 hv,(u.1,y),(gj nb).2 hy,jY.2 ⟨?_,B,U⟩⟩,U,?_,?_⟩
 ·simp only [j7]; omega
 ·simp only [j7]; omega
 ·simp only [j7]; omega
def jJ:ag:=⟨1,0⟩
def ni (h x:ag):ag:=if h=jJ then x else ⟨min x.Lo h.Lo,max x.Hi h.Hi⟩
def jw (l:List (Int×ag)):ag:=l.foldl (fun h q=>ni h q.2) jJ
structure nG (l:List (Int×ag)) (h:ag):Prop where
 le:h.Lo≤h.Hi
 lo: ∃ x∈l,x.2.Lo=h.Lo
 hi: ∃ x∈l,x.2.Hi=h.Hi
 all: ∀ x∈l,h.Lo≤x.2.Lo∧x.2.Hi≤h.Hi
def lj (l:List (Int×ag)) (h:ag):Prop:=(l=[]∧h=jJ)∨nG l h
theorem nG.ne {l:List (Int×ag)} {h:ag} (hh:nG l h):h≠jJ:=fun e=>by
 have:=hh.le; rw [e] at this; simp [jJ] at this
theorem CX:lj [] jJ:= .inl ⟨rfl,rfl⟩
theorem wb {l:List (Int×ag)} {h:ag} {q:Int×ag} (hh:lj l h) (hq:q.2.Lo≤q.2.Hi):lj (l++[q]) (ni h q.2):=by
 right
 rcases hh with ⟨rfl,rfl⟩|hh
 ·unfold ni
  rw [if_pos rfl]
  exact ⟨hq,⟨q,sm,rfl⟩,⟨q,sm,rfl⟩,fun x hx=>by simp at hx; subst hx; exact ⟨Int.le_refl _,Int.le_refl _⟩⟩
 ·unfold ni
  rw [if_neg hh.ne]
  have A:=hh.le
  obtain ⟨a,ha,ea⟩:=hh.lo
  obtain ⟨c,hc,ec⟩:=hh.hi
  refine ⟨by simp only; omega,?_,?_,fun x hx=>?_⟩
  ·rcases Int.lt_or_le q.2.Lo h.Lo with p|p
   ·exact ⟨q,sm,by simp only; omega⟩
   ·exact ⟨a,by simp [ha],by simp only; omega⟩
  ·rcases Int.lt_or_le h.Hi q.2.Hi with p|p
   ·exact ⟨q,sm,by simp only; omega⟩
   ·exact ⟨c,by simp [hc],by simp only; omega⟩
  ·rcases g9.1 hx with hx|hx
   ·have:=hh.all x hx; simp only; omega
   ·simp at hx; subst hx; simp only; omega
theorem rY {l:List (Int×ag)} (hl: ∀ q∈l,q.2.Lo≤q.2.Hi):lj l (jw l):=by
 have key: ∀ (r d:List (Int×ag)) (h:ag),(∀ q∈r,q.2.Lo≤q.2.Hi)→lj d h→lj (d++r) (r.foldl (fun h q=>ni h q.2) h):=by
  intro r
  induction r with
  |nil=>intro d h _ hd; simpa using hd
  |cons q r ih=>
   intro d h hr hd
   have:=ih (d++[q]) (ni h q.2) (fun x hx=>hr x (dU _ hx)) (wb hd (hr q sm))
   simpa using this
 have:=key l [] jJ hl CX
 rw [List.nil_append] at this
 exact this
def Ee (a b:List (Int×ag)):Prop:= ∀ x∈b,∃ y∈a,y.2.Lo≤x.2.Lo∧x.2.Hi≤y.2.Hi
theorem N8 {a b:List (Int×ag)} {h k:ag} (ha:lj a h) (hb:lj b k) (hab:Ee a b) (hba:Ee b a):h=k:=by
 rcases ha with ⟨rfl,rfl⟩|ha
 ·rcases hb with ⟨rfl,rfl⟩|hb
  ·rfl
  ·obtain ⟨x,hx,_⟩:=hb.lo
   obtain ⟨y,hy,_⟩:=hab x hx
   cases hy
 ·rcases hb with ⟨rfl,rfl⟩|hb
  ·obtain ⟨x,hx,_⟩:=ha.lo
   obtain ⟨y,hy,_⟩:=hba x hx
   cases hy
  ·have le: ∀ {a b:List (Int×ag)} {h k:ag},nG a h→nG b k→Ee a b→h.Lo≤k.Lo∧k.Hi≤h.Hi:=fun {a b h k} ha hb hab=>by
    obtain ⟨x,hx,ex⟩:=hb.lo
    obtain ⟨z,hz,ez⟩:=hb.hi
    obtain ⟨y,hy,ey⟩:=hab x hx
    obtain ⟨y',hy',ey'⟩:=hab z hz
    have A:=ha.all y hy
    have B:=ha.all y' hy'
    omega
   have A:=le ha hb hab
   have B:=le hb ha hba
   rw [ag.ext_iff]; omega
theorem zP {w:bZ} {b:Nat} {mf mb:List (aK×Int)} {l:List (Int×ag)} {h:ag} (hf:uw mf (fwd w b)) (hb:xe mb (back w (b+1))) (nf:(mf.map (·.1)).Nodup) (nb:(mb.map (·.1)).Nodup)
 (hl: ∀ q∈l,q∈qY w b mf mb) (hl2: ∀ q∈qY w b mf mb,q∈l) (hh:lj l h):h=jw (gp w b):=
 N8 hh (rY fun q hq=>jx hq) (fun x hx=>by
  obtain ⟨q,hq,_,A,B⟩:=Lf hf hb nf nb hx
  exact ⟨q,hl2 q hq,A,B⟩) (fun x hx=>⟨x,Oh hf hb nf nb (hl x hx),Int.le_refl _,Int.le_refl _⟩)
def jX (w:bZ) (m:List (aK×Int)):Bool:=m.any fun p=>lf w p.1
theorem C4 {w:bZ} {b:Nat} {m:List (aK×Int)} (h:uw m (fwd w b)) (nf:(m.map (·.1)).Nodup):jX w m=jX w (fwd w b):=by
 unfold jX
 rw [Bool.eq_iff_iff,List.any_eq_true,List.any_eq_true]
 constructor
 ·rintro ⟨p,hp,A⟩
  exact ⟨p,h.1 _ _ ((gj nf).1 hp),A⟩
 ·rintro ⟨p,hp,A⟩
  obtain ⟨v,hv,_⟩:=h.2 p.1 p.2 hp
  exact ⟨(p.1,v),(gj nf).2 hv,A⟩
def lh (w:bZ) (k:Nat):List Int:=((List.range k).filter fun i=>jX w (fwd w i)).map fun (i:Nat)=>(i:Int)
def iy (w:bZ):List Int:=lh w (w.n+1)
theorem Fg {w:bZ} {k:Nat} (h:jX w (fwd w k)=true):lh w (k+1)=lh w k++[(k:Int)]:=by simp [lh,List.range_succ,h]
theorem Ix {w:bZ} {k:Nat} (h:jX w (fwd w k)=false):lh w (k+1)=lh w k:=by simp [lh,List.range_succ,h]
theorem uk {w:bZ} {k:Nat}:(lh w k).length≤k:=by
 unfold lh
 rw [List.length_map]
 exact Nat.le_trans (List.length_filter_le _ _) sm
end
section
open Go.RowKit
theorem Ia {P:Program} {t:Nat} {k:IntKind} (hu:P.underlying t=some (.int k)) (e:Bool) (n:Nat) (v:Value) (w:World):(Instr.checkKey e (n+1) t v).run P w= .ok () w:=by
 unfold Instr.checkKey
 simp only [Sem.run_bind,run_underlying hu,Result.andThen]
 cases v<;>rfl
theorem AF {P:Program} {kt:Nat} {l:List (Nat×Nat)} (hl:fL P kt=some l) (e:Bool) (n:Nat) (cs:Array Value) (w:World)
 (hf: ∀ p∈l,(∃ v,(part p.1 cs p.2).run P w= .ok v w)∧ ∃ k,P.underlying p.1=some (.int k)):(Instr.checkKey e (n+2) kt (.agg cs)).run P w= .ok () w:=by
 unfold fL at hl
 cases hu:P.underlying kt with
 |none=>simp [hu] at hl
 |some d=>
  cases d<;>simp [hu] at hl
  rename_i fs
  obtain ⟨hn,hl⟩:=hl
  rw [show n+2=(n+1)+1 from rfl,Instr.checkKey]
  simp only [Sem.run_bind,run_underlying hu,Result.andThen_ok]
  rw [← Array.forIn_toList]
  have A: ∀ f∈fs.toList,(∃ v,(part f.type cs f.offset).run P w= .ok v w)∧ ∃ k,P.underlying f.type=some (.int k):=fun f hf'=>hf (f.type,f.offset) (by rw [← hl]; exact cp.2 ⟨f,hf',rfl⟩)
  have B: ∀ f∈fs.toList,f.name≠"_":=fun f hf'=>by
   obtain ⟨i,hi,rfl⟩:=List.getElem_of_mem hf'
   exact hn.1.1 i (by simpa using hi)
  clear hl hn hf
  generalize fs.toList=L at A B
  induction L with
  |nil=>simp
  |cons f L ih=>
   obtain ⟨⟨v,hv⟩,k,hk⟩:=A f sm
   have C:=B f sm
   simp only [List.forIn_cons,Sem.run_bind,C,ne_eq,not_false_eq_true,if_true,Result.andThen_ok,hv,Ia hk,Sem.run_pure]
   exact ih (fun y hy=>A y (by simp [hy])) (fun y hy=>B y (by simp [hy]))
theorem DR {P:Program} {kt:Nat} {K:Type} [DecidableEq K] {kV:K→Value} (hw: ∀ (k:Value) (es:List MapEntry) (w:World),(Instr.findKey kt k es).run P w=(Instr.findAsking kt k es).run P w)
 (heq: ∀ x y w,(Op.equal kt (kV x) (kV y)).run P w= .ok (decide (x=y)) w) (inj: ∀ x y,kV x=kV y→x=y) (x:K) (w:World) (es:List MapEntry) (hk: ∀ e∈es,∃ k,e.key=kV k):
 ((Instr.findKey kt (kV x) es).run P w= .ok none w∧ ∀ e∈es,e.key≠kV x)∨ ∃ j e,(Instr.findKey kt (kV x) es).run P w= .ok (some (j,e.val)) w∧es[j]? =some e∧e.key=kV x:=by
 have key: ∀ (es:List MapEntry) (i:Nat),(∀ e∈es,∃ k,e.key=kV k)→((Instr.findAsking kt (kV x) es i).run P w= .ok none w∧ ∀ e∈es,e.key≠kV x)∨ ∃ j e,(Instr.findAsking kt (kV x) es i).run P w= .ok (some (i+j,e.val)) w∧es[j]? =some e∧e.key=kV x:=by
  intro es
  induction es with
  |nil=>intro i _; exact .inl ⟨by simp [Instr.findAsking],sm⟩
  |cons e es ih=>
   intro i B
   obtain ⟨k,A⟩:=B e sm
   by_cases h:x=k
   ·refine .inr ⟨0,e,?_,U,by rw [A,h]⟩
    subst h
    simp [Instr.findAsking,A,heq]
   ·rcases ih (i+1) (fun y hy=>B y (by simp [hy])) with ⟨C,D⟩|⟨j,e',C,D,E⟩
    ·refine .inl ⟨by simp [Instr.findAsking,A,heq,h,C],fun y hy=>?_⟩
     rcases bU.1 hy with rfl|hy
     ·rw [A]; exact fun q=>h (inj _ _ q).symm
     ·exact D y hy
    ·exact .inr ⟨j+1,e',by simp [Instr.findAsking,A,heq,h,C]; omega,by simpa using D,E⟩
 rw [hw]
 rcases key es 0 hk with h|⟨j,e,C,D,E⟩
 ·exact .inl h
 ·exact .inr ⟨j,e,by simpa using C,D,E⟩
theorem EC {P:Program} {kt:Nat} {l:List (Nat×Nat)} (hl:fL P kt=some l) (k:Value) (es:List MapEntry) (w:World):(Instr.findKey kt k es).run P w=(Instr.findAsking kt k es).run P w:=by
 refine run_findKey_eq w ?_ k es
 unfold fL at hl
 cases hu:P.underlying kt with
 |none=>simp [hu] at hl
 |some d=>cases d<;>simp [hu] at hl ⊢
theorem OJ {P:Program} {kt:Nat} {K:Type} [DecidableEq K] {kV:K→Value} {l:List (Nat×Nat)} (hl:fL P kt=some l) (heq: ∀ x y w,(Op.equal kt (kV x) (kV y)).run P w= .ok (decide (x=y)) w) (inj: ∀ x y,kV x=kV y→x=y)
 (hb: ∀ x,Instr.sameBits 10000 (kV x) (kV x)=true) (hp: ∀ x w,∃ cs,kV x= .agg cs∧ ∀ p∈l,(∃ v,(part p.1 cs p.2).run P w= .ok v w)∧ ∃ k,P.underlying p.1=some (.int k)):wj P kt kV:=
 ⟨fun e x w=>by obtain ⟨cs,A,B⟩:=hp x w; rw [A]; exact AF hl e 9998 cs w B,fun x w es=>DR (EC hl) heq inj x w es,hb,inj⟩
end
section
open Go.RowKit
set_option linter.unusedSectionVars false
theorem jg {P:Program} {kt:Nat} (hk:P.underlying kt=some (.int .i64)):wj P kt (Value.int .i64):=by
 refine ⟨fun e x w=>IT hk e,fun x w es A=>?_,fun x=>by simp [Instr.sameBits],fun x y h=>by injection h⟩
 have key: ∀ (es:List MapEntry) (i:Nat),(∀ e∈es,∃ k:Int,e.key= .int .i64 k)→(Instr.findNow (.int .i64) (.int .i64 x) es i=some none∧ ∀ e∈es,e.key≠ .int .i64 x)∨ ∃ j e,Instr.findNow (.int .i64) (.int .i64 x) es i=some (some (i+j,e.val))∧es[j]? =some e∧e.key= .int .i64 x:=by
  intro es
  induction es with
  |nil=>intro i _; exact .inl ⟨rfl,sm⟩
  |cons e es ih=>
   intro i A
   obtain ⟨k,B⟩:=A e sm
   by_cases h:x=k
   ·subst h
    exact .inr ⟨0,e,by simp [Instr.findNow,Instr.sameNow,B],U,B⟩
   ·have hb:(x==k)=false:=by simpa using h
    rcases ih (i+1) (fun y hy=>A y (by simp [hy])) with ⟨C,D⟩|⟨j,e',C,D,E⟩
    ·refine .inl ⟨by simp [Instr.findNow,Instr.sameNow,B,hb,C],fun y hy=>?_⟩
     rcases bU.1 hy with rfl|hy
     ·rw [B]; intro q; injection q with _ q; exact h q.symm
     ·exact D y hy
    ·refine .inr ⟨j+1,e',?_,by simpa using D,E⟩
     simp only [Instr.findNow,Instr.sameNow,B,hb,if_true,C]
     simp; omega
 rcases key es 0 A with ⟨C,D⟩|⟨j,e,C,D,E⟩
 ·exact .inl ⟨MapKept.run_findKey hk C,D⟩
 ·exact .inr ⟨j,e,MapKept.run_findKey hk (by simpa using C),D,E⟩
theorem St.Ox {S:BS} {w0 w w':World} {C:List aB} {A N:aB} (h:St S w0 C w) (i:Nat) (hA:C[i]? =some A) (k:eg no w w') (hN:N.holds w') (hf: ∀ b,N.fQ b→w.heap.size≤b∨A.fQ b∧ ¬ A.wf b∧ ¬ N.wf b):St S w0 (N::C) w':=by
 have h':=h.same k
 have G:=aQ hA
 have hi:=(aX.1 hA).1
 have B:C[i]=A:=(aX.1 hA).2
 refine ⟨h'.keeps,fun X hX=>?_,List.Pairwise.cons (fun X hX b hb hb'=>?_) h'.sep,fun X hX b hb=>?_,fun X hX b hb=>?_⟩
 ·rcases bU.1 hX with rfl|hX
  ·exact hN
  ·exact h'.holds X hX
 ·rcases hf b hb with E|⟨E,AA,H⟩
  ·have:=X.lt w (h.holds X hX) b hb'; omega
  ·refine ⟨H,?_⟩
   obtain ⟨j,hj,D⟩:=List.mem_iff_getElem.1 hX
   by_cases e:j=i
   ·subst e; rw [← D,B]; exact AA
   ·rcases Nat.lt_or_gt_of_ne e with F|F
    ·have:=fg.1 h.sep j i hj hi F b (by rw [D]; exact hb') (by rw [B]; exact E)
     rw [← D]; exact this.1
    ·have:=fg.1 h.sep i j hi hj F b (by rw [B]; exact E) (by rw [D]; exact hb')
     rw [← D]; exact this.2
 ·rcases bU.1 hX with rfl|hX
  ·rcases hf b (X.ld b hb) with E|⟨_,_,H⟩
   ·exact .inl (Nat.le_trans h.keeps.size E)
   ·exact absurd hb H
  ·exact h'.own X hX b hb
 ·rcases bU.1 hX with rfl|hX
  ·rcases hf b hb with E|⟨E,_,_⟩
   ·exact .inl (Nat.le_trans h.keeps.size E)
   ·exact h.seen A G b E
  ·exact h'.seen X hX b hb
section
variable {K:Type} [DecidableEq K] {kV:K→Value}
/-- an iterator over a map that is read alone -/
def D9 (kV:K→Value) (r b:Nat) (m left:List (K×Value)) (cur:Option (K×Value)):aB where
 fQ k:=k=r∨k=b
 wf k:=k=r
 holds w:=r≠b∧ ∃ (es:Array MapEntry) (c since:Nat) (seen:Array Nat) (st:Nat),w.heap[b]? =some (.map es c)∧jP kV es c m∧w.heap[r]? =some (.mapIter (some b) since seen st)∧(∀ e∈es.toList,e.born<since)∧since≤st∧since≤c∧
  (leftOf es seen).toList.map (fun (e:MapEntry)=>(e.key,e.val))=left.map (fun p=>(kV p.1,p.2))∧
  ∀ p,cur=some p→ ∃ (e:MapEntry) (seen0:Array Nat),e∈es.toList∧seen=seen0.push e.born∧st=c∧e.key=kV p.1∧e.val=p.2
 wr:=false
 ld _ h:= .inl h
 whole h:=by cases h
 lt w h k hk:=by
  obtain ⟨_,es,c,since,seen,st,h1,_,h2,_⟩:=h
  rcases hk with rfl|rfl
  ·exact ed h2
  ·exact ed h1
 pD w w' hk h:=by
  obtain ⟨hne,es,c,since,seen,st,h1,h2,h3,h4⟩:=h
  exact ⟨hne,es,c,since,seen,st,(hk b (.inr rfl)).trans h1,h2,(hk r (.inl rfl)).trans h3,h4⟩
theorem pM {r b:Nat} {m left:List (K×Value)} {cur:Option (K×Value)}:(∀ w,(D9 kV r b m left cur).holds w→(D9 kV r b m left none).holds w)∧(∀ k,(D9 kV r b m left none).fQ k→(D9 kV r b m left cur).fQ k)∧ ∀ k,(D9 kV r b m left none).wf k→(D9 kV r b m left cur).wf k:=
 ⟨fun w h=>by
  obtain ⟨A,es,c,since,seen,st,B,C,D,E,F,h5',G,_⟩:=h
  exact ⟨A,es,c,since,seen,st,B,C,D,E,F,h5',G,fun p hp=>by cases hp⟩,fun _ h=>h,fun _ h=>h⟩
section
variable {E:fG} {ops:Array Oper} {Q:dk} {rest:List Oper} {D:List Deferred} {L:List (Nat×Value)} {C:List aB}
variable {dst:Option Tmp} {d:Nat} {ty:TypeId} {ps:String} {af:Array Edge} {g:Option (Nat×Bool)}
theorem qD {t kt et:TypeId} {xm:Operand} {b:Nat} {m:List (K×Value)} {A:aB} (i:Nat) (hg:kx ops L g=true) (hm:ev L xm=some (.map (some b))) (ht:E.P.underlying t=some (.map kt et)) (hA:C[i]? =some A) (hAf:A.fQ b∧ ¬ A.wf b) (hC:jC C (kQ kV b m).holds) (hd:Nat.blt d E.n=true)
 (k: ∀ r,RJ E ops Q rest D ((d,.pointer (some ⟨r,0,none⟩))::L) (D9 kV r b m m none::C)):RJ E ops Q (⟨some d,.range t xm,ty,ps,af,g⟩::rest) D L C:=by
 intro a w B hs
 have hd':d<E.n:=by rw [← Nat.blt_eq]; exact hd
 unfold tG
 rw [if_pos (eG B hg)]
 obtain ⟨es,c,he,hi⟩:=hs.has hC
 have G:b<w.heap.size:=ed he
 have F:(getObj b).run E.P w= .ok (.map es c) w:=MapKept.run_getObj_map he
 refine ju (v:= .pointer (some ⟨w.heap.size,0,none⟩)) (w':=w.alloc (.mapIter (some b) c #[] c)) sm ?_ ?_
 ·simp [execOp,Instr.range,B.ev hm,run_underlying ht,F,newObj,Sem.run]
 ·refine k _ _ _ (B.put hd' _) (hs.Ox i hA (eg.alloc no w _) ⟨I,es,c,c,#[],c,?_,hi,heap_alloc_new w _,hi.Jr,Nat.le_refl _,Nat.le_refl _,?_,fun p hp=>by cases hp⟩ (fun q hq=>?_))
  ·rw [Below.heap_alloc w _ b G]; exact he
  ·have:leftOf es #[]=es:=by unfold leftOf; exact Array.filter_eq_self.2 sm
   rw [this]; exact hi.list
  ·rcases hq with rfl|rfl
   ·exact .inl (Nat.le_refl _)
   ·refine .inr ⟨hAf.1,hAf.2,fun (e:q=w.heap.size)=>by omega⟩
theorem Ha (hinj: ∀ x y,kV x=kV y→x=y) {xi:Operand} {r b:Nat} {m left:List (K×Value)} {cur:Option (K×Value)} (i:Nat) (hg:kx ops L g=true) (hm:ev L xi=some (.pointer (some ⟨r,0,none⟩))) (hC:C[i]? =some (D9 kV r b m left cur)) (hd:Nat.blt d E.n=true)
 (k0:left=[]→RJ E ops Q rest D ((d,.tuple [.bool false].toArray)::L) C)
 (k1: ∀ x v,(x,v)∈left→(left.map (·.1)).Nodup→RJ E ops Q rest D ((d,.tuple [.bool true,kV x,v].toArray)::L) (C.set i (D9 kV r b m (fH left x) (some (x,v))))):
 RJ E ops Q (⟨some d,.next xi false,ty,ps,af,g⟩::rest) D L C:=by
 intro a w G hs
 have hd':d<E.n:=by rw [← Nat.blt_eq]; exact hd
 unfold tG
 rw [if_pos (eG G hg)]
 obtain ⟨R,es,c,since,seen,st,X,hi,Y,J,V,M,A,_⟩:=hs.holds _ (aQ hC)
 rcases run_next_at (P:=E.P) w ty r b since st seen es c Y X J V with ⟨Z,hr⟩|⟨e,he,N,H,hr⟩
 ·refine ju (v:= .tuple #[.bool false]) (w':=w) sm ?_ ?_
  ·simp [execOp,G.ev hm,hr]
  ·refine k0 ?_ _ _ (G.put hd' _) hs
   have:(leftOf es seen).toList=[]:=by rw [← List.length_eq_zero_iff,Array.length_toList]; exact Z
   rw [this] at A
   exact List.map_eq_nil_iff.1 A.symm
 ·have O:(e.key,e.val)∈left.map (fun p=>(kV p.1,p.2)):=by rw [← A]; exact cp.2 ⟨e,he,rfl⟩
  obtain ⟨p,hp,S⟩:=cp.1 O
  obtain ⟨x,v⟩:=p
  simp only [Prod.mk.injEq] at S
  obtain ⟨hk,hv⟩:=S
  refine ju (v:= .tuple #[.bool true,e.key,e.val]) (w':=ChangeMaps.setBlock N r (.mapIter (some b) since (seen.push e.born) c)) sm ?_ ?_
  ·simp [execOp,G.ev hm,hr]
  ·rw [← hk,← hv]
   have AA:=ze hinj hi A
   have F:e∈es.toList:=by unfold leftOf at he; rw [Array.toList_filter] at he; exact (List.mem_filter.1 he).1
   have f:c=c:=rfl
   have B:N.heap=w.heap:=by rcases H with rfl|rfl<;>rfl
   refine k1 x v hp AA _ _ (G.put hd' _) (hs.mv i hC ⟨⟨R,es,c,since,seen.push e.born,c,?_,hi,?_,J,M,M,?_,fun q hq=>?_⟩,?_,fun q hq=> .inl hq,fun q hq=> .inl hq⟩)
   ·show (N.heap.setIfInBounds r _)[b]? =_
    rw [Array.getElem?_setIfInBounds_ne R,B]; exact X
   ·show (N.heap.setIfInBounds r _)[r]? =_
    rw [Array.getElem?_setIfInBounds_self_of_lt (by rw [B]; exact ed Y)]
   ·have T:leftOf es (seen.push e.born)=(leftOf es seen).filter (fun z=> !(z.born==e.born)):=by
     unfold leftOf
     rw [Array.filter_filter]
     congr 1
     funext z
     simp only [Array.contains_push,Bool.not_or]
     rw [Bool.and_comm]
    rw [T,Array.toList_filter]
    have key: ∀ (l:List MapEntry) (ll:List (K×Value)),(∀ z∈l,z∈es.toList)→l.map (fun (e:MapEntry)=>(e.key,e.val))=ll.map (fun p=>(kV p.1,p.2))→
     (l.filter (fun z=> !(z.born==e.born))).map (fun (e:MapEntry)=>(e.key,e.val))=(fH ll x).map (fun p=>(kV p.1,p.2)):=by
     intro l
     induction l with
     |nil=>intro ll _ h; cases ll with
      |nil=>rfl
      |cons p ll=>simp at h
     |cons z l ih=>
      intro ll hz h
      cases ll with
      |nil=>simp at h
      |cons p ll=>
       simp only [List.map_cons,List.cons.injEq,Prod.mk.injEq] at h
       have ih':=ih ll (fun y hy=>hz y (by simp [hy])) h.2
       have AB:(z.born=e.born)↔(p.1=x):=by
        constructor
        ·intro hb
         have:z=e:=D2 hi.born (hz z sm) F hb
         rw [this] at h
         have:=h.1.1.symm.trans hk.symm
         exact hinj _ _ this
        ·intro hx
         have W:z.key=e.key:=by rw [h.1.1,hx,hk]
         rw [CU hinj hi (hz z sm) F W]
       unfold fH at ih' ⊢
       by_cases hx:p.1=x
       ·rw [List.filter_cons_of_neg (by simp [AB.2 hx]),List.filter_cons_of_neg (by simp [hx])]; exact ih'
       ·rw [List.filter_cons_of_pos (by simpa using fun hb=>hx (AB.1 hb)),List.filter_cons_of_pos (by simpa using hx)]
        simp only [List.map_cons,h.1.1,h.1.2,ih']
    exact key _ _ (fun z hz=>by unfold leftOf at hz; rw [Array.toList_filter] at hz; exact (List.mem_filter.1 hz).1) A
   ·cases hq
    exact ⟨e,seen,F,U,U,hk.symm,hv.symm⟩
   ·refine ⟨?_,?_,?_,?_,fun q hq hn=>?_⟩
    ·rcases H with rfl|rfl<;>rfl
    ·rcases H with rfl|rfl<;>rfl
    ·rcases H with rfl|rfl<;>rfl
    ·show w.heap.size≤(N.heap.setIfInBounds r _).size
     simp [B]
    ·show (N.heap.setIfInBounds r _)[q]? =_
     rw [Array.getElem?_setIfInBounds_ne (fun e=>hn e.symm),B]
theorem pt {xi:Operand} {r b:Nat} {m left:List (K×Value)} {x:K} {v:Value} (i:Nat) (hg:kx ops L g=true) (hm:ev L xi=some (.pointer (some ⟨r,0,none⟩))) (hC:C[i]? =some (D9 kV r b m left (some (x,v)))):
 SD E ops ⟨dst,.entry xi,ty,ps,af,g⟩ D L C (.tuple [kV x,v].toArray):=
 eL hg sm fun a w F hs=>by
  obtain ⟨N,es,c,since,seen,st,J,hi,M,H,O,AA,G,B⟩:=hs.holds _ (aQ hC)
  obtain ⟨e,A,he,rfl,rfl,hk,hv⟩:=B _ rfl
  have:=run_entry_at (P:=E.P) w r b since A es st e M J he hi.born
  simp [execOp,F.ev hm,this,hk,hv]
theorem o9 (hinj: ∀ x y,kV x=kV y→x=y) {β:Type} {f:β→Value} {xi:Operand} {r b:Nat} {m:List (K×Value)} {ll:List (K×β)} {cur:Option (K×Value)} (i:Nat) (hg:kx ops L g=true) (hm:ev L xi=some (.pointer (some ⟨r,0,none⟩))) (hC:C[i]? =some (D9 kV r b m (cT f ll) cur)) (hd:Nat.blt d E.n=true)
 (k0:ll=[]→RJ E ops Q rest D ((d,.tuple [.bool false].toArray)::L) C)
 (k1: ∀ x y,(x,y)∈ll→(ll.map (·.1)).Nodup→RJ E ops Q rest D ((d,.tuple [.bool true,kV x,f y].toArray)::L) (C.set i (D9 kV r b m (cT f (fH ll x)) (some (x,f y))))):
 RJ E ops Q (⟨some d,.next xi false,ty,ps,af,g⟩::rest) D L C:=by
 refine Ha hinj i hg hm hC hd (fun h=>k0 (List.map_eq_nil_iff.1 h)) (fun x v B hn=>?_)
 obtain ⟨p,hp,A⟩:=cp.1 B
 simp only [Prod.mk.injEq] at A
 obtain ⟨rfl,rfl⟩:=A
 have:=k1 p.1 p.2 hp (by simpa [cT,Function.comp_def] using hn)
 rwa [oL] at this
theorem z7 {t kt et:TypeId} {xm xk xv:Operand} {b:Nat} {x:K} {v:Value} {m m':List (K×Value)} {C':List aB} (i:Nat) (hg:kx ops L g=true) (hm:ev L xm=some (.map (some b))) (hk:ev L xk=some (kV x)) (hv:ev L xv=some v)
 (ht:E.P.underlying t=some (.map kt et)) (hkt:wj E.P kt kV) (hC:C[i]? =some (kQ kV b m)) (hm':eA m x v=m') (hC':C.set i (kQ kV b m')=C') (k:RJ E ops Q rest D L C'):
 RJ E ops Q (⟨none,.insert t xm xk xv,ty,ps,af,g⟩::rest) D L C:=by
 subst hm' hC'
 intro a w A hs
 unfold tG
 rw [if_pos (eG A hg)]
 obtain ⟨es,c,he,hi⟩:=hs.holds _ (aQ hC)
 have B:(getObj b).run E.P w= .ok (.map es c) w:=MapKept.run_getObj_map he
 rcases pR (P:=E.P) (w:=w) (x:=x) hkt hi with ⟨AA,F⟩|⟨j,N,AA,F,J⟩
 ·refine te (w':={w with heap:=w.heap.setIfInBounds b (.map (es.push {key:=kV x,val:=v,born:=c}) (c+1))}) sm ?_ ?_
  ·simp [execOp,A.ev hm,A.ev hk,A.ev hv,Instr.mapUpdate,run_underlying ht,B,jE hkt,AA,MapKept.run_setObj_map _ he]
  ·refine k _ _ ⟨A.defers,A.size,A.at_⟩ (hs.Ae (b:=b) i hC U U (nZ _) (fun _ h=>h) ⟨_,_,qi he,?_⟩)
   have:eA m x v=m++[(x,v)]:=by unfold eA; rw [F]; rfl
   rw [this]; exact hi.push F v
 ·have M:=hi.size
  have G:j<es.size:=by have:=(aX.1 F).1; omega
  have H:(es[j]).key=kV x:=by
   have:=congrArg (fun l=>l[j]?) hi.list
   simp [G,F] at this
   exact this.1
  refine te (w':={w with heap:=w.heap.setIfInBounds b (.map (es.modify j fun e=>{e with key:=kV x,val:=v}) c)}) sm ?_ ?_
  ·simp [execOp,A.ev hm,A.ev hk,A.ev hv,Instr.mapUpdate,run_underlying ht,B,jE hkt,AA,MapKept.run_setObj_map _ he,Instr.keyThatStays,G,H,hkt.bits x]
  ·exact k _ _ ⟨A.defers,A.size,A.at_⟩ (hs.Ae (b:=b) i hC U U (nZ _) (fun _ h=>h) ⟨_,_,qi he,hi.set F J v⟩)
end
end
end
section
open Go.RowKit
def WC {σ:Type} (w0:World) (P:Program) (l:Nat) (step:σ→List Value→σ→Prop) (J:σ→aB→Prop) (Z:aB→Prop):Prop:=
 ∀ k x k' A w,step k x k'→J k A→w0.heap.size≤w.heap.size→A.holds w→YieldAt (Fw none) 0 P l x.toArray w fun e w'=>
  (e= .returned (.bool true)∧ ∃ B,J k' B∧Mv A B w w')∨(e= .returned (.bool false)∧ ∃ B,Z B∧Mv A B w w')
def DO {σ:Type} (J:σ→aB→Prop) (Z:aB→Prop) (fin:σ→Prop) (A0:aB) (w0:World) (e:Ending) (w':World):Prop:=
 ∃ v,e= .returned v∧((∃ s B,fin s∧J s B∧Mv A0 B w0 w')∨ ∃ B,Z B∧Mv A0 B w0 w')
structure Om {σ:Type} (P:Program) (f:FuncId) (fi ca:List Value) (Cp:List aB) (s0:σ) (step:σ→List Value→σ→Prop) (fin:σ→Prop):Prop where
 go:tf P f=true
 run: ∀ (l:Nat) (J:σ→aB→Prop) (Z:aB→Prop) (A0:aB) (w:World),WC w P l step J Z→J s0 A0→A0.holds w→(∀ A∈Cp,A.holds w)→(∀ A∈Cp,D6 A0 A.ro)→
  Calls P f (fi++Value.func (.yield l) #[] #[]::ca).toArray w (DO J Z fin A0 w)
theorem Ry {σ:Type} {J:σ→aB→Prop} {Z:aB→Prop} {n:σ} {fin:σ→Prop} {A0 B:aB} {w0 w:World} {C:List aB} {v:Value} (i:Nat) (hC:C[i]? =some B) (hfin:fin n) (hJ:J n B) (hF:Fo A0 w0 B) (hs:St ⟨A0.wf,fun _=>True⟩ w0 C w):DO J Z fin A0 w0 (.returned v) w:=
 ⟨v,rfl,.inl ⟨n,B,hfin,hJ,hs.holds B (aQ hC),hs.keeps,fun b hb=>(hs.own B (aQ hC) b hb).symm,hF⟩⟩
theorem Gt {σ:Type} {J:σ→aB→Prop} {Z:aB→Prop} {fin:σ→Prop} {A0 B:aB} {w0 w:World} {C:List aB} {v:Value} (i:Nat) (hC:C[i]? =some B) (hJ:Z B) (hF:Fo A0 w0 B) (hs:St ⟨A0.wf,fun _=>True⟩ w0 C w):DO J Z fin A0 w0 (.returned v) w:=
 ⟨v,rfl,.inr ⟨B,hJ,hs.holds B (aQ hC),hs.keeps,fun b hb=>(hs.own B (aQ hC) b hb).symm,hF⟩⟩
theorem FZ {σ:Type} {P:Program} {f:FuncId} {fn:Func} {c:Code} {fi ca:List Value} {Cp:List aB} {s0:σ} {step:σ→List Value→σ→Prop} {fin:σ→Prop} (hgo:tf P f=true) (hf:P.funcs[f]? =some fn) (hb:fn.body=some c) (hn:Nat.ble (fi.length+ca.length+1) fn.ntmps=true)
 (h: ∀ (l:Nat) (J:σ→aB→Prop) (Z:aB→Prop) (A0:aB) (w0:World) (Q:dk),WC w0 P l step J Z→J s0 A0→Fo A0 w0 A0→
  (∀ D L C,LJ ⟨P,none,fn.ntmps,⟨A0.wf,fun _=>True⟩,w0⟩ fn (DO J Z fin A0 w0) D L C→KJ ⟨P,none,fn.ntmps,⟨A0.wf,fun _=>True⟩,w0⟩ (Q .ret) D L C)→
  (∀ D L C,LJ ⟨P,none,fn.ntmps,⟨A0.wf,fun _=>True⟩,w0⟩ fn (DO J Z fin A0 w0) D L C→KJ ⟨P,none,fn.ntmps,⟨A0.wf,fun _=>True⟩,w0⟩ (Q .normal) D L C)→
  WJ ⟨P,none,fn.ntmps,⟨A0.wf,fun _=>True⟩,w0⟩ c Q [] (PQ (fi++Value.func (.yield l) #[] #[]::ca)) (A0::Cp.map aB.ro)):Om P f fi ca Cp s0 step fin:=by
 refine ⟨hgo,fun l J Z A0 w hY hJ hA F E=>?_⟩
 refine Bq hf hb (by simpa [Nat.add_assoc] using hn) (h l J Z A0 w · hY hJ (fun b hb=> .inl hb)) ?_
 have G:=rR F
 refine ⟨eg.refl _ _,fun A hA'=>?_,List.Pairwise.cons (fun B hB=>?_) G.sep,fun A hA' b hb=>?_,fun _ _ _ _=> .inr trivial⟩
 ·rcases bU.1 hA' with rfl|hA'
  ·exact hA
  ·exact G.holds A hA'
 ·obtain ⟨B',hB',rfl⟩:=cp.1 hB
  exact E B' hB'
 ·rcases bU.1 hA' with rfl|hA'
  ·exact .inr hb
  ·obtain ⟨B',hB',rfl⟩:=cp.1 hA'
   exact hb.elim
section
variable {E:fG} {ops:Array Oper} {Q:dk} {rest:List Oper} {D:List Deferred} {L:List (Nat×Value)} {C:List aB}
variable {d:Nat} {ty:TypeId} {ps:String} {af:Array Edge} {g:Option (Nat×Bool)}
/-- a call of yield -/
theorem zr {σ:Type} {fop:Operand} {xs:Array Operand} {ts:Array TypeId} {l:Nat} {k k':σ} {vs:List Value} {step:σ→List Value→σ→Prop} {J:σ→aB→Prop} {Z:aB→Prop} {A0 A:aB} {w1:World} (i:Nat) (hw1:w1.heap.size≤E.w0.heap.size) (hY:WC w1 E.P l step J Z) (hJ:J k A) (hF:Fo A0 w1 A) (hg:kx ops L g=true) (hf:ev L fop=some (.func (.yield l) #[] #[]))
 (hx:evs L xs.toList=some vs) (hk:step k vs k') (hC:C[i]? =some A) (hd:Nat.blt d E.n=true)
 (k1: ∀ B,J k' B→Fo A0 w1 B→RJ E ops Q rest D ((d,.bool true)::L) (C.set i B))
 (k2: ∀ B,Z B→Fo A0 w1 B→RJ E ops Q rest D ((d,.bool false)::L) (C.set i B)):
 RJ E ops Q (⟨some d,.call {callee:= .value fop,args:=xs,argTypes:=ts},ty,ps,af,g⟩::rest) D L C:=by
 intro a w F hs
 have hd':d<E.n:=by rw [← Nat.blt_eq]; exact hd
 unfold tG
 rw [if_pos (eG F hg)]
 have K:xs.map a.eval=vs.toArray:=by
  have:=F.evs hx
  apply Array.ext'
  simp [this]
 obtain ⟨fn,tmps,assign,body,hy,hr⟩:=hY k vs k' A w hk hJ (Nat.le_trans hw1 hs.keeps.size) (hs.holds A (aQ hC))
 have H:(execOp a.eval ⟨some d,.call {callee:= .value fop,args:=xs,argTypes:=ts},ty,ps,af,g⟩).run E.P w= .ok (.round l fn tmps assign body) w:=by
  simp [execOp,resolve,F.ev hf,Deferred.ofValue,invoke,K,hy]
 refine ⟨fun _ _=>trivial,?_⟩
 rw [Oper.semAt_eq _ _ _ sm,H]
 refine ⟨fun h=>by simp at h,?_⟩
 have G: ∀ (B:aB) (w':World),Mv A B w w'→Fo A0 w1 B:=fun B w' m b hb=>by
  rcases m.fQ b hb with AA|AA
  ·exact hF b AA
  ·exact .inr (Nat.le_trans hw1 (Nat.le_trans hs.keeps.size AA))
 have hr':RoundIn (Fw E.r) 0 E.P l fn tmps assign body w _:=hr
 refine hr'.mono fun e w' he=>?_
 rcases he with ⟨rfl,B,hB,m⟩|⟨rfl,B,hB,m⟩
 ·exact k1 B hB (G B w' m) _ _ (F.put hd' _) (hs.mv i hC m)
 ·exact k2 B hB (G B w' m) _ _ (F.put hd' _) (hs.mv i hC m)
end
theorem uu {σ:Type} {E:fG} {Q:dk} {D:ik} {L L0:dC} {C F:List aB} {g:Operand} {ps:Array Tmp} {assign body:Code} {f:FuncId} {fi ca:List Value} {Cp:List aB} {s0:σ} {step:σ→List Value→σ→Prop} {fin_:σ→Prop} {ι κ:Type}
 (inv:σ→ι→Prop) (Ci:σ→ι→List aB) (invx:Code→κ→Prop) (Cx:Code→κ→List aB) (isJ isF:List Nat) (y0:ι)
 (hr:E.r=none) (hg:ev L g=some (.func (.func f) fi.toArray ca.toArray)) (hs:Om E.P f fi ca Cp s0 step fin_)
 (hnd:decide (isJ++isF).Nodup=true) (hJ:kv C isJ=Ci s0 y0) (hF:kv C isF=F) (h0:inv s0 y0) (hCp: ∀ A∈Cp,∃ B∈F,JU B A)
 (hps: ∀ k x k',step k x k'→x.length=ps.size) (hpn:ps.toList.all (fun t=>Nat.blt t E.n)=true) (hL:dx L L0)
 (round: ∀ (k:σ) (x:List Value) (k':σ) (y:ι) (l:Nat) (ra rb:Loop) (S:BS) (w0:World) (K:Act→World→Prop) (Qr:dk),E.w0.heap.size≤w0.heap.size→step k x k'→inv k y→
  (∀ L' C',WJ ⟨E.P,some l,E.n,S,w0⟩ body Qr [] L' (jG l (.loop rb)::C')→KJ ⟨E.P,some l,E.n,S,w0⟩ K [] L' (jG l (.loop ra)::C'))→
  (∀ y' L' C',inv k' y'→(∀ w,St S w0 C' w→St S w0 (jG l (.loop rb)::Ci k' y') w)→KJ ⟨E.P,some l,E.n,S,w0⟩ (Qr .normal) [] L' C')→
  (∀ id z L' C',invx (.exit id) z→(∀ w,St S w0 C' w→St S w0 (jG l (.loop rb)::Cx (.exit id) z) w)→KJ ⟨E.P,some l,E.n,S,w0⟩ (Qr (.exit id)) [] L' C')→
  (∀ z L' C',invx .ret z→(∀ w,St S w0 C' w→St S w0 (jG l (.loop rb)::Cx .ret z) w)→KJ ⟨E.P,some l,E.n,S,w0⟩ (Qr .ret) [] L' C')→
  WJ ⟨E.P,some l,E.n,S,w0⟩ assign (Exit.then K (fun _ _ _=>False)) [] (zG ps.toList x L0) (jG l (.loop ra)::Ci k y))
 (fin: ∀ r s y,fin_ s→inv s y→KJ E (Q .normal) (ke r::D) L0 (jG r (.deferred (some []))::(F++Ci s y)))
 (finx: ∀ r id z,invx (.exit id) z→KJ E (Q (.exit id)) (ke r::D) L0 (jG r (.deferred (some []))::(F++Cx (.exit id) z)))
 (finr: ∀ r z,invx .ret z→KJ E (Q .ret) (ke r::D) L0 (jG r (.deferred (some []))::(F++Cx .ret z))):WJ E (.rangeFunc g ps assign body) Q D L C:=by
 intro a w hf q
 refine wpIn_rangeFunc fun fn _=>?_
 show ∃ l ke w₁ d w₁' f args w₂,(Instr.enterLoop fn a.tmps ps assign body E.r).run E.P w= .ok (l,ke) w₁∧_
 rw [hr]
 obtain ⟨rec,G⟩: ∃ rec:LoopState→Option Code→Loop,rec=fun st pe=>{state:=st,pending:=pe,fn,tmps:=a.tmps,params:=ps,assign,body,defers:=w.heap.size}:=⟨_,rfl⟩
 obtain ⟨W1,R⟩: ∃ W1,(w.alloc (.deferred (some []))).alloc (.loop (rec .ready none))=W1:=⟨_,rfl⟩
 have A0:a.eval g= .func (.func f) fi.toArray ca.toArray:=hf.ev hg
 have p:(Instr.enterLoop fn a.tmps ps assign body none).run E.P w= .ok (w.heap.size+1,[ke w.heap.size]) W1:=by
  rw [← R,G]; exact run_enterLoop_outer _ _ _ _ _
 -- the state with the record and the block
 have u:St E.S E.w0 ((jG (w.heap.size+1) (.loop (rec .ready none))::Ci s0 y0)++(jG w.heap.size (.deferred (some []))::F)) W1:=by
  have X:St E.S E.w0 (Ci s0 y0++F) w:=St.kv (isJ++isF) hnd (by have X:=hJ; have j:=hF; unfold Go.Proofs.YtijpnoadncadoaaGreatDoor.kv at X j ⊢; rw [List.filterMap_append,X,j]) q
  have hn:Na w W1 [jG (w.heap.size+1) (.loop (rec .ready none)),jG w.heap.size (.deferred (some []))]:=by
   refine ⟨fun A hA=>?_,fun A hA b hb=>?_,?_⟩
   ·rcases bU.1 hA with rfl|hA
    ·show W1.heap[w.heap.size+1]? =_
     rw [← R]; have:=World.alloc_heap_new (w.alloc (.deferred (some []))) (.loop (rec .ready none)); rwa [World.size_alloc] at this
    ·simp only [ck] at hA; subst hA
     show W1.heap[w.heap.size]? =_
     rw [← R]; exact (Below.heap_alloc _ _ _ sm).trans (World.alloc_heap_new w _)
   ·rcases bU.1 hA with rfl|hA
    ·have:b=w.heap.size+1:=hb
     omega
    ·simp only [ck] at hA; subst hA
     have:b=w.heap.size:=hb
     omega
   ·refine List.Pairwise.cons (fun B hB b X j=>?_) (List.pairwise_singleton _ _)
    simp only [ck] at hB; subst hB
    have V:b=w.heap.size+1:=X
    have O:b=w.heap.size:=j
    omega
  have hk:eg no w W1:=by rw [← R]; exact (eg.alloc no w _).trans (eg.alloc no _ _)
  have j:=X.grow hk hn
  refine j.perm ?_
  simp only [List.cons_append,List.nil_append]
  exact List.Perm.cons _ (List.perm_middle.symm)
 have Y:=u.tied
 obtain ⟨H,A5⟩:=List.pairwise_cons.1 Y.sep
 have AO:=Y.holds _ (cD ..)
 let J:σ→aB→Prop:=fun k A=> ∃ y,inv k y∧A=bK (jG (w.heap.size+1) (.loop (rec .ready none))::Ci k y)
 let Z:aB→Prop:=fun A=> ∃ c z,(c= .ret∨ ∃ id,c= .exit id)∧invx c z∧A=bK (jG (w.heap.size+1) (.loop (rec .done (some c)))::Cx c z)
 refine ⟨w.heap.size+1,[ke w.heap.size],W1,{target:= .fn (.func f) ca.toArray,args:=fi.toArray++ #[.func (.yield (w.heap.size+1)) #[] #[]]},W1,f,
  (fi++Value.func (.yield (w.heap.size+1)) #[] #[]::ca).toArray,W1,p,?_,fun _ _=>trivial,?_,fun h=>by simp at h,?_⟩
 ·simp only [resolve,A0]
  simp [Deferred.ofValue,Act.eval]
 ·have:fi.toArray++ #[Value.func (.yield (w.heap.size+1)) #[] #[]]++ca.toArray=(fi++Value.func (.yield (w.heap.size+1)) #[] #[]::ca).toArray:=by simp
  simp [invoke,nQ hs.go]
 ·refine (qb E.r (hs.run (w.heap.size+1) J Z _ W1 ?_ ⟨y0,h0,U⟩ AO ?_ ?_)).mono ?_
  ·-- a round
   rintro k x k' A W hx ⟨y,hy,rfl⟩ AR hA
   have hl:W.heap[w.heap.size+1]? =some (.loop (rec .ready none)):=hA.1 _ (cD ..)
   have AC:=run_yield (P:=E.P) (args:=x.toArray) hl (by rw [G]; simpa using hps k x k' hx)
   rw [G] at AC
   refine ⟨fn,_,assign,body,AC,roundIn_of_wpIn trivial ?_⟩
   let A:aB:=bK (jG (w.heap.size+1) (.loop (rec .ready none))::Ci k y)
   have A1:Fr E.n [] (zG ps.toList x L0) {tmps:=(ps.zip x.toArray).foldl (fun tmps (t,a)=>tmps.setIfInBounds t a) a.tmps,defers:=[]}:=by
    have X:=EK ps.toList x L0 a.tmps (fun t ht=>by have:=de.1 hpn t ht; rwa [Nat.blt_eq] at this) ⟨rfl,hf.size,fun t v hv=>hf.at_ t v (hL t v hv)⟩
    rw [← Array.foldl_toList]
    simpa using X
   have o: ∀ (c:Option Code) (b:Bool),({rec .busy none with state:=if b then .ready else .done,pending:=c}:Loop)=rec (if b then .ready else .done) c:=fun c b=>by rw [G]
   have T: ∀ (c:Option Code) (N:World) (C':List aB) (S:BS),St S W (jG (w.heap.size+1) (.loop (rec .busy none))::C') N→
    ∃ M,(Instr.endRound (w.heap.size+1) c).run E.P N= .ok (.bool c.isNone) M∧St S W (jG (w.heap.size+1) (.loop (rec (if c.isNone then .ready else .done) c))::C') M:=fun c N C' S H=>by
    have AB:N.heap[w.heap.size+1]? =some (.loop (rec .busy none)):=H.holds _ (cD ..)
    refine ⟨_,run_endRound c AB,?_⟩
    have:=H.Ae (b:=w.heap.size+1) (A':=jG (w.heap.size+1) (.loop (rec (if c.isNone then .ready else .done) c))) 0 rfl rfl rfl (ig _) (fun _ h=>h) (World.putObj_heap_same (ed AB))
    rw [o]
    exact this
   refine round k x k' y (w.heap.size+1) (rec .ready none) (rec .busy none) ⟨A.wf,A.fQ⟩ W _ (roundPost E.P (w.heap.size+1) (fun e w'=>(e= .returned (.bool true)∧ ∃ B,J k' B∧Mv A B W w')∨(e= .returned (.bool false)∧ ∃ B,Z B∧Mv A B W w'))) (Nat.le_trans (Nat.le_trans q.keeps.size (by rw [← R]; simp; omega)) AR) hx hy ?_ ?_ ?_ ?_ _ _ A1 (St.AY hA)
   ·intro L' C' hW a1 N i H
    have AB:N.heap[w.heap.size+1]? =some (.loop (rec .ready none)):=H.holds _ (cD ..)
    refine ⟨_,run_beginRound AB (by rw [G]),hW _ _ i ?_⟩
    have:=H.Ae (b:=w.heap.size+1) (A':=jG (w.heap.size+1) (.loop (rec .busy none))) 0 rfl rfl rfl (ig _) (fun _ h=>h) (World.putObj_heap_same (ed AB))
    have e:({rec .ready none with state:= .busy}:Loop)=rec .busy none:=by rw [G]
    rw [e]; exact this
   ·intro y' L' C' hy' hC' a1 N i H
    obtain ⟨M,V,O⟩:=T none N _ _ (hC' _ H)
    exact ⟨_,M,V,.inl ⟨U,_,⟨y',hy',U⟩,Mv.of O⟩⟩
   ·intro id z L' C' hz hC' a1 N i H
    obtain ⟨M,V,O⟩:=T (some (.exit id)) N _ _ (hC' _ H)
    exact ⟨_,M,V,.inr ⟨U,_,⟨_,z,.inr ⟨id,U⟩,hz,U⟩,Mv.of O⟩⟩
   ·intro z L' C' hz hC' a1 N i H
    obtain ⟨M,V,O⟩:=T (some .ret) N _ _ (hC' _ H)
    exact ⟨_,M,V,.inr ⟨U,_,⟨_,z,.inl U,hz,U⟩,Mv.of O⟩⟩
  ·intro A hA
   obtain ⟨B,hB,hc⟩:=hCp A hA
   exact hc.holds _ (Y.holds B (dU _ (dU _ hB)))
  ·intro A hA b hb hb'
   obtain ⟨B,hB,hc⟩:=hCp A hA
   exact ⟨(H B (dU _ hB) b hb (hc.fQ b hb')).1,fun h=>h⟩
  ·rintro e w' ⟨v,rfl,hh⟩
   have AA:Fr E.n (ke w.heap.size::D) L0 {a with defers:=[ke w.heap.size]++a.defers}:=⟨by simp [hf.defers],hf.size,fun t v hv=>hf.at_ t v (hL t v hv)⟩
   have hleave: ∀ (st:LoopState) (c:Option Code) (C':List aB),st≠ .busy→Mv (bK (jG (w.heap.size+1) (.loop (rec .ready none))::Ci s0 y0)) (bK (jG (w.heap.size+1) (.loop (rec st c))::C')) W1 w'→
    ∃ M,(Instr.endLoop (w.heap.size+1)).run E.P w'= .ok c M∧St E.S E.w0 (jG w.heap.size (.deferred (some []))::(F++C')) M:=fun st c C' A3 m=>by
    have X:=(Y.mv 0 rfl m).je
    have h1':St E.S E.w0 ((jG (w.heap.size+1) (.loop (rec st c))::C')++(jG w.heap.size (.deferred (some []))::F)) w':=X
    have AB:w'.heap[w.heap.size+1]? =some (.loop (rec st c)):=h1'.holds (jG (w.heap.size+1) (.loop (rec st c))) sm
    refine ⟨_,by have:=run_endLoop (P:=E.P) AB (by rw [G]; exact A3); rw [this,G],?_⟩
    have j:=h1'.Ae (b:=w.heap.size+1) (A':=jG (w.heap.size+1) (.loop {rec st c with state:= .exhausted})) 0 rfl rfl rfl (ig _) (fun _ h=>h) (World.putObj_heap_same (ed AB))
    have h3:St E.S E.w0 (C'++(jG w.heap.size (.deferred (some []))::F)) _:=j.take (List.sublist_cons_self _ _)
    rw [G] at h3
    refine h3.perm ?_
    exact (List.perm_append_comm).trans sm
   rcases hh with ⟨s,B,A2,⟨y,hy,rfl⟩,m⟩|⟨B,⟨c,z,hc,hz,rfl⟩,m⟩
   ·obtain ⟨M,V,O⟩:=hleave .ready none _ sm m
    exact ⟨none,M,V,fin w.heap.size s y A2 hy _ _ AA O⟩
   ·obtain ⟨M,V,O⟩:=hleave .done (some c) _ sm m
    refine ⟨some c,M,V,?_⟩
    rcases hc with rfl|⟨id,rfl⟩
    ·exact wpIn_ret (finr w.heap.size z hz _ _ AA O)
    ·exact wpIn_exit (finx w.heap.size id z hz _ _ AA O)
end
section
open Go.RowKit
/-- where a row lies, and its capacity -/
abbrev RA:=OA×Nat
/-- what is asked of memory by all elements -/
def a_ {M A:Type} (f:M→A→List aB):List M→List A→List aB
 |m::ms,a::asl=>f m a++a_ f ms asl
 |_,_=>[]
theorem bT {M A:Type} {f:M→A→List aB}: ∀ {ms:List M} {asl:List A} {k:Nat} {m:M} {a:A} {X:aB},ms[k]? =some m→asl[k]? =some a→X∈f m a→X∈a_ f ms asl
 |[],_,k,m,a,X,h,_,_=>by simp at h
 |_::_,[],k,m,a,X,_,h,_=>by simp at h
 |x::ms,y::asl,0,m,a,X,h,h2,hX=>by
  simp at h h2; subst h h2
  exact List.mem_append_left _ hX
 |x::ms,y::asl,k+1,m,a,X,h,h2,hX=>List.mem_append_right _ (bT (ms:=ms) (asl:=asl) (k:=k) (by simpa using h) (by simpa using h2) hX)
theorem ky {M A:Type} {f:M→A→List aB}: ∀ {ms:List M} {asl:List A} {X:aB},X∈a_ f ms asl→ ∃ (k:Nat) (m:M) (a:A),ms[k]? =some m∧asl[k]? =some a∧X∈f m a
 |[],_,X,h=>by cases h
 |_::_,[],X,h=>by cases h
 |x::ms,y::asl,X,h=>by
  rcases g9.1 h with h|h
  ·exact ⟨0,x,y,U,U,h⟩
  ·obtain ⟨k,m,a,B,C,D⟩:=ky h
   exact ⟨k+1,m,a,by simpa using B,by simpa using C,D⟩
theorem jU {M A:Type} {f:M→A→List aB}: ∀ {ms:List M} {asl:List A} {ns:List M} {bs:List A},ms.length=asl.length→a_ f (ms++ns) (asl++bs)=a_ f ms asl++a_ f ns bs
 |[],[],ns,bs,_=>rfl
 |[],_::_,ns,bs,h=>by simp at h
 |_::_,[],ns,bs,h=>by simp at h
 |x::ms,y::asl,ns,bs,h=>by
  simp only [List.cons_append,a_,List.append_assoc]
  rw [jU (by simpa using h)]
theorem dH {M A β:Type} {f:M→A→β} {ms:List M} {asl:List A} {k:Nat} {m:M} {a:A} (h:ms[k]? =some m) (h2:asl[k]? =some a):(List.zipWith f ms asl)[k]? =some (f m a):=by
 rw [List.getElem?_zipWith,h,h2]
theorem cW {C L:List aB} {A:aB} (i:Nat) (hC:C[i]? =some (dV L).ro) (hm:A∈L):jC C A.holds:=fun w hw=>hw _ (aQ hC) A hm
theorem e7 {M A:Type} {f g:M→A→List aB} {ms:List M} {asl:List A} {C:List aB} (i:Nat) (hC:C[i]? =some (bK (a_ g ms asl))) (h: ∀ m a w,(∀ X∈g m a,X.holds w)→ ∀ X∈f m a,X.holds w):jC C (dV (a_ f ms asl)).holds:=fun w hw X hX=>by
 have hb:=hw _ (aQ hC)
 obtain ⟨k,m,a,B,D,E⟩:=ky hX
 exact h m a w (fun Y hY=>hb.1 Y (bT B D hY)) X E
/-- a row that is part of another one -/
theorem NU {C:List aB} {A:OA} {n k sz:Nat} {es:List (List Value)} (hR:jC C (rd A n sz es).holds) (hk:k≤n):jC C (rd A k sz (es.take k)).holds:=fun w hw=>by
 obtain ⟨D,E,F⟩:=hR w hw
 refine ⟨by rw [List.length_take,D]; omega,fun x hx=>E x (List.mem_of_mem_take hx),fun hp=>?_⟩
 have G:0<k:=Nat.pos_of_mul_pos_right hp
 have hs:0<sz:=Nat.pos_of_mul_pos_left hp
 obtain ⟨ad,hA,B⟩:=F (Nat.mul_pos I hs)
 refine ⟨ad,hA,fun i e j v he hv=>B i e j v ?_ hv⟩
 rw [List.getElem?_take] at he
 split at he
 ·exact he
 ·cases he
section
variable {E:fG} {ops:Array Oper} {Q:dk} {rest:List Oper} {D:List Deferred} {L:List (Nat×Value)} {C:List aB}
variable {d:Nat} {ty:TypeId} {ps:String} {af:Array Edge} {g:Option (Nat×Bool)}
/-- an element of a slice that is the head of a row -/
theorem XM (k:Nat) {x ix:Operand} {A:OA} {n n' c sz e t:Nat} {es:List (List Value)} {j:Int} (h:bF E.n ops L d g x ix=some (.slice A n' c,.int .i64 j)) (hR:jC C (rd A n sz es).holds)
 (ht:tE E.P t=some (e,sz)) (hz:0<sz) (hj:j=(k:Int)) (hk:k<n') (hn:n'≤n):SE E ops ⟨some d,.indexAddr t x ix,ty,ps,af,g⟩ D L C (.pointer (mX A (k*sz))) d:=IA k h (NU hR hn) ht hz hj hk
end
theorem St.tie {S:BS} {w0 w:World} {C:List aB} {A:aB} {L L':List aB} (h:St S w0 (A::bK L::C) w) (e:L++[A]=L'):St S w0 (bK L'::C) w:=by
 subst e
 have B:St S w0 (bK L::A::C) w:=h.perm (List.Perm.swap _ _ _)
 have D:St S w0 (L++(A::C)) w:=B.je
 have E:St S w0 ((L++[A])++C) w:=by simpa using D
 exact E.tied
theorem St.QH {S:BS} {w0 w:World} {C:List aB} (h:St S w0 C w):St S w0 (bK []::C) w:=St.tied (C1:=[]) h
section
variable {E:fG} {Q:dk} {D:List Deferred} {L:List (Nat×Value)} {C:List aB}
theorem oM {c:Code} (h:WJ E c Q D L (bK []::C)):WJ E c Q D L C:=fun a w hf hs=>h a w hf hs.QH
theorem yf {ops:Array Oper} {rest:List Oper} (h:RJ E ops Q rest D L (bK []::C)):RJ E ops Q rest D L C:=fun a w hf hs=>h a w hf hs.QH
theorem y7 {K:Act→World→Prop} {C1:List aB} {A:aB} {X X':List aB} (i j:Nat) (hn:decide (j::i::(List.range C.length).filter fun k=>k != i&&k != j).Nodup=true) (hC:kv C (j::i::(List.range C.length).filter fun k=>k != i&&k != j)=A::bK X::C1) (e:X++[A]=X')
 (h:KJ E K D L (bK X'::C1)):KJ E K D L C:=fun a w hf hs=>h a w hf ((St.kv _ hn hC hs).tie e)
theorem PA {ops:Array Oper} {rest:List Oper} {C1:List aB} {A:aB} {X X':List aB} (i j:Nat) (hn:decide (j::i::(List.range C.length).filter fun k=>k != i&&k != j).Nodup=true) (hC:kv C (j::i::(List.range C.length).filter fun k=>k != i&&k != j)=A::bK X::C1) (e:X++[A]=X')
 (h:RJ E ops Q rest D L (bK X'::C1)):RJ E ops Q rest D L C:=fun a w hf hs=>h a w hf ((St.kv _ hn hC hs).tie e)
end
end
section
open Go.RowKit
abbrev kl:ag→Value:=fun s=>vA (ag.cells s)
abbrev eI:aK→Value:=fun s=>vA (aK.cells s)
abbrev TM:=List (Int×ag)
abbrev FM:=List (aK×Int)
def gR {α:Type} (m:α) (b:Nat):List Value:=[Value.map (some b)]
def qp (m:TM) (b:Nat):List aB:=[kQ iV b (cT kl m)]
def nM (m:FM) (b:Nat):List aB:=[kQ eI b (cT iV m)]
theorem mu {M A:Type} {f:M→A→List aB}: ∀ (m:M) (a:A) (w:World),(∀ X∈f m a,X.holds w)→ ∀ X∈f m a,X.holds w:=fun _ _ _ h=>h
/-- untied -/
theorem GM {E:fG} {ops:Array Oper} {Q:dk} {rest:List Oper} {D:ik} {L:dC} {C X C1:List aB} (i:Nat) (hn:decide (i::(List.range C.length).filter fun k=>k != i).Nodup=true) (hC:kv C (i::(List.range C.length).filter fun k=>k != i)=bK X::C1)
 (h:RJ E ops Q rest D L (X++C1)):RJ E ops Q rest D L C:=fun a w hf hs=>h a w hf (St.je (St.kv _ hn hC hs))
end
section
def cU (ln:cw) (rd:cM) (e:List Int) (tms:List TM):bZ:=⟨rd.Start,rd.fI,e,tms,ln.dE,ln.fT,(rd.aa.n:Int)⟩
def P0 (o:Int×ag):List Value:=[.int .i64 o.1,.agg (ag.cells o.2).toArray]
structure HU (w:bZ):Prop where
 n:w.n≤6
 times:w.wX.length=w.n
 now:0≤w.Start∧w.Start≤w.fI∧w.fI≤86400000
 least: ∀ x∈w.qe,1≤x∧x≤500000000
 Gq: ∀ t∈w.wX,∀ p∈t,(0≤p.1∧p.1≤10)∧0≤p.2.Lo∧p.2.Lo≤p.2.Hi∧p.2.Hi≤86400000
theorem HU.opt {w:bZ} (h:HU w) {b:Nat} {o:Int×ag} (ho:o∈jl w b):(-1≤o.1∧o.1≤10)∧0≤o.2.Lo∧o.2.Lo≤o.2.Hi∧o.2.Hi≤86400000:=by
 unfold jl vg at ho
 rcases bU.1 ho with rfl|ho
 ·have:=h.now; simp only; omega
 ·cases ht:w.wX[b]? with
  |none=>simp [ht] at ho
  |some t=>
   rw [ht] at ho
   have:=h.Gq t (aQ ht) o ho
   omega
theorem HU.bW {w:bZ} (h:HU w) (b:Nat):0≤bW w b∧bW w b≤500000000:=by
 unfold Go.Proofs.YtijpnoadncadoaaGreatDoor.bW
 cases ht:w.qe[b]? with
 |none=>simp
 |some x=>have:=h.least x (aQ ht); simp only [Option.getD_some]; omega
theorem wk (s:Int):(0≤(fV s).right∧0≤(fV s).fp)∧(fV s).right+(fV s).fp=1:=by unfold fV; split<;>simp
theorem Kl {w:bZ} (h:HU w): ∀ (b:Nat) p,p∈fwd w b→(0≤p.2∧p.2≤86400000)∧(0≤p.1.right∧0≤p.1.fp)∧p.1.right+p.1.fp=(b:Int):=by
 intro b
 induction b with
 |zero=>
  intro p hp
  simp only [fwd,ck] at hp
  subst hp
  have:=h.now; simp only; omega
 |succ b ih=>
  intro q hq
  obtain ⟨p,hp,o,ho,e⟩:=gH.1 hq
  have A:=ih p hp
  have B:=h.opt ho
  have C:=h.bW b
  have D:=h.now
  have E:=wk o.1
  unfold lK at e
  split at e
  ·simp only [Option.some.injEq] at e
   subst e
   simp only [dK]
   omega
  ·cases e
theorem TI {w:bZ} (h:HU w): ∀ (k:Nat) p,p∈bwd w k→(-(500000000*(k:Int))≤p.2∧p.2≤86400000)∧(0≤p.1.right∧0≤p.1.fp)∧p.1.right+p.1.fp≤(k:Int):=by
 intro k
 induction k with
 |zero=>
  intro p hp
  simp only [bwd,ck] at hp
  subst hp
  have:=h.now; simp only; omega
 |succ k ih=>
  intro q hq
  simp only [bwd,bU,List.mem_flatMap,List.mem_filterMap] at hq
  rcases hq with rfl|⟨p,hp,o,ho,e⟩
  ·have:=h.now; simp only; omega
  ·have A:=ih p hp
   have B:=h.opt ho
   have C:=h.bW (w.n-(k+1))
   have D:=h.now
   have E:=wk o.1
   unfold oU at e
   split at e
   ·simp only [Option.some.injEq] at e
    subst e
    simp only [dK]
    omega
   ·cases e
theorem Ly {w:bZ} (h:HU w) {b:Nat} {p:aK×Int} (hp:p∈back w b):(-3000000000≤p.2∧p.2≤86400000)∧(0≤p.1.right∧0≤p.1.fp)∧p.1.right+p.1.fp≤6:=by
 have:=TI h _ _ hp
 have:=h.n
 omega
theorem zg {w:bZ} {b:Nat} {t:TM} (ht:w.wX[b]? =some t) {o:Int×ag}:o∈jl w b↔o=(-1,⟨w.Start,w.fI⟩)∨o∈t:=by
 unfold jl vg; rw [ht]; simp
theorem mQ {K β:Type} [DecidableEq K] {l:List (K×β)} {x:K} {y:β} (hn:(l.map (·.1)).Nodup) (hm:(x,y)∈l) {o:K×β} (h:o∈l):o∈fH l x∨o=(x,y):=by
 by_cases e:o.1=x
 ·right
  obtain ⟨k,v⟩:=o
  simp only at e
  subst e
  have B:=(lW hn).1 h
  have A:=(lW hn).1 hm
  rw [B] at A
  cases A; rfl
 ·exact .inl (Ab.2 ⟨h,e⟩)
theorem H_ {K β:Type} [DecidableEq K] {t l ys:List (K×β)} {x:K} {y:β} (hn:(l.map (·.1)).Nodup) (hm:(x,y)∈l) (h: ∀ o∈t,o∈l∨o∈ys): ∀ o∈t,o∈fH l x∨o∈ys++[(x,y)]:=fun o ho=>by
 rcases h o ho with h|h
 ·rcases mQ hn hm h with h|h
  ·exact .inl h
  ·exact .inr (by simp [h])
 ·exact .inr (by simp [h])
theorem nc {K β:Type} [DecidableEq K] {t l:List (K×β)} {x:K} (h: ∀ o∈l,o∈t): ∀ o∈fH l x,o∈t:=fun o ho=>h o (Ab.1 ho).1
theorem M1 {w:bZ} {m left:List (aK×Int)} (h: ∀ p∈m,p∈left∨lf w p.1=false) (h0:left=[]):jX w m=false:=by
 unfold jX
 rw [List.any_eq_false]
 intro p hp
 rcases h p hp with q|q
 ·rw [h0] at q; cases q
 ·simp [q]
theorem Pc {w:bZ} {m:List (aK×Int)} {p:aK×Int} (hp:p∈m) (h:lf w p.1=true):jX w m=true:=List.any_eq_true.2 ⟨p,hp,h⟩
theorem Lp {w:bZ} {m left:List (aK×Int)} {t:aK} {v:Int} (hn:(left.map (·.1)).Nodup) (hm:(t,v)∈left) (h: ∀ p∈m,p∈left∨lf w p.1=false) (hf:lf w t=false): ∀ p∈m,p∈fH left t∨lf w p.1=false:=fun p hp=>by
 rcases h p hp with q|q
 ·rcases mQ hn hm q with q|q
  ·exact .inl q
  ·right; rw [q]; exact hf
 ·exact .inr q
/-- what the maps of a watch are -/
structure xj (w:bZ) (fs:List (List (aK×Int))):Prop where
 len:fs.length=w.n+1
 min: ∀ (b:Nat) m,fs[b]? =some m→uw m (fwd w b)
 keys: ∀ (b:Nat) m,fs[b]? =some m→(m.map (·.1)).Nodup
structure ua (w:bZ) (bs:List (List (aK×Int))):Prop where
 len:bs.length=w.n+1
 max: ∀ (b:Nat) m,bs[b]? =some m→xe m (back w b)
 keys: ∀ (b:Nat) m,bs[b]? =some m→(m.map (·.1)).Nodup
theorem xj.mem {w:bZ} {fs:List (List (aK×Int))} (h:xj w fs) {b:Nat} {m:List (aK×Int)} (hm:fs[b]? =some m) {p:aK×Int} (hp:p∈m):p∈fwd w b:=(h.min b m hm).1 _ _ ((gj (h.keys b m hm)).1 hp)
theorem ua.mem {w:bZ} {fs:List (List (aK×Int))} (h:ua w fs) {b:Nat} {m:List (aK×Int)} (hm:fs[b]? =some m) {p:aK×Int} (hp:p∈m):p∈back w b:=(h.max b m hm).1 _ _ ((gj (h.keys b m hm)).1 hp)
theorem IN {w:bZ} {b:Nat} {t l ys:List (Int×ag)} (ht:w.wX[b]? =some t) (h: ∀ o∈t,o∈l∨o∈ys) (h0:l=[]) (hs:(-1,(⟨w.Start,w.fI⟩:ag))∈ys): ∀ o∈jl w b,o∈ys:=fun o ho=>by
 rcases (zg ht).1 ho with rfl|ho
 ·exact hs
 ·rcases h o ho with q|q
  ·rw [h0] at q; cases q
  ·exact q
end
section
/-- by these options all is yielded -/
def mC (w:bZ) (b:Nat) (mf mb:List (aK×Int)) (os ys:List (Int×ag)):Prop:= ∀ o∈os,∀ p∈mf,∀ u∈mb,∀ q,nz w b p u o=some q→q∈ys
def ox (w:bZ) (b:Nat) (mf mb:List (aK×Int)) (o:Int×ag) (left:List (aK×Int)) (ys:List (Int×ag)):Prop:= ∀ p∈mf,p∈left∨ ∀ u∈mb,∀ q,nz w b p u o=some q→q∈ys
def oz (w:bZ) (b:Nat) (mb:List (aK×Int)) (o:Int×ag) (p:aK×Int) (left:List (aK×Int)) (ys:List (Int×ag)):Prop:= ∀ u∈mb,u∈left∨ ∀ q,nz w b p u o=some q→q∈ys
variable {w:bZ} {b:Nat} {mf mb left:List (aK×Int)} {o x:Int×ag} {os ys:List (Int×ag)} {p u:aK×Int}
theorem mC.nil:mC w b mf mb [] ys:=fun o ho=>by cases ho
theorem mC.app (h:mC w b mf mb os ys):mC w b mf mb os (ys++[x]):=fun o ho p hp u hu q e=>List.mem_append_left _ (h o ho p hp u hu q e)
theorem ox.app (h:ox w b mf mb o left ys):ox w b mf mb o left (ys++[x]):=fun p hp=>(h p hp).imp id fun h u hu q e=>List.mem_append_left _ (h u hu q e)
theorem ox.start:ox w b mf mb o mf ys:=fun p hp=> .inl hp
theorem oz.start:oz w b mb o p mb ys:=fun p hp=> .inl hp
theorem oz.skip {t:aK} {v:Int} (hn:(left.map (·.1)).Nodup) (hm:(t,v)∈left) (h:oz w b mb o p left ys) (he:nz w b p (t,v) o=none):oz w b mb o p (fH left t) ys:=fun u hu=>by
 rcases h u hu with q|q
 ·rcases mQ hn hm q with q|q
  ·exact .inl q
  ·right; intro z hz; rw [q,he] at hz; cases hz
 ·exact .inr q
theorem oz.Vs {t:aK} {v:Int} (hn:(left.map (·.1)).Nodup) (hm:(t,v)∈left) (h:oz w b mb o p left ys) (he:nz w b p (t,v) o=some x):oz w b mb o p (fH left t) (ys++[x]):=fun u hu=>by
 rcases h u hu with q|q
 ·rcases mQ hn hm q with q|q
  ·exact .inl q
  ·right; intro z hz; rw [q,he] at hz; cases hz; simp
 ·right; intro z hz; exact List.mem_append_left _ (q z hz)
theorem ox.next {t:aK} {v:Int} {l2:List (aK×Int)} (hn:(left.map (·.1)).Nodup) (hm:(t,v)∈left) (h:ox w b mf mb o left ys) (hq:oz w b mb o (t,v) l2 ys) (h0:l2=[]):ox w b mf mb o (fH left t) ys:=fun p hp=>by
 rcases h p hp with q|q
 ·rcases mQ hn hm q with q|q
  ·exact .inl q
  ·right; intro u hu z hz; subst q
   rcases hq u hu with q|q
   ·rw [h0] at q; cases q
   ·exact q z hz
 ·exact .inr q
theorem mC.next (h:mC w b mf mb os ys) (hp:ox w b mf mb o left ys) (h0:left=[]):mC w b mf mb (os++[o]) ys:=fun o' ho p hp' u hu q e=>by
 rcases g9.1 ho with ho|ho
 ·exact h o' ho p hp' u hu q e
 ·simp only [ck] at ho; subst ho
  rcases hp p hp' with z|z
  ·rw [h0] at z; cases z
  ·exact z u hu q e
theorem mC.fin (h:mC w b mf mb os ys) (ho: ∀ o∈jl w b,o∈os): ∀ q∈qY w b mf mb,q∈ys:=fun q hq=>by
 obtain ⟨o,A,p,B,u,C,e⟩:=ja.1 hq
 exact h o (ho o A) p B u C q e
theorem Il (h:max (p.2+bW w b) o.2.Lo≤min u.2 o.2.Hi) (h2:lf w (dK (dK p.1 u.1) (fV o.1))=true):nz w b p u o=some (o.1,⟨max (p.2+bW w b) o.2.Lo,min u.2 o.2.Hi⟩):=by
 unfold nz j7 yY; rw [if_pos ⟨h,h2⟩]
theorem Kw (h: ¬ max (p.2+bW w b) o.2.Lo≤min u.2 o.2.Hi):nz w b p u o=none:=by
 unfold nz j7; rw [if_neg (fun q=>h q.1)]
theorem Hw (h2:lf w (dK (dK p.1 u.1) (fV o.1))=false):nz w b p u o=none:=by
 unfold nz yY; rw [if_neg (fun q=>by rw [h2] at q; exact absurd q.2 dc)]
theorem oD {v:Int} (h:w.qe[b]? =some v):bW w b=v:=by unfold bW; rw [h]; rfl
theorem Dp {t q:aK} {v z y:Int} (hy:w.qe[b]? =some y) (h:max (v+y) o.2.Lo≤min z o.2.Hi) (h2:lf w (dK (dK t q) (fV o.1))=true):nz w b (t,v) (q,z) o=some (o.1,⟨max (v+y) o.2.Lo,min z o.2.Hi⟩):=by
 have e:=oD hy
 subst e
 exact Il h h2
theorem Iy {t q:aK} {v z y:Int} (hy:w.qe[b]? =some y) (h: ¬ max (v+y) o.2.Lo≤min z o.2.Hi):nz w b (t,v) (q,z) o=none:=by
 have e:=oD hy
 subst e
 exact Kw h
theorem o4 {m:List (aK×Int)} {k:aK} {y:Int} (h:(m.map (·.1)).Nodup):((eA m k y).map (·.1)).Nodup:=by
 unfold eA
 by_cases hx:(m.lookup k).isSome
 ·rw [if_pos hx,List.map_map]
  have e:m.map ((fun p=>p.1)∘fun p=>if p.1=k then (k,y) else p)=m.map (·.1):=by
   apply List.map_congr_left
   intro p _
   simp only [Function.comp]
   split
   ·rename_i e; exact e.symm
   ·rfl
  rw [e]; exact h
 ·rw [if_neg hx,List.map_append,List.nodup_append]
  refine ⟨h,sm,?_⟩
  intro a ha c hc
  simp only [List.map_cons,List.map_nil,ck] at hc
  rw [hc]
  obtain ⟨p,hp,rfl⟩:=cp.1 ha
  have hn:m.lookup k=none:=by cases h0:m.lookup k with
   |none=>rfl
   |some v=>exact absurd (by rw [h0]; rfl) hx
  exact ij.1 hn p hp
theorem BX {m:List (aK×Int)} {q:aK×Int} (h:(m.map (·.1)).Nodup):((qg m q).map (·.1)).Nodup:=by
 unfold qg; split
 ·exact o4 h
 ·split
  ·exact o4 h
  ·exact h
theorem CS {m:List (aK×Int)} {q:aK×Int} (h:(m.map (·.1)).Nodup):((qf m q).map (·.1)).Nodup:=by
 unfold qf; split
 ·exact o4 h
 ·split
  ·exact o4 h
  ·exact h
/-- a map of the first times, on its way -/
structure yp (w:bZ) (b:Nat) (m:List (aK×Int)):Prop where
 snd:wZ m (fwd w (b+1))
 keys:(m.map (·.1)).Nodup
structure xy (w:bZ) (b:Nat) (m:List (aK×Int)):Prop where
 snd:wZ m (back w b)
 keys:(m.map (·.1)).Nodup
 zero: ∃ v,m.lookup ⟨0,0⟩=some v∧w.fI≤v
theorem Lb (h:max (p.2+bW w b) o.2.Lo≤min o.2.Hi w.fI):lK w b p o=some (dK p.1 (fV o.1),max (p.2+bW w b) o.2.Lo):=by unfold lK; rw [if_pos h]
theorem NB (h: ¬ max (p.2+bW w b) o.2.Lo≤min o.2.Hi w.fI):lK w b p o=none:=by unfold lK; rw [if_neg h]
theorem KV (h:o.2.Lo≤min p.2 o.2.Hi):oU w b p o=some (dK p.1 (fV o.1),min p.2 o.2.Hi-bW w b):=by unfold oU; rw [if_pos h]
theorem Ni (h: ¬ o.2.Lo≤min p.2 o.2.Hi):oU w b p o=none:=by unfold oU; rw [if_neg h]
theorem yp.start:yp w b []:=⟨fun t v h=>by simp at h,List.nodup_nil⟩
theorem yp.add {m:List (aK×Int)} {q:aK×Int} (h:yp w b m) (hp:p∈fwd w b) (ho:o∈jl w b) (he:lK w b p o=some q):yp w b (qg m q):=⟨Hk h.snd (gH.2 ⟨p,hp,o,ho,he⟩),BX h.keys⟩
theorem xy.start (hb:b<w.n):xy w b [(⟨0,0⟩,w.fI)]:=⟨fun t v h=>by
 obtain ⟨rfl,rfl⟩:=pU.1 h
 exact (pK hb).2 (.inl U),sm,w.fI,pU.2 ⟨U,U⟩,Int.le_refl _⟩
theorem xy.add {m:List (aK×Int)} {q:aK×Int} (hb:b<w.n) (h:xy w b m) (hp:p∈back w (b+1)) (ho:o∈jl w b) (he:oU w b p o=some q):xy w b (qf m q):=⟨HI h.snd ((pK hb).2 (.inr ⟨p,hp,o,ho,he⟩)),CS h.keys,by
 obtain ⟨v,A,C⟩:=h.zero
 obtain ⟨v',B,D⟩:=rH (q:=q) _ _ A
 exact ⟨v',B,I⟩⟩
theorem jM.none_ {m:List (aK×Int)} (h:jM w b m p os) (he:lK w b p o=none):jM w b m p (os++[o]):=h.add (yE.refl _) fun q hq=>by rw [he] at hq; cases hq
theorem jM.JR {m:List (aK×Int)} {q:aK×Int} (h:jM w b m p os) (he:lK w b p o=some q):jM w b (qg m q) p (os++[o]):=h.add wV fun q' hq=>by rw [he] at hq; cases hq; exact Hh
theorem jQ.none_ {m:List (aK×Int)} (h:jQ w b m p os) (he:oU w b p o=none):jQ w b m p (os++[o]):=h.add (yu.refl _) fun q hq=>by rw [he] at hq; cases hq
theorem jQ.JR {m:List (aK×Int)} {q:aK×Int} (h:jQ w b m p os) (he:oU w b p o=some q):jQ w b (qf m q) p (os++[o]):=h.add rH fun q' hq=>by rw [he] at hq; cases hq; exact I0
/-- what of a map of the beam before is used already -/
def kD (w:bZ) (b:Nat) (mb m left:List (aK×Int)):Prop:= ∀ p∈mb,p∈left∨jM w b m p (jl w b)
def kb (w:bZ) (b:Nat) (mb m left:List (aK×Int)):Prop:= ∀ p∈mb,p∈left∨jQ w b m p (jl w b)
theorem kD.start {m:List (aK×Int)}:kD w b mb m mb:=fun p hp=> .inl hp
theorem kb.start {m:List (aK×Int)}:kb w b mb m mb:=fun p hp=> .inl hp
theorem kD.lower {m m':List (aK×Int)} (h:kD w b mb m left) (hl:yE m m'):kD w b mb m' left:=fun p hp=>(h p hp).imp id fun h=>h.lower hl
theorem kb.upper {m m':List (aK×Int)} (h:kb w b mb m left) (hl:yu m m'):kb w b mb m' left:=fun p hp=>(h p hp).imp id fun h=>h.upper hl
theorem kD.next {m:List (aK×Int)} {t:aK} {v:Int} (hn:(left.map (·.1)).Nodup) (hm:(t,v)∈left) (h:kD w b mb m left) (hd:jM w b m (t,v) os) (ho: ∀ o∈jl w b,o∈os):kD w b mb m (fH left t):=fun p hp=>by
 rcases h p hp with q|q
 ·rcases mQ hn hm q with q|q
  ·exact .inl q
  ·right; rw [q]; exact hd.sub ho
 ·exact .inr q
theorem kb.next {m:List (aK×Int)} {t:aK} {v:Int} (hn:(left.map (·.1)).Nodup) (hm:(t,v)∈left) (h:kb w b mb m left) (hd:jQ w b m (t,v) os) (ho: ∀ o∈jl w b,o∈os):kb w b mb m (fH left t):=fun p hp=>by
 rcases h p hp with q|q
 ·rcases mQ hn hm q with q|q
  ·exact .inl q
  ·right; rw [q]; exact hd.sub ho
 ·exact .inr q
theorem kD.fin {m:List (aK×Int)} (h:kD w b mb m left) (h0:left=[]): ∀ p∈mb,jM w b m p (jl w b):=fun p hp=>by
 rcases h p hp with q|q
 ·rw [h0] at q; cases q
 ·exact q
theorem kb.fin {m:List (aK×Int)} (h:kb w b mb m left) (h0:left=[]): ∀ p∈mb,jQ w b m p (jl w b):=fun p hp=>by
 rcases h p hp with q|q
 ·rw [h0] at q; cases q
 ·exact q
end
section
def nk (a b:ag):ag:=⟨a.Lo+b.Lo,a.Hi+b.Hi⟩
def gV:ag:=⟨0,0⟩
def ly (a:ag) (l:List ag):ag:=l.foldl nk a
def mB (z:ag):Prop:=(-1000000000≤z.Lo∧z.Lo≤1000000000)∧ -1000000000≤z.Hi∧z.Hi≤1000000000
theorem Ac {a:ag} {l:List ag} {i:Nat} {z:ag} (h:l[i]? =some z):ly a (l.take (i+1))=nk (ly a (l.take i)) z:=by
 rw [List.take_add_one,h]; unfold ly; simp
theorem Rq {a:ag} {l:List ag} (ha:mB a) (hl: ∀ z∈l,mB z): ∀ i:Nat,(-1000000000-1000000000*(i:Int)≤(ly a (l.take i)).Lo∧(ly a (l.take i)).Lo≤1000000000+1000000000*(i:Int))∧ -1000000000-1000000000*(i:Int)≤(ly a (l.take i)).Hi∧(ly a (l.take i)).Hi≤1000000000+1000000000*(i:Int):=by
 intro i
 induction i with
 |zero=>unfold mB at ha; simp [ly]; omega
 |succ i ih=>
  cases h:l[i]? with
  |none=>rw [List.take_add_one,h]; simp only [Option.toList_none,List.append_nil]; omega
  |some z=>
   have hz:=hl z (aQ h)
   unfold mB at hz
   rw [Ac h]
   simp only [nk]
   omega
theorem Ku {a:ag} {l:List ag} {i:Nat} (h:l.length≤i):ly a (l.take i)=ly a l:=by rw [List.take_of_length_le h]
theorem oy {a z:ag}:vA (ag.cells (ly a [z]))=vA (ag.cells (nk a z)):=rfl
theorem Db {a y z:ag}:vA (ag.cells (ly a [y,z]))=vA (ag.cells (nk (nk a y) z)):=rfl
/-- how long the run is from one mark, over so many stretches; by how much it falls -/
def eO (ts:List ar) (f:Nat):Nat→ag
 |0=>gV
 |k+1=>match ts[f+k]? with
  |some x=>nk (eO ts f k) x.lD
  |none=>eO ts f k
def gW (ts:List ar) (f:Nat):Nat→ag
 |0=>gV
 |k+1=>match ts[f+k]? with
  |some x=>nk (gW ts f k) x.mR
  |none=>gW ts f k
theorem qF {ts:List ar} {f k:Nat} {x:ar} (h:ts[f+k]? =some x):eO ts f (k+1)=nk (eO ts f k) x.lD:=by simp [eO,h]
theorem qz {ts:List ar} {f k:Nat} {x:ar} (h:ts[f+k]? =some x):gW ts f (k+1)=nk (gW ts f k) x.mR:=by simp [gW,h]
theorem m6 {ts:List ar} (ht: ∀ x∈ts,bX x) (f:Nat): ∀ k:Nat,(0≤(eO ts f k).Lo∧(eO ts f k).Lo≤(eO ts f k).Hi)∧(eO ts f k).Hi≤30000*(k:Int):=by
 intro k
 induction k with
 |zero=>simp [eO,gV]
 |succ k ih=>
  simp only [eO]
  cases h:ts[f+k]? with
  |none=>simp only; omega
  |some x=>
   have hx:=(ht x (aQ h)).2.1
   simp only [er] at hx
   simp only [nk]
   omega
theorem Gm {ts:List ar} (ht: ∀ x∈ts,bX x) (f:Nat): ∀ k:Nat,(0≤(gW ts f k).Lo∧(gW ts f k).Lo≤(gW ts f k).Hi)∧(gW ts f k).Hi≤5000*(k:Int):=by
 intro k
 induction k with
 |zero=>simp [gW,gV]
 |succ k ih=>
  simp only [gW]
  cases h:ts[f+k]? with
  |none=>simp only; omega
  |some x=>
   have hx:=(ht x (aQ h)).2.2.1
   simp only [er] at hx
   simp only [nk]
   omega
theorem rM {ts:List ar} (ht: ∀ x∈ts,bX x) {f k:Nat} (hk:k≤13):mB (eO ts f k):=by
 have:=m6 ht f k; unfold mB; omega
theorem yU {ts:List ar} (ht: ∀ x∈ts,bX x) {f k:Nat} (hk:k≤13):mB (gW ts f k):=by
 have:=Gm ht f k; unfold mB; omega
theorem vU {x:ar} (h:bX x):mB x.lD:=by have:=h.2.1; simp only [er] at this; unfold mB; omega
theorem vZ {x:ar} (h:bX x):mB x.mR:=by have:=h.2.2.1; simp only [er] at this; unfold mB; omega
theorem zZ {ts:List ar} (h: ¬ (if du ts=true then (0:Int) else 10)=0):du ts=false∧(if du ts=true then (0:Int) else 10)=10:=by
 cases ht:du ts with
 |true=>rw [ht] at h; exact absurd rfl h
 |false=>exact ⟨rfl,rfl⟩
theorem EH {ts:List ar} (h:(if du ts=true then (0:Int) else 10)=0):du ts=true:=by
 cases ht:du ts with
 |true=>rfl
 |false=>rw [ht] at h; exact absurd h dc
/-- what the iterator of marks yields -/
def vu (ts:List ar) (f:Nat):List (List Value):=(List.range (ts.length-f+1)).map fun (k:Nat)=>[.agg (eO ts f k).cells.toArray,.agg (gW ts f k).cells.toArray]
theorem uJ {ts:List ar} {f:Nat}:(vu ts f).length=ts.length-f+1:=by simp [vu]
theorem An {ts:List ar} {f k:Nat} (h:k≤ts.length-f):(vu ts f)[k]? =some [.agg (eO ts f k).cells.toArray,.agg (gW ts f k).cells.toArray]:=by
 simp [vu,List.getElem?_range (show k<ts.length-f+1 by omega)]
theorem HD {ts:List ar} {f k:Nat} {x:List Value} (h:(vu ts f)[k]? =some x):k≤ts.length-f∧x=[.agg (eO ts f k).cells.toArray,.agg (gW ts f k).cells.toArray]:=by
 have hi:k<ts.length-f+1:=by
  have:=(aX.1 h).1
  simpa [vu] using this
 rw [An I] at h
 exact ⟨I,(Option.some.inj h).symm⟩
theorem EA {ts:List ar} {f:Nat}: ∀ x∈vu ts f,x.length=2:=fun x hx=>by
 obtain ⟨k,_,rfl⟩:=cp.1 hx; rfl
end
section
def gh (ts:List ar) (s:cK):Prop:=(0≤s.bD∧s.bD<(ts.length:Int))∧ ∃ x,ts[s.bD.toNat]? =some x∧er s.nB 0 (x.lD.Lo-1)
noncomputable instance (ts:List ar) (s:cK):Decidable (gh ts s):=Classical.propDecidable _
theorem Cs {ts:List ar} {s:cK} {x:ar} (h:0≤s.bD∧s.bD<(ts.length:Int)) (hx:ts[s.bD.toNat]? =some x):gh ts s↔er s.nB 0 (x.lD.Lo-1):=
 ⟨fun A=>by obtain ⟨y,hy,B⟩:=A.2; rw [hx] at hy; cases hy; exact B,fun A=>⟨h,x,hx,A⟩⟩
theorem DY {ts:List ar} {s:cK} (h: ¬ (0≤s.bD∧s.bD<(ts.length:Int))): ¬ gh ts s:=fun A=>h A.1
theorem BH {ts:List ar} {s:cK} (ht: ∀ x∈ts,bX x) (h:gh ts s):(0≤s.nB.Lo∧s.nB.Lo≤s.nB.Hi)∧s.nB.Hi≤30000:=by
 obtain ⟨x,hx,A⟩:=h.2
 have:=(ht x (aQ hx)).2.1
 simp only [er] at A this
 omega
theorem Ev {ts:List ar} {a:cK}:vB (decide (∀ s∈[a],gh ts s))=vB (decide (gh ts a)):=congrArg _ (g5.2 sm)
theorem FG {ts:List ar} {a b:cK}:vB (decide (∀ s∈[a,b],gh ts s))=vB (decide (gh ts a∧gh ts b)):=congrArg _ (g5.2 sm)
def pq (z:ag):ag:=⟨-z.Hi,-z.Lo⟩
def M_ (ts:List ar) (s:cK):ag:=nk (eO ts 0 s.bD.toNat) s.nB
noncomputable def GR (ts:List ar) (s:cK):Int:=if du ts=true then (if gh ts s then 0 else 12) else 10
noncomputable def Q9 (ts:List ar) (s:cK):ag:=if GR ts s=0 then M_ ts s else gV
theorem JF {ts:List ar} {s:cK} (h:du ts=false):GR ts s=10∧Q9 ts s=gV:=by
 have e:GR ts s=10:=by unfold GR; rw [h]; rfl
 exact ⟨e,by unfold Q9; rw [e]; rfl⟩
theorem LQ {ts:List ar} {s:cK} (h:du ts=true) (h2: ¬ gh ts s):GR ts s=12∧Q9 ts s=gV:=by
 have e:GR ts s=12:=by unfold GR; rw [if_pos h,if_neg h2]
 exact ⟨e,by unfold Q9; rw [e]; rfl⟩
theorem yo {ts:List ar} {s:cK} (h:du ts=true) (h2:gh ts s):GR ts s=0∧Q9 ts s=M_ ts s:=by
 have e:GR ts s=0:=by unfold GR; rw [if_pos h,if_pos h2]
 exact ⟨e,if_pos e⟩
theorem FY {ts:List ar} {s:cK} (h:du ts=true):GR ts s=0↔gh ts s:=by
 unfold GR; rw [if_pos h]; split<;>simp [*]
def zp (ts:List ar) (a b:cK):ag:=eO ts (min a.bD b.bD).toNat (max a.bD b.bD-min a.bD b.bD).toNat
def kK (ts:List ar) (a b:cK):ag:=nk (nk (if b.bD<a.bD then pq (zp ts a b) else zp ts a b) b.nB) (pq a.nB)
noncomputable def mV (ts:List ar) (a b:cK):Int:=if du ts=true then (if gh ts a∧gh ts b then 0 else 12) else 10
noncomputable def lL (ts:List ar) (a b:cK):ag:=if mV ts a b=0 then kK ts a b else gV
theorem wN {ts:List ar} {a b:cK} (h:du ts=false):mV ts a b=10∧lL ts a b=gV:=by
 have e:mV ts a b=10:=by unfold mV; rw [h]; rfl
 exact ⟨e,by unfold lL; rw [e]; rfl⟩
theorem p9 {ts:List ar} {a b:cK} (h:du ts=true) (h2: ¬ (gh ts a∧gh ts b)):mV ts a b=12∧lL ts a b=gV:=by
 have e:mV ts a b=12:=by unfold mV; rw [if_pos h,if_neg h2]
 exact ⟨e,by unfold lL; rw [e]; rfl⟩
theorem mj {ts:List ar} {a b:cK} (h:du ts=true) (h2:gh ts a∧gh ts b):mV ts a b=0∧lL ts a b=kK ts a b:=by
 have e:mV ts a b=0:=by unfold mV; rw [if_pos h,if_pos h2]
 exact ⟨e,if_pos e⟩
theorem AB {z:ag} (h:mB z):mB (pq z):=by unfold mB pq at *; simp only; omega
theorem si {ts:List ar} {s:cK} (ht: ∀ x∈ts,bX x) (h:gh ts s):mB s.nB:=by have:=BH ht h; unfold mB; omega
theorem RE {ts:List ar} {a b:cK} (ht: ∀ x∈ts,bX x) (hl:ts.length≤12) (ha:gh ts a) (hb:gh ts b):(0≤(zp ts a b).Lo∧(zp ts a b).Lo≤(zp ts a b).Hi)∧(zp ts a b).Hi≤360000:=by
 have h:=m6 ht (min a.bD b.bD).toNat (max a.bD b.bD-min a.bD b.bD).toNat
 have A:=ha.1
 have B:=hb.1
 unfold zp
 omega
theorem yz {ts:List ar} {a b:cK} (ht: ∀ x∈ts,bX x) (hl:ts.length≤12) (ha:gh ts a) (hb:gh ts b):(-400000≤(kK ts a b).Lo∧(kK ts a b).Lo≤(kK ts a b).Hi)∧(kK ts a b).Hi≤400000:=by
 have h:=RE ht hl ha hb
 have A:=BH ht ha
 have B:=BH ht hb
 unfold kK nk pq
 split<;>simp only <;>omega
theorem UH {ts:List ar} {s:cK} (ht: ∀ x∈ts,bX x) (hl:ts.length≤12) (h:gh ts s):(0≤(M_ ts s).Lo∧(M_ ts s).Lo≤(M_ ts s).Hi)∧(M_ ts s).Hi≤400000:=by
 have A:=m6 ht 0 s.bD.toNat
 have B:=BH ht h
 have C:=h.1
 unfold M_ nk
 simp only; omega
theorem Is {α:Type} {p:Nat→α→Bool} {l:List α}:((l.zipIdx.filter fun q=>p q.2 q.1).map fun q=>(q.2:Int))=[]↔ ∀ (i:Nat) x,l[i]? =some x→p i x=false:=by
 rw [List.map_eq_nil_iff,List.filter_eq_nil_iff]
 constructor
 ·intro h i x hx
  have:=h (x,i) (by rw [List.mem_zipIdx_iff_getElem?]; simpa using hx)
  simpa using this
 ·rintro h ⟨x,i⟩ hm
  rw [List.mem_zipIdx_iff_getElem?] at hm
  simpa using h i x (by simpa using hm)
/-- the places of a list at which something is so -/
def ug {α:Type} (p:Nat→α→Bool) (l:List α) (n:Nat):List Int:=(((l.take n).zipIdx.filter fun q=>p q.2 q.1).map fun q=>(q.2:Int))
theorem K6 {α:Type} {p:Nat→α→Bool} {l:List α} {i:Nat} {x:α} (hx:l[i]? =some x) (h:p i x=true):ug p l (i+1)=ug p l i++[(i:Int)]:=by
 have hi:=(aX.1 hx).1
 unfold ug
 rw [List.take_add_one,hx,List.zipIdx_append,List.filter_append,List.map_append]
 simp [Nat.min_eq_left (Nat.le_of_lt hi),h]
theorem Ov {α:Type} {p:Nat→α→Bool} {l:List α} {i:Nat} {x:α} (hx:l[i]? =some x) (h:p i x=false):ug p l (i+1)=ug p l i:=by
 have hi:=(aX.1 hx).1
 unfold ug
 rw [List.take_add_one,hx,List.zipIdx_append,List.filter_append,List.map_append]
 simp [Nat.min_eq_left (Nat.le_of_lt hi),h]
theorem Cb {α:Type} {p:Nat→α→Bool} {l:List α} {n:Nat}:(ug p l n).length≤n:=by
 unfold ug
 rw [List.length_map]
 refine Nat.le_trans (List.length_filter_le _ _) ?_
 rw [List.length_zipIdx,List.length_take]; omega
def Jy {α:Type} (p:Nat→α→Bool) (l:List α):List Int:=ug p l l.length
theorem Ok {α:Type} {p:Nat→α→Bool} {l:List α} {n:Nat} (h:n=l.length):ug p l n=Jy p l:=by rw [h]; rfl
theorem H0 {α:Type} {p:Nat→α→Bool} {l:List α}:(Jy p l).length=0↔ ∀ (i:Nat) x,l[i]? =some x→p i x=false:=by
 unfold Jy ug
 rw [List.length_eq_zero_iff,List.take_length]
 exact Is
end
section
theorem Ad (p:Int→Bool) (n:Nat): ∃ r:Int,r=((List.range n).findIdx fun (k:Nat)=>p (k:Int):Nat):=⟨_,rfl⟩
noncomputable def fJ (p:Int→Bool) (n:Nat):Int:=Classical.choose (Ad p n)
theorem tI (p:Int→Bool) (n:Nat):fJ p n=((List.range n).findIdx fun (k:Nat)=>p (k:Int):Nat):=Classical.choose_spec (Ad p n)
theorem jd {p:Int→Bool} {n:Nat}:0≤fJ p n∧fJ p n≤n:=by
 rw [tI]
 have:=List.findIdx_le_length (xs:=List.range n) (p:=fun (k:Nat)=>p (k:Int))
 rw [List.length_range] at this
 omega
theorem vY {p:Int→Bool} {n:Nat} {x:Int} (h0:0≤x) (h:x<fJ p n):p x=false:=by
 have hb:=jd (p:=p) (n:=n)
 rw [tI] at h
 have B:x.toNat<(List.range n).findIdx fun (k:Nat)=>p (k:Int):=by omega
 have A:=List.not_of_lt_findIdx B
 simp only [List.getElem_range] at A
 rw [show (x.toNat:Int)=x by omega] at A
 simpa using A
theorem Ar {p:Int→Bool} {n:Nat} (h:fJ p n<n):p (fJ p n)=true:=by
 rw [tI] at h ⊢
 have A:((List.range n).findIdx fun (k:Nat)=>p (k:Int))<(List.range n).length:=by rw [List.length_range]; omega
 have:=List.findIdx_getElem (w:=A)
 simpa using this
theorem Az {p:Int→Bool} {n:Nat} {r:Int} (h0:0≤r) (hn:r<n) (hr:p r=true) (hb: ∀ x,0≤x→x<r→p x=false):fJ p n=r:=by
 have A:=jd (p:=p) (n:=n)
 rcases Int.lt_trichotomy (fJ p n) r with h|h|h
 ·have:=hb _ A.1 h
  have e:=Ar (p:=p) (n:=n) I
  rw [e] at this; cases this
 ·exact h
 ·have:=vY h0 h
  rw [hr] at this; cases this
end
section
def pJ (n by_:Int):Int:=(n+by_-1)/by_
/-- by how much a sync may be off -/
def tg (c:ax) (at_:Int) (x:cz):Int:=pJ (c.dD*max (at_-x.At) (x.At-at_)) 1000000
def l0 (c:ax) (at_:Int) (s:ag) (x:cz):ag:=⟨max s.Lo (x.eB.Lo-tg c at_ x),min s.Hi (x.eB.Hi+tg c at_ x)⟩
def g8 (c:ax) (at_:Int) (k:Nat):ag:=(c.bu.take k).foldl (l0 c at_) ⟨-1099511627776,1099511627776⟩
def hH (c:ax) (at_:Int):ag:=c.bu.foldl (l0 c at_) ⟨-1099511627776,1099511627776⟩
theorem kE {c:ax} {at_:Int} {k:Nat} {x:cz} (h:c.bu[k]? =some x):g8 c at_ (k+1)=l0 c at_ (g8 c at_ k) x:=by
 unfold g8; rw [List.take_add_one,h,List.foldl_append]; rfl
theorem oq {c:ax} {at_:Int} {k:Nat} (h:c.bu.length≤k):g8 c at_ k=hH c at_:=by unfold g8 hH; rw [List.take_of_length_le h]
def lk (c:ax) (i:Nat):Int:=if i=0 then-1 else ((c.bu[i-1]?).map (·.At)).getD 0
def fX (c:ax) (i:Nat) (x:cz):Prop:=(lk c i<x.At∧x.At≤86400000)∧ -10000≤x.eB.Lo∧x.eB.Lo≤x.eB.Hi∧x.eB.Hi≤10000
def og (c:ax) (x o:cz):Prop:=x.eB.Lo-o.eB.Hi≤pJ (c.dD*(x.At-o.At)) 1000000∧o.eB.Lo-x.eB.Hi≤pJ (c.dD*(x.At-o.At)) 1000000
structure eK (c:ax):Prop where
 tD:0≤c.dD∧c.dD≤1000
 len:1≤c.bu.length∧c.bu.length≤5
 sync: ∀ (i:Nat) x,c.bu[i]? =some x→fX c i x
 pair: ∀ (i k:Nat) x o,c.bu[i]? =some x→k<i→c.bu[k]? =some o→og c x o
noncomputable instance (c:ax):Decidable (eK c):=Classical.propDecidable _
theorem g_ {c:ax} {i:Nat} (h:i=0):lk c i= -1:=if_pos h
theorem yk {c:ax} {i:Nat} {y:cz} (h:0<i) (hy:c.bu[i-1]? =some y):lk c i=y.At:=by unfold lk; rw [if_neg I,hy]; rfl
theorem pg {c:ax} {i:Nat} {y:cz} (hy:c.bu[i]? =some y):lk c (i+1)=y.At:=by unfold lk; rw [if_neg I,Nat.add_sub_cancel,hy]; rfl
/-- the times of the syncs -/
theorem Pg {c:ax} (h: ∀ (i:Nat) x,c.bu[i]? =some x→fX c i x): ∀ (i:Nat) x,c.bu[i]? =some x→0≤x.At∧ ∀ (k:Nat) o,k<i→c.bu[k]? =some o→o.At<x.At:=by
 intro i
 induction i with
 |zero=>
  intro x hx
  have:=(h 0 x hx).1.1
  rw [g_ rfl] at this
  exact ⟨I,fun k o hk=>by omega⟩
 |succ i ih=>
  intro x hx
  have hi:=(aX.1 hx).1
  have hy:c.bu[i]? =some (c.bu[i]'I):=eU I
  have B:=ih _ hy
  have A:=(h (i+1) x hx).1.1
  rw [pg hy] at A
  refine ⟨I,fun k o hk ho=>?_⟩
  by_cases e:k=i
  ·subst e; rw [hy] at ho; cases ho; exact A
  ·have:=B.2 k o I ho; omega
theorem eK.uc {c:ax} (h:eK c) {i:Nat} {x:cz} (hx:c.bu[i]? =some x):(0≤x.At∧x.At≤86400000)∧ -10000≤x.eB.Lo∧x.eB.Lo≤x.eB.Hi∧x.eB.Hi≤10000:=by
 have A:=h.sync i x hx
 exact ⟨⟨(Pg h.sync i x hx).1,A.1.2⟩,A.2⟩
theorem Gv {d a b:Int} (hd:0≤d∧d≤1000) (ha:0≤a∧a≤90000000) (hb:0≤b∧b≤90000000):0≤d*max (a-b) (b-a)∧d*max (a-b) (b-a)≤90000000000:=by
 have:=QE (a:=d) (b:=max (a-b) (b-a)) (A:=1000) (B:=90000000) hd.1 hd.2 I I
 omega
theorem wP {c:ax} {at_:Int} {x:cz} (hd:0≤c.dD∧c.dD≤1000) (ha:0≤at_∧at_≤90000000) (hx:0≤x.At∧x.At≤86400000):0≤tg c at_ x∧tg c at_ x≤90001:=by
 have h:=Gv hd ha (show 0≤x.At∧x.At≤90000000 by omega)
 unfold tg pJ; omega
theorem Ct {c:ax} {at_:Int} (h:eK c) (ha:0≤at_∧at_≤90000000): ∀ k:Nat,(-1099511627776≤(g8 c at_ k).Lo∧(g8 c at_ k).Lo≤10000)∧ -10000≤(g8 c at_ k).Hi∧(g8 c at_ k).Hi≤1099511627776:=by
 intro k
 induction k with
 |zero=>simp [g8]
 |succ k ih=>
  cases hx:c.bu[k]? with
  |none=>unfold g8 at ih ⊢; rw [List.take_add_one,hx]; simpa using ih
  |some x=>
   have hb:=h.uc hx
   have ho:=wP h.tD ha hb.1
   rw [kE hx]
   unfold l0
   simp only
   omega
theorem rE {c:ax} {at_:Int} (h:eK c) (ha:0≤at_∧at_≤90000000):(-110000≤(hH c at_).Lo∧(hH c at_).Lo≤10000)∧ -10000≤(hH c at_).Hi∧(hH c at_).Hi≤110000:=by
 obtain ⟨n,hn⟩: ∃ n,c.bu.length=n+1:=⟨c.bu.length-1,by have:=h.len; omega⟩
 have hx:c.bu[n]? =some (c.bu[n]'I):=eU I
 have hb:=h.uc hx
 have ho:=wP h.tD ha hb.1
 have A:=Ct h ha n
 rw [← oq (k:=n+1) I,kE hx]
 unfold l0
 simp only
 omega
/-- as time goes on, time and what a clock may be ahead, together, never go back -/
theorem E4 {c:ax} (h:eK c) {a b:Int} (ha:0≤a) (hab:a≤b) (hb:b≤90000000): ∀ k:Nat,(a+(g8 c a k).Lo≤b+(g8 c b k).Lo∨(g8 c a k).Lo= -1099511627776)∧a+(g8 c a k).Hi≤b+(g8 c b k).Hi:=by
 have step: ∀ (x:cz),0≤x.At∧x.At≤86400000→ ∀ a b:Int,0≤a→a≤b→b≤90000000→tg c a x≤tg c b x+(b-a)∧tg c b x≤tg c a x+(b-a):=by
  intro x hx a b ha hab hb
  have hd:=h.tD
  have e: ∀ u v:Int,u≤v+1000000*(b-a)→pJ u 1000000≤pJ v 1000000+(b-a):=by intro u v C; unfold pJ; omega
  have m: ∀ p q:Int,p≤q+(b-a)→c.dD*p≤c.dD*q+1000000*(b-a):=by
   intro p q A
   have D:c.dD*p≤c.dD*(q+(b-a)):=Int.mul_le_mul_of_nonneg_left A hd.1
   have E:c.dD*(q+(b-a))=c.dD*q+c.dD*(b-a):=Int.mul_add _ _ _
   have F:c.dD*(b-a)≤1000*(b-a):=Int.mul_le_mul_of_nonneg_right hd.2 I
   omega
  exact ⟨e _ _ (m _ _ I),e _ _ (m _ _ I)⟩
 intro k
 induction k with
 |zero=>simp [g8]; omega
 |succ k ih=>
  cases hx:c.bu[k]? with
  |none=>
   have e: ∀ t,g8 c t (k+1)=g8 c t k:=fun t=>by unfold g8; rw [List.take_add_one,hx]; simp
   rw [e,e]; exact ih
  |some x=>
   have hs:=h.uc hx
   have:=step x hs.1 a b ha hab hb
   have B:=wP (at_:=a) h.tD ⟨ha,I⟩ hs.1
   rw [kE hx,kE hx]
   unfold l0
   simp only
   omega
theorem o0 {c:ax} (h:eK c) {a b:Int} (ha:0≤a) (hab:a≤b) (hb:b≤90000000):a+(hH c a).Lo≤b+(hH c b).Lo∧a+(hH c a).Hi≤b+(hH c b).Hi:=by
 have A:=E4 h ha hab hb c.bu.length
 have B:=rE h (at_:=a) ⟨ha,I⟩
 rw [oq (Nat.le_refl _),oq (Nat.le_refl _)] at A
 omega
noncomputable def l8 (l:bg) (i:Nat):Int:=match l.ab[i]? with
 |some b=>if i=0 then (M_ l.aR b.nI).Lo else (match l.ab[i-1]? with
  |some a=>(kK l.aR a.nI b.nI).Lo
  |none=>0)
 |none=>0
theorem Af {l:bg} {b:bJ} (h:l.ab[0]? =some b):l8 l 0=(M_ l.aR b.nI).Lo:=by unfold l8; rw [h]; rfl
theorem CT {l:bg} {i:Nat} {a b:bJ} (hi:0<i) (h:l.ab[i]? =some b) (ha:l.ab[i-1]? =some a):l8 l i=(kK l.aR a.nI b.nI).Lo:=by unfold l8; rw [h,ha]; simp only; rw [if_neg I]
def kM (l:bg) (b:bJ):Prop:=gh l.aR b.nI∧0≤b.jW∧b.jW<(l.aj.length:Int)
def eY (l:bg):Prop:=(1≤l.iN∧l.iN≤5000)∧(1≤(l.aj.length:Int)∧(l.aj.length:Int)≤4)∧(1≤(l.ab.length:Int)∧(l.ab.length:Int)≤6)∧(0≤l.bM∧l.bM≤(l.ab.length:Int)-1)∧(0≤l.fT∧l.fT≤3)∧0≤l.dE∧l.dE≤3
structure mh (l:bg):Prop where
 head:eY l
 clock: ∀ c∈l.aj,eK c
 re: ∀ b∈l.ab,kM l b
 Q5: ∀ i,i<l.ab.length→1≤l8 l i
noncomputable instance (l:bg):Decidable (mh l):=Classical.propDecidable _
noncomputable def dw (l:bg):Int:=if du l.aR=true then (if mh l then 0 else 50) else 10
theorem Ah {l:bg} (h:du l.aR=false):dw l=10:=by unfold dw; rw [h]; rfl
theorem su {l:bg} (h:du l.aR=true) (h2: ¬ mh l):dw l=50:=by unfold dw; rw [if_pos h,if_neg h2]
theorem yR {l:bg} (h:du l.aR=true) (h2:mh l):dw l=0:=by unfold dw; rw [if_pos h,if_pos h2]
theorem dq {l:bg} (h:dw l=0):du l.aR=true∧mh l:=by
 unfold dw at h
 split at h
 ·split at h
  ·exact ⟨asm,asm⟩
  ·omega
 ·omega
theorem DK {l:bg} (ht:du l.aR=true) (hb: ∀ b∈l.ab,kM l b) (i:Nat): -400000≤l8 l i∧l8 l i≤400000:=by
 have A:=kH ht
 have hl:=lQ ht
 unfold l8
 cases h:l.ab[i]? with
 |none=>simp
 |some b=>
  have B:=(hb b (aQ h)).1
  simp only
  split
  ·have:=UH A hl B; omega
  ·cases h2:l.ab[i-1]? with
   |none=>simp
   |some a=>
    have C:=(hb a (aQ h2)).1
    have:=yz A hl C B
    simp only; omega
def my (l:bg) (s:aH):ax:=((l.ab[s.eZ.toNat]?).bind fun b=>l.aj[b.jW.toNat]?).getD ⟨0,[]⟩
def gv (c:ax) (r t:Int):Bool:=decide (r≤t+(hH c t).Hi)
def gu (c:ax) (r t:Int):Bool:=decide (r<t+(hH c t).Lo)
noncomputable def mD (c:ax) (r:Int):ag:=⟨fJ (gv c r) 86400001,fJ (gu c r) 86400001-1⟩
noncomputable def cJ (l:bg) (s:aH):ag:=mD (my l s) s.Read
noncomputable def eu (l:bg) (i:Nat):Int:=pJ (1000*l8 l i) l.iN
end
section
open Go.RowKit
def BO (n:Int):Int:=IntKind.i64.wrap n
theorem Be {n:Int} (h:rD n):BO n=n:=nS h
theorem Tl (n:Int): -9223372036854775808≤BO n∧BO n≤9223372036854775807:=by
 unfold BO
 rw [IntKind.wrap_i64]
 omega
section
variable {P:Program} {t:TypeId} {x y:Operand} {a b:Int}
theorem Ra:jq P .add t x y (.int .i64 a) (.int .i64 b) (.int .i64 (BO (a+b))):=fun w=>by simp [eqGuard_add,binOp_add,Op.intArith,BO]
theorem KU:jq P .sub t x y (.int .i64 a) (.int .i64 b) (.int .i64 (BO (a-b))):=fun w=>by simp [eqGuard_sub,binOp_sub,Op.intArith,BO]
theorem Sl:jq P .mul t x y (.int .i64 a) (.int .i64 b) (.int .i64 (BO (a*b))):=fun w=>by simp [eqGuard_mul,binOp_mul,Op.intArith,BO]
end
/-- divided, and rounded up, as it comes out -/
def Vb (n by_:Int):Int:=(BO (BO (n+by_)-1)).tdiv by_
theorem Si {a b:Int} (ha: -9223372036854775808≤a∧a≤9223372036854775807) (hb:2≤b):rD (a.tdiv b):=by
 have A:a.tdiv b=a/b+if a % b≠0∧a<0 then 1 else 0:=by
  rcases Int.lt_or_le a 0 with h|h
  ·rw [Int.tdiv_eq_ediv]
   have:b.sign=1:=Int.sign_eq_one_of_pos I
   rw [this]
   by_cases hd:b∣a
   ·have:a % b=0:=Int.emod_eq_zero_of_dvd hd
    simp [hd,this]
   ·have:a % b≠0:=fun e=>hd (Int.dvd_of_emod_eq_zero e)
    have hn: ¬ 0≤a:=by omega
    simp [hd,this,h,hn]
  ·rw [Int.tdiv_eq_ediv_of_nonneg h]
   have: ¬ a<0:=by omega
   simp [this]
 have B:a/b*b+a % b=a:=by rw [Int.mul_comm]; exact Int.mul_ediv_add_emod a b
 have C:0≤a % b:=Int.emod_nonneg _ I
 have D:a % b<b:=Int.emod_lt_of_pos _ I
 have E: -9223372036854775808≤a/b∧a/b≤4611686018427387904:=by
  constructor
  ·refine Int.le_ediv_of_mul_le I ?_
   have:(-9223372036854775808:Int)*b≤ -9223372036854775808*1:=Int.mul_le_mul_of_nonpos_left I I
   omega
  ·refine Int.ediv_le_of_le_mul I ?_
   have:(4611686018427387904:Int)*2≤4611686018427387904*b:=Int.mul_le_mul_of_nonneg_left hb I
   omega
 rw [A]
 unfold rD
 split<;>omega
theorem Qt {n by_:Int} (h0:0≤n) (h1:n≤1000000000000000000) (hb:1≤by_∧by_≤1000000000000):Vb n by_=(n+by_-1)/by_:=by
 unfold Vb
 rw [Be (show rD (n+by_) from ⟨I,I⟩),Be (show rD (n+by_-1) from ⟨I,I⟩),Int.tdiv_eq_ediv_of_nonneg I]
end
section
def mY (c:ax) (i:Nat) (x:cz) (k:Nat):Prop:=fX c i x∧ ∀ (j:Nat) o,j<k→c.bu[j]? =some o→og c x o
def tU (c:ax) (n:Nat):Prop:= ∀ (i:Nat) x,i<n→c.bu[i]? =some x→mY c i x i
noncomputable instance (c:ax) (i:Nat) (x:cz) (k:Nat):Decidable (mY c i x k):=Classical.propDecidable _
instance (c:ax) (i:Nat) (x:cz):Decidable (fX c i x):=by unfold fX; infer_instance
theorem Ec {c:ax} {i:Nat} {x:cz}:mY c i x 0↔fX c i x:=⟨fun h=>h.1,fun h=>⟨h,fun j o hj=>by omega⟩⟩
theorem uj {c:ax} {i k:Nat} {x o:cz} (h:c.bu[k]? =some o):mY c i x (k+1)↔mY c i x k∧og c x o:=by
 constructor
 ·intro hr
  exact ⟨⟨hr.1,fun j o' hj ho=>hr.2 j o' I ho⟩,hr.2 k o I h⟩
 ·rintro ⟨hr,hp⟩
  refine ⟨hr.1,fun j o' hj ho=>?_⟩
  by_cases e:j=k
  ·subst e; rw [h] at ho; cases ho; exact hp
  ·exact hr.2 j o' I ho
theorem H9 {c:ax}:tU c 0:=fun i x hi=>by omega
theorem HV {c:ax} {i:Nat} {x:cz} (h:tU c i) (hx:c.bu[i]? =some x) (hr:mY c i x i):tU c (i+1):=fun j y hj hy=>by
 by_cases e:j=i
 ·subst e; rw [hx] at hy; cases hy; exact hr
 ·exact h j y I hy
theorem KH {c:ax} {i:Nat} {x:cz} (hx:c.bu[i]? =some x) (h: ¬ mY c i x i): ¬ eK c:=fun hc=>h ⟨hc.sync i x hx,fun j o hj ho=>hc.pair i j x o hx hj ho⟩
theorem HZ {c:ax} (h1:0≤c.dD∧c.dD≤1000) (h2:1≤c.bu.length∧c.bu.length≤5) (h:tU c c.bu.length):eK c:=
 ⟨h1,h2,fun i x hx=>(h i x (aX.1 hx).1 hx).1,fun i k x o hx hk ho=>(h i x (aX.1 hx).1 hx).2 k o hk ho⟩
/-- syncs so far -/
theorem wO {c:ax} {n:Nat} (h: ∀ (i:Nat) x,i<n→c.bu[i]? =some x→fX c i x): ∀ (i:Nat) x,i<n→c.bu[i]? =some x→0≤x.At∧ ∀ (k:Nat) o,k<i→c.bu[k]? =some o→o.At<x.At:=by
 intro i
 induction i with
 |zero=>
  intro x hn hx
  have:=(h 0 x hn hx).1.1
  rw [g_ rfl] at this
  exact ⟨I,fun k o hk=>by omega⟩
 |succ i ih=>
  intro x hn hx
  have hi:=(aX.1 hx).1
  have hy:c.bu[i]? =some (c.bu[i]'I):=eU I
  have B:=ih _ I hy
  have A:=(h (i+1) x hn hx).1.1
  rw [pg hy] at A
  refine ⟨I,fun k o hk ho=>?_⟩
  by_cases e:k=i
  ·subst e; rw [hy] at ho; cases ho; exact A
  ·have:=B.2 k o I ho; omega
theorem MU {c:ax} {i:Nat} (hi:i≤c.bu.length) (h: ∀ (j:Nat) y,j<i→c.bu[j]? =some y→fX c j y): -1≤lk c i∧lk c i≤86400000:=by
 cases i with
 |zero=>rw [g_ rfl]; omega
 |succ i=>
  have hy:c.bu[i]? =some (c.bu[i]'I):=eU I
  have A:=(wO (n:=i+1) h i _ I hy).1
  have B:=(h i _ I hy).1.2
  rw [pg hy]; omega
theorem Rx {c:ax} {i:Nat} (hi:i≤c.bu.length) (h:tU c i): -1≤lk c i∧lk c i≤86400000:=MU hi fun j y hj hy=>(h j y hj hy).1
theorem wQ {c:ax} {i k:Nat} {x o:cz} (hs: ∀ (j:Nat) y,j<i→c.bu[j]? =some y→fX c j y) (hx:c.bu[i]? =some x) (hok:fX c i x) (hk:k<i) (ho:c.bu[k]? =some o):
 (0≤o.At∧o.At<x.At∧x.At≤86400000)∧(-10000≤x.eB.Lo∧x.eB.Lo≤x.eB.Hi∧x.eB.Hi≤10000)∧ -10000≤o.eB.Lo∧o.eB.Lo≤o.eB.Hi∧o.eB.Hi≤10000:=by
 have h: ∀ (j:Nat) y,j<i+1→c.bu[j]? =some y→fX c j y:=fun j y hj hy=>by
  by_cases e:j=i
  ·subst e; rw [hx] at hy; cases hy; exact hok
  ·exact hs j y I hy
 have A:=(wO h i x I hx).2 k o hk ho
 have B:=(wO h k o I ho).1
 exact ⟨⟨B,A,hok.1.2⟩,hok.2,(h k o I ho).2⟩
theorem N7 {d a b:Int} (hd:0≤d∧d≤1000) (h:0≤b∧b<a∧a≤86400000):Vb (BO (d*BO (a-b))) 1000000=pJ (d*(a-b)) 1000000:=by
 have C:0≤d*(a-b)∧d*(a-b)≤90000000000:=by
  have:=QE (a:=d) (b:=a-b) (A:=1000) (B:=90000000) hd.1 hd.2 I I
  omega
 rw [Be (show rD (a-b) from ⟨I,I⟩),Be (show rD (d*(a-b)) from ⟨I,I⟩),Qt C.1 I I]
 rfl
/-- what is asked of a line, however wrong it is -/
structure ep (l:bg) (asl:List RA):Prop where
 sZ:l.aR.length≤1000000
 side: ∀ x∈l.aR,0≤x.jD∧x.jD≤255
 rn:l.aj.length≤1000000
 n_:asl.length=l.aj.length
 sB:l.ab.length≤1000000
 Rr: ∀ (k:Nat) m (a:RA),l.aj[k]? =some m→asl[k]? =some a→m.bu.length≤a.2∧m.bu.length≤1000000
noncomputable instance (l:bg):Decidable (eY l):=by unfold eY; infer_instance
noncomputable instance (l:bg) (b:bJ):Decidable (kM l b):=Classical.propDecidable _
theorem Ax {l:bg} (h:eY l) (h2: ∀ c∈l.aj,eK c) (h3: ∀ b∈l.ab,kM l b) (h4: ∀ i,i<l.ab.length→1≤l8 l i):mh l:=⟨h,h2,h3,h4⟩
theorem Ft {l:bg}:((!(l.aj.any fun m=> !decide (eK m)))=true)↔ ∀ c∈l.aj,eK c:=by simp
theorem Ic {l:bg}:((!(l.ab.any fun b=> !decide (kM l b)))=true)↔ ∀ b∈l.ab,kM l b:=by simp
theorem kU {c:ax} (h:eK c) {r x:Int} (h0:0≤x) (h1:x<86400001):
 (x<fJ (gv c r) 86400001→gv c r x=false)∧(fJ (gv c r) 86400001≤x→gv c r x=true)∧(x<fJ (gu c r) 86400001→gu c r x=false)∧(fJ (gu c r) 86400001≤x→gu c r x=true):=by
 have up: ∀ (q:Int→Bool),(∀ a b,0≤a→a≤b→b<86400001→q a=true→q b=true)→fJ q 86400001≤x→q x=true:=fun q hq hx=>by
  have hb:=jd (p:=q) (n:=86400001)
  exact hq _ _ hb.1 hx h1 (Ar I)
 refine ⟨vY h0,up _ fun a b ha A hb hq=>?_,vY h0,up _ fun a b ha A hb hq=>?_⟩
 ·have:=o0 h ha A I
  simp only [gv,decide_eq_true_eq] at hq ⊢; omega
 ·have:=o0 h ha A I
  simp only [gu,decide_eq_true_eq] at hq ⊢; omega
theorem tL {l:bg} {s:aH} {b:bJ} {c:ax} (hb:l.ab[s.eZ.toNat]? =some b) (hc:l.aj[b.jW.toNat]? =some c):my l s=c:=by
 unfold my; rw [hb]; simp only [Option.bind_some]; rw [hc]; rfl
end
section
def lx (sg:List aH) (i:Nat):aH:=if i=0 then ⟨-1,0⟩ else (sg[i-1]?).getD ⟨-1,0⟩
theorem kG {sg:List aH} {i:Nat} {s:aH} (h:sg[i]? =some s):lx sg (i+1)=s:=by unfold lx; rw [if_neg I,Nat.add_sub_cancel,h]; rfl
def iI (l:bg) (s:aH):Prop:=(0≤s.eZ∧s.eZ≤(l.ab.length:Int)-1)∧0≤s.Read∧s.Read≤86400000
def iz (l:bg) (sg:List aH) (i:Nat) (s:aH):Prop:=iI l s∧ ¬ s.eZ<(lx sg i).eZ∧ ¬ (s.eZ=(lx sg i).eZ∧s.Read≤(lx sg i).Read)
def pB (l:bg) (sg:List aH) (i:Nat):Prop:= ∀ (j:Nat) s,j<i→sg[j]? =some s→iz l sg j s
structure dW (l:bg) (r:cr):Prop where
 time:0≤r.Start∧r.Start≤r.fI∧r.fI≤86400000
 len:r.aa.length≤10
 sig: ∀ (i:Nat) s,r.aa[i]? =some s→iz l r.aa i s
noncomputable instance (l:bg) (r:cr):Decidable (dW l r):=Classical.propDecidable _
theorem wo {l:bg} {sg:List aH}:pB l sg 0:=fun j s hj=>absurd hj (Nat.not_lt_zero _)
theorem jR {l:bg} {sg:List aH} {i:Nat} {s:aH} (h:pB l sg i) (hs:sg[i]? =some s) (ho:iz l sg i s):pB l sg (i+1):=fun j z hj hz=>by
 rcases Nat.lt_or_ge j i with q|q
 ·exact h j z q hz
 ·obtain rfl:j=i:=by omega
  rw [hs] at hz; cases hz; exact ho
theorem x7 {l:bg} {r:cr} {i:Nat} (h1:0≤r.Start∧r.Start≤r.fI∧r.fI≤86400000) (h2:r.aa.length≤10) (h:pB l r.aa i) (hi:r.aa.length≤i):dW l r:=
 ⟨h1,h2,fun j s hs=>h j s (by have:=(aX.1 hs).1; omega) hs⟩
noncomputable def oh (l:bg) (sg:List aH) (b k:Nat):Option (Int×ag):=(sg[k]?).bind fun s=>if s.eZ=(b:Int)∧(cJ l s).Lo≤(cJ l s).Hi then some ((k:Int),cJ l s) else none
noncomputable def lT (l:bg) (sg:List aH) (i b:Nat):TM:=(List.range i).filterMap (oh l sg b)
noncomputable def cP (l:bg) (sg:List aH) (i:Nat):List TM:=(List.range l.ab.length).map (lT l sg i)
noncomputable def cd (l:bg) (n:Nat):List Int:=(List.range n).map (eu l)
theorem rI {l:bg} {n:Nat}:cd l (n+1)=cd l n++[eu l n]:=by simp [cd,List.range_succ]
theorem cE {l:bg} {n:Nat}:(cd l n).length=n:=by simp [cd]
theorem g0 {l:bg} {sg:List aH} {i:Nat}:(cP l sg i).length=l.ab.length:=by simp [cP]
theorem qc {l:bg} {sg:List aH} {i b:Nat} (h:b<l.ab.length):(cP l sg i)[b]? =some (lT l sg i b):=by simp [cP,h]
theorem qH {l:bg} {sg:List aH} {b k:Nat} {q:Int×ag}:oh l sg b k=some q↔ ∃ s,sg[k]? =some s∧(s.eZ=(b:Int)∧(cJ l s).Lo≤(cJ l s).Hi)∧q=((k:Int),cJ l s):=by
 unfold oh
 cases h:sg[k]? with
 |none=>simp
 |some s=>
  simp only [Option.bind_some,Option.some.injEq]
  by_cases e:s.eZ=(b:Int)∧(cJ l s).Lo≤(cJ l s).Hi
  ·rw [if_pos e]
   constructor
   ·intro h; cases h; exact ⟨s,rfl,e,rfl⟩
   ·rintro ⟨s',rfl,_,rfl⟩; rfl
  ·rw [if_neg e]
   constructor
   ·intro h; cases h
   ·rintro ⟨s',rfl,e',_⟩; exact absurd e' e
theorem tM {l:bg} {sg:List aH} {i b:Nat} {q:Int×ag}:q∈lT l sg i b↔ ∃ k,k<i∧ ∃ s,sg[k]? =some s∧(s.eZ=(b:Int)∧(cJ l s).Lo≤(cJ l s).Hi)∧q=((k:Int),cJ l s):=by
 unfold lT
 simp only [List.mem_filterMap,List.mem_range,qH]
theorem lV {l:bg} {sg:List aH} {i b:Nat}:lT l sg (i+1) b=lT l sg i b++(oh l sg b i).toList:=by
 unfold lT
 rw [List.range_succ,List.filterMap_append]
 congr 1
theorem yC {l:bg} {sg:List aH}:cP l sg 0=List.replicate l.ab.length []:=by
 unfold cP
 rw [List.eq_replicate_iff]
 refine ⟨sm,fun t ht=>?_⟩
 obtain ⟨b,_,rfl⟩:=cp.1 ht
 rfl
theorem qy {l:bg} {sg:List aH} {i:Nat} {s:aH} (hs:sg[i]? =some s) (h: ¬ (cJ l s).Lo≤(cJ l s).Hi):cP l sg (i+1)=cP l sg i:=by
 unfold cP
 apply List.map_congr_left
 intro b _
 rw [lV]
 have:oh l sg b i=none:=by
  cases e:oh l sg b i with
  |none=>rfl
  |some q=>obtain ⟨s',A,⟨_,B⟩,_⟩:=qH.1 e; rw [hs] at A; cases A; exact absurd B h
 rw [this]; simp
theorem sL {l:bg} {sg:List aH} {i:Nat} {s:aH} (hs:sg[i]? =some s) (hb:0≤s.eZ∧s.eZ≤(l.ab.length:Int)-1) (h:(cJ l s).Lo≤(cJ l s).Hi) {x:TM} (hx:(cP l sg i)[s.eZ.toNat]? =some x):
 (cP l sg i).set s.eZ.toNat (eA x (i:Int) (cJ l s))=cP l sg (i+1):=by
 have A:s.eZ.toNat<l.ab.length:=by omega
 rw [qc A] at hx
 cases hx
 have B:eA (lT l sg i s.eZ.toNat) (i:Int) (cJ l s)=lT l sg (i+1) s.eZ.toNat:=by
  have hn:(lT l sg i s.eZ.toNat).lookup (i:Int)=none:=ij.2 fun p hp e=>by
   obtain ⟨k,hk,_,_,_,rfl⟩:=tM.1 hp
   simp only at e; omega
  have ho:oh l sg s.eZ.toNat i=some ((i:Int),cJ l s):=qH.2 ⟨s,hs,⟨I,h⟩,rfl⟩
  rw [lV,ho]
  unfold eA; rw [hn]; rfl
 rw [B]
 apply List.ext_getElem?
 intro b
 rw [List.getElem?_set]
 by_cases e:s.eZ.toNat=b
 ·rw [if_pos e,g0,← e,if_pos A,qc A]
 ·rw [if_neg e]
  by_cases hb':b<l.ab.length
  ·rw [qc hb',qc hb',lV]
   have:oh l sg b i=none:=by
    cases e2:oh l sg b i with
    |none=>rfl
    |some q=>obtain ⟨s',C,⟨D,_⟩,_⟩:=qH.1 e2; rw [hs] at C; cases C; exact absurd I e
   rw [this]; simp
  ·rw [List.getElem?_eq_none (by rw [g0]; omega),List.getElem?_eq_none (by rw [g0]; omega)]
noncomputable def bP (l:bg) (r:cr):bZ:=⟨r.Start,r.fI,cd l l.ab.length,cP l r.aa r.aa.length,l.dE,l.fT,(r.aa.length:Int)⟩
theorem CM {l:bg} (ht:du l.aR=true) (h:mh l) {i:Nat} (hi:i<l.ab.length):1≤eu l i∧eu l i≤500000000:=by
 have A:=DK ht h.re i
 have B:=h.Q5 i hi
 have C:=h.head.1
 unfold eu pJ
 refine ⟨(Int.le_ediv_iff_mul_le I).2 I,?_⟩
 have:(1000*l8 l i+l.iN-1)/l.iN≤1000*l8 l i+l.iN-1:=Int.ediv_le_self _ I
 omega
theorem NC (l:bg) (s:aH):0≤(cJ l s).Lo∧(cJ l s).Hi≤86400000:=by
 have A:=jd (p:=gv (my l s) s.Read) (n:=86400001)
 have B:=jd (p:=gu (my l s) s.Read) (n:=86400001)
 unfold cJ mD
 simp only
 omega
theorem kO {l:bg} {r:cr} (ht:du l.aR=true) (h:mh l) (hr:dW l r):HU (bP l r):=by
 have hh:=h.head
 unfold eY at hh
 refine ⟨?_,by simp [bP,g0,bZ.n,cE],hr.time,fun x hx=>?_,fun t A p hp=>?_⟩
 ·show (cd l l.ab.length).length≤6
  rw [cE]; omega
 ·obtain ⟨i,hi,rfl⟩:=cp.1 hx
  exact CM ht h (List.mem_range.1 hi)
 ·obtain ⟨b,hb,rfl⟩:=cp.1 A
  obtain ⟨k,hk,s,hs,⟨_,B⟩,rfl⟩:=tM.1 hp
  have C:=NC l s
  have D:=hr.len
  simp only
  omega
noncomputable def dG (l:bg) (r:cr) (me:Int):Int:=if dw l=0 then (if dW l r then (if me=0 then (if iy (bP l r)=[] then 8 else 0) else me) else 51) else dw l
theorem gS {l:bg} {r:cr} {me:Int} (h: ¬ dw l=0):dG l r me=dw l:=if_neg h
theorem dp {l:bg} {r:cr} {me:Int} (h:dw l=0) (h2: ¬ dW l r):dG l r me=51:=by unfold dG; rw [if_pos h,if_neg h2]
theorem rN {l:bg} {r:cr} {me:Int} (h:dw l=0) (h2:dW l r) (h3: ¬ me=0):dG l r me=me:=by unfold dG; rw [if_pos h,if_pos h2,if_neg h3]
theorem ia {l:bg} {r:cr} {me:Int} (h:dw l=0) (h2:dW l r) (h3:me=0) (h4:iy (bP l r)=[]):dG l r me=8:=by unfold dG; rw [if_pos h,if_pos h2,if_pos h3,if_pos h4]
theorem l3 {l:bg} {r:cr} {me:Int} (h:dw l=0) (h2:dW l r) (h3:me=0) (h4: ¬ iy (bP l r)=[]):dG l r me=0:=by unfold dG; rw [if_pos h,if_pos h2,if_pos h3,if_neg h4]
theorem iG {l:bg} {r:cr} {me:Int} (h:dG l r me=0):dw l=0∧dW l r∧me=0∧ ¬ iy (bP l r)=[]:=by
 unfold dG at h
 split at h
 ·split at h
  ·split at h
   ·split at h
    ·omega
    ·exact ⟨asm,asm,asm,asm⟩
   ·omega
  ·omega
 ·omega
end
section
def oE (l:List Int):Int:=(l.drop 1).foldl min (l.headD 0)
theorem K_ {l:List Int} {i:Nat} {x:Int} (h:l[i]? =some x) (hi:1≤i):oE (l.take (i+1))=min (oE (l.take i)) x:=by
 have e:l.take (i+1)=l.take i++[x]:=by rw [List.take_add_one,h]; rfl
 have hl:1≤(l.take i).length:=by have:=(aX.1 h).1; rw [List.length_take]; omega
 rw [e]
 cases ht:l.take i with
 |nil=>rw [ht] at hl; simp at hl
 |cons y ys=>simp [oE,List.foldl_append]
theorem HN {l:List Int} {x:Int} (h:l[0]? =some x):oE (l.take 1)=x:=by
 cases l with
 |nil=>simp at h
 |cons y ys=>simp at h; subst h; simp [oE]
theorem DZ: ∀ (l:List Int) (a:Int),(l.foldl min a=a∨l.foldl min a∈l)∧l.foldl min a≤a∧ ∀ x∈l,l.foldl min a≤x
 |[],a=>⟨.inl rfl,sm,sm⟩
 |y::l,a=>by
  obtain ⟨A,C,B⟩:=DZ l (min a y)
  simp only [List.foldl_cons]
  refine ⟨?_,I,?_⟩
  ·rcases A with A|A
   ·rw [A]
    rcases Int.le_total a y with q|q
    ·left; omega
    ·right; rw [show min a y=y by omega]; simp
   ·right; exact dU _ A
  ·intro x hx
   rcases bU.1 hx with rfl|hx
   ·omega
   ·exact B x hx
theorem G3 {l:List Int} (h:l≠[]):oE l∈l∧ ∀ x∈l,oE l≤x:=by
 cases l with
 |nil=>exact absurd rfl h
 |cons y ys=>
  obtain ⟨A,B,C⟩:=DZ ys y
  refine ⟨?_,fun x hx=>?_⟩
  ·rcases A with A|A
   ·simp [oE,A]
   ·exact dU _ (by simpa [oE] using A)
  ·rcases bU.1 hx with rfl|hx
   ·simpa [oE] using B
   ·simpa [oE] using C x hx
noncomputable def ir (l:bg) (r:cr):List Int:=if dG l r 0=0 then iy (bP l r) else []
theorem k7 {l:bg} {r:cr} (h:dG l r 0=0):ir l r=iy (bP l r):=if_pos h
theorem n7 {l:bg} {r:cr} (h: ¬ dG l r 0=0):ir l r=[]:=if_neg h
theorem wi {l:bg} {r:cr} (h:dG l r 0=0):ir l r≠[]:=by rw [k7 h]; exact (iG h).2.2.2
theorem EE {l:bg} {r:cr} (h:dG l r 0=0):1≤(ir l r).length:=List.length_pos_iff.2 (wi h)
theorem EW {l:bg} {r:cr}:(ir l r).length≤100:=by
 unfold ir
 split
 ·rename_i h
  obtain ⟨A,B,_⟩:=iG h
  obtain ⟨ht,ho⟩:=dq A
  have:=(kO ht ho B).n
  have C:=uk (w:=bP l r) (k:=(bP l r).n+1)
  unfold iy; omega
 ·simp
noncomputable def iA (l:bg) (b:Int):Int:=if 0≤b∧b≤(l.ab.length:Int)-1 then 0 else 2
theorem uX {l:bg} {b:Int} (h:0≤b∧b≤(l.ab.length:Int)-1):iA l b=0:=if_pos h
theorem Eo {l:bg} {b:Int} (h:iA l b=0):0≤b∧b≤(l.ab.length:Int)-1:=by
 unfold iA at h
 split at h
 ·assumption
 ·omega
noncomputable def lv (l:bg) (r:cr) (b:Nat):ag:=jw (gp (bP l r) b)
noncomputable def dj (l:bg) (r:cr) (b:Int):Int:=if dG l r (iA l b)=0 then (if lv l r b.toNat=jJ then 6 else 0) else dG l r (iA l b)
noncomputable def cV (l:bg) (r:cr) (b:Int):ag:=if dj l r b=0 then lv l r b.toNat else gV
theorem jF {l:bg} {r:cr} {b:Int} (h: ¬ dG l r (iA l b)=0):dj l r b=dG l r (iA l b)∧cV l r b=gV:=by
 have e:dj l r b=dG l r (iA l b):=if_neg h
 exact ⟨e,by unfold cV; rw [if_neg (by rw [e]; exact h)]⟩
theorem lX {l:bg} {r:cr} {b:Nat} (h:dG l r (iA l b)=0) (h2:lv l r b=jJ):dj l r b=6∧cV l r b=gV:=by
 have e:dj l r b=6:=by unfold dj; rw [if_pos h,Int.toNat_natCast,if_pos h2]
 exact ⟨e,by unfold cV; rw [if_neg (by rw [e]; omega)]⟩
theorem jy {l:bg} {r:cr} {b:Nat} (h:dG l r (iA l b)=0) (h2: ¬ lv l r b=jJ):dj l r b=0∧cV l r b=lv l r b:=by
 have e:dj l r b=0:=by unfold dj; rw [if_pos h,Int.toNat_natCast,if_neg h2]
 exact ⟨e,by unfold cV; rw [if_pos e,Int.toNat_natCast]⟩
theorem Lh {w:bZ} (h:HU w) {b:Nat} {q:Int×ag} (hq:q∈gp w b):0≤q.2.Lo∧q.2.Lo≤q.2.Hi∧q.2.Hi≤86400000:=by
 have A:=jx hq
 obtain ⟨o,ho,p,hp,u,hu,e⟩:=ja.1 hq
 obtain ⟨_,_,rfl⟩:=jY.1 e
 have B:=h.opt ho
 simp only [j7] at A ⊢
 omega
theorem uM {l:bg} {r:cr} {b:Int} (h:dj l r b=0):0≤(cV l r b).Lo∧(cV l r b).Lo≤(cV l r b).Hi∧(cV l r b).Hi≤86400000:=by
 have ho:dG l r (iA l b)=0:=by
  by_cases e:dG l r (iA l b)=0
  ·exact e
  ·rw [(jF e).1] at h; exact absurd h e
 obtain ⟨B,C,_⟩:=iG ho
 obtain ⟨ht,A⟩:=dq B
 have hw:=kO ht A C
 have hv:cV l r b=lv l r b.toNat:=by unfold cV; rw [if_pos h]
 have hn:lv l r b.toNat≠jJ:=fun e=>by unfold dj at h; rw [if_pos ho,if_pos e] at h; omega
 have hh:=rY (l:=gp (bP l r) b.toNat) fun q hq=>jx hq
 rw [hv]
 unfold lv at hn ⊢
 rcases hh with ⟨_,e⟩|hh
 ·exact absurd e hn
 ·obtain ⟨x,hx,ex⟩:=hh.lo
  obtain ⟨y,hy,ey⟩:=hh.hi
  have:=Lh hw hx
  have:=Lh hw hy
  have:=hh.le
  omega
noncomputable def Bv (l:bg) (r:cr):ag:=if dj l r l.bM=0 then ⟨(cV l r l.bM).Lo-r.Start,(cV l r l.bM).Hi-r.Start⟩ else gV
theorem AK {l:bg} {r:cr} (h:dj l r l.bM=0):Bv l r=⟨(cV l r l.bM).Lo-r.Start,(cV l r l.bM).Hi-r.Start⟩:=if_pos h
theorem Ez {l:bg} {r:cr} (h: ¬ dj l r l.bM=0):Bv l r=gV:=if_neg h
theorem lZ {l:bg} {r:cr} {b:Int} (h:dj l r b=0):dW l r:=by
 by_cases e:dG l r (iA l b)=0
 ·exact (iG e).2.1
 ·rw [(jF e).1] at h; exact absurd h e
theorem Aw {k:List (Int×ag)} {h:ag} {q:Int×ag} {z:ag} (hh:lj k h) (hq:q.2.Lo≤q.2.Hi) (hz:ni h q.2=z):lj (k++[q]) z:=by subst hz; exact wb hh hq
end
section
def mM (l:bg):Prop:=(20<(l.aR.length:Int)∨8<(l.aj.length:Int)∨10<(l.ab.length:Int))∨ ∃ c∈l.aj,10<(c.bu.length:Int)
noncomputable instance (l:bg):Decidable (mM l):=Classical.propDecidable _
/-- what is asked of a line that comes in -/
structure qm (l:bg) (az:List RA):Prop where
 sZ:l.aR.length≤9223372036854775807
 side: ∀ x∈l.aR,0≤x.jD∧x.jD≤255
 rn:l.aj.length≤9223372036854775807
 n_:az.length=l.aj.length
 sB:l.ab.length≤9223372036854775807
 Rr: ∀ (k:Nat) m (a:RA),l.aj[k]? =some m→az[k]? =some a→m.bu.length≤a.2∧m.bu.length≤9223372036854775807
def Ba (l:bg) (i:Nat):Prop:= ∀ (j:Nat) c,j<i→l.aj[j]? =some c→(c.bu.length:Int)≤10
theorem Ml {l:bg} {i:Nat} (h: ¬ (20<(l.aR.length:Int))∧ ¬ (8<(l.aj.length:Int))∧ ¬ (10<(l.ab.length:Int))) (hi:l.aj.length≤i) (hs:Ba l i): ¬ mM l:=by
 rintro (A|⟨c,hc,B⟩)
 ·omega
 ·obtain ⟨k,hk⟩:=List.getElem?_of_mem hc
  have:=hs k c (by have:=(aX.1 hk).1; omega) hk
  omega
theorem JH {l:bg} {i:Nat} {c:ax} (hc:l.aj[i]? =some c) (h:10<(c.bu.length:Int)):mM l:= .inr ⟨c,aQ hc,h⟩
theorem mH {α:Type} {l:List α} {P:Nat→α→Prop} {i:Nat} {x:α} (h: ∀ (j:Nat) y,j<i→l[j]? =some y→P j y) (hx:l[i]? =some x) (hp:P i x): ∀ (j:Nat) y,j<i+1→l[j]? =some y→P j y:=fun j y hj hy=>by
 by_cases e:j=i
 ·subst e; rw [hx] at hy; cases hy; exact hp
 ·exact h j y I hy
theorem yM {α:Type} {l:List α} {P:Nat→α→Prop} {i:Nat} (hi:l.length≤i) (h: ∀ (j:Nat) y,j<i→l[j]? =some y→P j y): ∀ (j:Nat) y,l[j]? =some y→P j y:=fun j y hy=>h j y (by have:=(aX.1 hy).1; omega) hy
theorem xY {α:Type} {l:List α} {P:α→Prop} {i:Nat} (hi:l.length≤i) (h: ∀ (j:Nat) y,j<i→l[j]? =some y→P y): ∀ y∈l,P y:=fun y hy=>by
 obtain ⟨k,hk⟩:=List.getElem?_of_mem hy
 exact yM (P:=fun _ y=>P y) hi h k y hk
theorem DP {l:bg} (h: ¬ mM l):(l.aR.length:Int)≤20∧(l.aj.length:Int)≤8∧(l.ab.length:Int)≤10∧ ∀ c∈l.aj,(c.bu.length:Int)≤10:=by
 unfold mM at h
 rw [not_or] at h
 refine ⟨I,I,I,fun c hc=>?_⟩
 have:=h.2
 rcases Int.lt_or_le 10 (c.bu.length:Int) with q|q
 ·exact absurd ⟨c,hc,q⟩ this
 ·exact q
theorem qm.small {l:bg} {az:List RA} (h:qm l az) (hg: ¬ mM l):ep l az:=by
 have A:=DP hg
 exact ⟨I,h.side,I,h.n_,I,fun k m a hm ha=>⟨(h.Rr k m a hm ha).1,by have:=A.2.2.2 m (aQ hm); omega⟩⟩
def GH (c:ax) (x:cz) (k:Nat):Prop:= ∀ (j:Nat) o,j<k→c.bu[j]? =some o→og c x o
def uV (c:ax) (m:Nat):Prop:= ∀ (i:Nat) x,i<m→c.bu[i]? =some x→GH c x i
theorem Ma {c:ax} {m:Nat} (h1:0≤c.dD∧c.dD≤1000) (h2:1≤c.bu.length∧c.bu.length≤5) (hs: ∀ (i:Nat) x,c.bu[i]? =some x→fX c i x) (hm:c.bu.length≤m) (hp:uV c m):eK c:=
 ⟨h1,h2,hs,fun i k x o hx hk ho=>hp i x (by have:=(aX.1 hx).1; omega) hx k o hk ho⟩
theorem EN {c:ax} {m k:Nat} (h:uV c m) (hk: ∀ y,c.bu[m]? =some y→GH c y k) (e:k=m):uV c (m+1):=by
 subst e
 intro i x hi hx
 by_cases e:i=k
 ·subst e; exact hk x hx
 ·exact h i x I hx
noncomputable def lS (c:ax) (at_:Int) (i:Nat):ag:=if i=0 then gV else g8 c at_ i
theorem EL {c:ax} {at_:Int} {i:Nat} (h:eK c) (hi:c.bu.length≤i):lS c at_ i=hH c at_:=by
 have:=h.len
 unfold lS; rw [if_neg I,oq hi]
theorem Bt {c:ax} {at_:Int} {i:Nat} {x:cz} (h:eK c) (ha:0≤at_∧at_≤90000000) (hx:c.bu[i]? =some x) (hi:i=0):
 lS c at_ (i+1)=⟨max (x.eB.Lo-tg c at_ x) (x.eB.Lo-tg c at_ x),min (x.eB.Hi+tg c at_ x) (x.eB.Hi+tg c at_ x)⟩:=by
 subst hi
 have hb:=h.uc hx
 have ho:=wP h.tD ha hb.1
 unfold lS
 rw [if_neg I,kE hx]
 unfold l0 g8
 simp only [List.take_zero,List.foldl_nil,ag.mk.injEq]
 omega
theorem Dk {c:ax} {at_:Int} {i:Nat} {x:cz} (hx:c.bu[i]? =some x) (hi: ¬ i=0):lS c at_ (i+1)=⟨max (lS c at_ i).Lo (x.eB.Lo-tg c at_ x),min (lS c at_ i).Hi (x.eB.Hi+tg c at_ x)⟩:=by
 unfold lS
 rw [if_neg I,if_neg hi,kE hx]; rfl
def iR (ts:List ar) (n:Nat):List ag:=(List.range n).map fun k=>eO ts 0 k
theorem DI {ts:List ar} {n:Nat}:iR ts (n+1)=iR ts n++[eO ts 0 n]:=by simp [iR,List.range_succ]
theorem py {ts:List ar} {n:Nat}:(iR ts n).length=n:=by simp [iR]
theorem qN {ts:List ar} {n k:Nat} {x:ag} (h:(iR ts n)[k]? =some x):x=eO ts 0 k:=by
 unfold iR at h
 rw [dL] at h
 cases hk:(List.range n)[k]? with
 |none=>simp [hk] at h
 |some v=>
  have:=aX.1 hk
  simp at this
  simp [hk] at h
  rw [← h,← this.2]
theorem E7 {ts:List ar} {a b:cK} (h:b.bD<a.bD):kK ts a b=pq (kK ts b a):=by
 unfold kK
 rw [if_pos h,if_neg I]
 unfold zp
 rw [Int.min_comm b.bD a.bD,Int.max_comm b.bD a.bD]
 unfold pq nk
 simp only [ag.mk.injEq]
 omega
theorem ry {ts:List ar} {a b:cK} (h: ¬ b.bD<a.bD):kK ts a b=nk (nk (eO ts a.bD.toNat (b.bD-a.bD).toNat) b.nB) (pq a.nB):=by
 unfold kK zp
 rw [if_neg h,Int.min_eq_left I,Int.max_eq_right I]
end
section
def eV (m:List ao) (a:cN):List aB:=rd a.1.1 m.length 7 (List.zipWith ao.cells m a.2)::a_ ao.gG m a.2
structure QW (h:List ao) (a:cN):Prop where
 len:h.length≤1000000
 n_:a.2.length=h.length
 sig: ∀ d∈h,d.aZ.aa.length≤1000000
structure lO (r:dY) (az:List RA) (ha:List cN):Prop where
 line:ep r.ak az
 iK:r.aY.length≤1000000
 draw:r.b_.length≤12
 iJ:r.aA.length≤1000000
 has:ha.length=r.aA.length
 gM: ∀ (k:Nat) h (a:cN),r.aA[k]? =some h→ha[k]? =some a→QW h a
structure sJ (r:dY) (az:List RA) (ha:List cN):Prop where
 line:qm r.ak az
 iK:r.aY.length≤9223372036854775807
 draw:r.b_.length≤9223372036854775807
 iJ:r.aA.length≤9223372036854775807
 has:ha.length=r.aA.length
 gM: ∀ (k:Nat) h (a:cN),r.aA[k]? =some h→ha[k]? =some a→h.length≤9223372036854775807∧a.2.length=h.length∧ ∀ d∈h,d.aZ.aa.length≤9223372036854775807
def pV (h:List ao):Prop:=8<(h.length:Int)∨ ∃ d∈h,15<(d.aZ.aa.length:Int)
def mI (r:dY):Prop:=(mM r.ak∨8<(r.aY.length:Int)∨8<(r.b_.length:Int)∨5<(r.aA.length:Int))∨ ∃ h∈r.aA,pV h
noncomputable instance (r:dY):Decidable (mI r):=Classical.propDecidable _
theorem GP {r:dY} (h: ¬ mI r): ¬ mM r.ak∧(r.aY.length:Int)≤8∧(r.b_.length:Int)≤8∧(r.aA.length:Int)≤5∧ ∀ h∈r.aA,(h.length:Int)≤8∧ ∀ d∈h,(d.aZ.aa.length:Int)≤15:=by
 unfold mI at h
 obtain ⟨A,B⟩:=not_or.1 h
 obtain ⟨C,E⟩:=not_or.1 A
 refine ⟨C,I,I,I,fun x hx=>?_⟩
 have hn: ¬ pV x:=fun q=>B ⟨x,hx,q⟩
 obtain ⟨F,D⟩:=not_or.1 hn
 refine ⟨I,fun d hd=>?_⟩
 rcases Int.lt_or_le 15 (d.aZ.aa.length:Int) with q|q
 ·exact absurd ⟨d,hd,q⟩ D
 ·exact q
theorem sJ.small {r:dY} {az:List RA} {ha:List cN} (h:sJ r az ha) (hg: ¬ mI r):lO r az ha:=by
 have B:=GP hg
 refine ⟨h.line.small B.1,I,I,I,h.has,fun k x a hx A=>?_⟩
 have C:=B.2.2.2.2 x (aQ hx)
 have D:=h.gM k x a hx A
 exact ⟨I,D.2.1,fun d hd=>by have:=C.2 d hd; omega⟩
def ji (r:cr):Prop:=r.Start=0∧r.fI=0∧(r.aa.length:Int)=0
instance (r:cr):Decidable (ji r):=by unfold ji; infer_instance
def mS (s:ag):Prop:=1≤s.Lo∧s.Lo≤s.Hi∧s.Hi≤600000
instance (s:ag):Decidable (mS s):=by unfold mS; infer_instance
def iW (l:bg) (d:ao):Prop:=if d.Out=true then d.cY=false∧d.Time=gV∧ji d.aZ else if d.cY=true then mS d.Time∧ji d.aZ else dj l d.aZ l.bM=0∧d.Time=gV
noncomputable instance (l:bg) (d:ao):Decidable (iW l d):=Classical.propDecidable _
noncomputable def gr (l:bg) (d:ao):ag:=if d.Out=true∨d.cY=true then d.Time else Bv l d.aZ
/-- which kind a descent is of -/
def pz (d:ao):Int:=if d.Out=true then 0 else if d.cY=true then 1 else 2
theorem OC {w:bZ} (h:HU w): ∀ (b:Nat) (p:aK×Int),p∈fwd w b→w.Start≤p.2:=by
 have hl: ∀ b,0≤bW w b:=fun b=>by
  unfold bW
  cases e:w.qe[b]? with
  |none=>simp
  |some x=>have:=h.least x (aQ e); simp; omega
 intro b
 induction b with
 |zero=>intro p hp; simp only [fwd,ck] at hp; subst hp; exact Int.le_refl _
 |succ b ih=>
  intro q hq
  obtain ⟨p,hp,o,ho,e⟩:=gH.1 hq
  unfold lK at e
  split at e
  ·simp only [Option.some.injEq] at e
   subst e
   have:=ih p hp
   have:=hl b
   simp only; omega
  ·cases e
theorem OT {l:bg} {r:cr} {b:Int} (h:dj l r b=0):r.Start≤(cV l r b).Lo:=by
 have ho:dG l r (iA l b)=0:=by
  by_cases e:dG l r (iA l b)=0
  ·exact e
  ·rw [(jF e).1] at h; exact absurd h e
 obtain ⟨B,C,_⟩:=iG ho
 obtain ⟨ht,A⟩:=dq B
 have hw:=kO ht A C
 have hv:cV l r b=lv l r b.toNat:=by unfold cV; rw [if_pos h]
 have hn:lv l r b.toNat≠jJ:=fun e=>by unfold dj at h; rw [if_pos ho,if_pos e] at h; omega
 have hh:=rY (l:=gp (bP l r) b.toNat) fun q hq=>jx hq
 rw [hv]
 unfold lv at hn ⊢
 rcases hh with ⟨_,e⟩|hh
 ·exact absurd e hn
 ·obtain ⟨x,hx,ex⟩:=hh.lo
  obtain ⟨o,ho,p,hp,u,hu,e⟩:=ja.1 hx
  obtain ⟨_,_,rfl⟩:=jY.1 e
  have D:r.Start≤p.2:=OC hw _ p hp
  have E:0≤bW (bP l r) b.toNat:=by
   unfold bW
   cases e:(bP l r).qe[b.toNat]? with
   |none=>simp
   |some x=>have:=hw.least x (aQ e); simp; omega
  simp only [j7] at ex
  omega
theorem Gy {l:bg} {d:ao} (h:iW l d):0≤(gr l d).Lo∧(gr l d).Lo≤(gr l d).Hi∧(gr l d).Hi≤86400000:=by
 unfold iW at h
 unfold gr
 split at h
 ·rename_i q; rw [if_pos (Or.inl q),h.2.1]; simp [gV]
 ·rename_i q
  split at h
  ·rename_i A
   rw [if_pos (Or.inr A)]
   obtain ⟨⟨B,C,D⟩,_⟩:=h
   omega
  ·rename_i A
   rw [if_neg (fun z=>z.elim q A),AK h.1]
   have B:=uM h.1
   have C:=(lZ h.1).time
   have D:=OT h.1
   simp only
   omega
theorem Gg {l:bg} {d:ao} (h:d.Out=true):gr l d=d.Time:=if_pos (Or.inl h)
theorem GX {l:bg} {d:ao} (h:d.Out=false∧d.cY=true):gr l d=d.Time:=if_pos (Or.inr h.2)
theorem GW {l:bg} {d:ao} (h:d.Out=false∧d.cY=false):gr l d=Bv l d.aZ:=if_neg (by simp [h])
theorem m_ {l:bg} {d:ao} (h:d.Out=true):iW l d=(d.cY=false∧d.Time=gV∧ji d.aZ):=if_pos h
theorem ow {l:bg} {d:ao} (h:d.Out=false∧d.cY=true):iW l d=(mS d.Time∧ji d.aZ):=by unfold iW; rw [if_neg (by simp [h]),if_pos h.2]
theorem kF {l:bg} {d:ao} (h:d.Out=false∧d.cY=false):iW l d=(dj l d.aZ l.bM=0∧d.Time=gV):=by unfold iW; rw [if_neg (by simp [h]),if_neg (by simp [h])]
structure fZ (r:dY):Prop where
 num:1≤(r.aY.length:Int)∧(r.aY.length:Int)≤5
 BE:0≤r.lG∧r.lG≤5
 nh:1≤(r.aA.length:Int)∧(r.aA.length:Int)≤3
 ids: ∀ (i:Nat) x,r.aY[i]? =some x→(0≤x∧x≤9999)∧ ∀ y,0<i→r.aY[i-1]? =some y→y<x
 draw:r.b_.Perm ((List.range r.aY.length).map fun (k:Nat)=>(k:Int))
 gM: ∀ h∈r.aA,h.length=r.aY.length∧ ∀ d∈h,iW r.ak d
noncomputable instance (r:dY):Decidable (fZ r):=Classical.propDecidable _
noncomputable def il (r:dY):Int:=if dw r.ak=0 then (if fZ r then 0 else 60) else dw r.ak
end
section
theorem oi {α β:Type} {f g:α→Option β}: ∀ {l:List α},(∀ x∈l,f x=g x)→l.filterMap f=l.filterMap g
 |[],_=>rfl
 |x::l,h=>by simp only [List.filterMap_cons,h x cD,oi (l:=l) (fun y hy=>h y (dU _ hy))]
abbrev nF:=List (Int×ag)
/-- the sum of a sled in some heats, the first ones -/
noncomputable def ku (l:bg) (hs:List (List ao)) (i:Nat):Nat→Option ag
 |0=>some ⟨0,0⟩
 |k+1=>match ku l hs i k,(hs[k]?).bind (·[i]?) with
  |some s,some d=>if d.Out=true then none else some ⟨s.Lo+(gr l d).Lo/10,s.Hi+(gr l d).Hi/10⟩
  |_,_=>none
noncomputable def eH (l:bg) (hs:List (List ao)) (n h i:Nat):nF:=(List.range n).filterMap fun q=>(ku l hs q (if q<i then h+1 else h)).map fun s=>((q:Int),s)
noncomputable def CV (r:dY) (k:Nat):nF:=(List.range r.aY.length).filterMap fun q=>(ku r.ak r.aA q k).map fun s=>((q:Int),s)
noncomputable def nx (r:dY):nF:=CV r r.aA.length
section
variable {l:bg} {hs:List (List ao)} {n h i q:Nat} {s:ag} {d:ao}
theorem CC:eH l hs n h 0=(List.range n).filterMap fun q=>(ku l hs q h).map fun s=>((q:Int),s):=by
 unfold eH
 apply oi
 intro q _
 rw [if_neg (Nat.not_lt_zero _)]
theorem NK:eH l hs n h n=eH l hs n (h+1) 0:=by
 rw [CC]
 unfold eH
 apply oi
 intro q hq
 rw [if_pos (List.mem_range.1 hq)]
theorem Ie {x:List ao} (hx:hs[h]? =some x) (hd:x[i]? =some d) (ho:d.Out=true):ku l hs i (h+1)=none:=by
 unfold ku
 rw [hx]
 simp only [Option.bind_some,hd]
 cases ku l hs i h with
 |none=>rfl
 |some s=>simp [ho]
theorem EV (h0:ku l hs i h=none):ku l hs i (h+1)=none:=by unfold ku; rw [h0]
theorem Fl {x:List ao} (hx:hs[h]? =some x) (hd:x[i]? =some d) (ho: ¬ d.Out=true) (hs0:ku l hs i h=some s):ku l hs i (h+1)=some ⟨s.Lo+(gr l d).Lo/10,s.Hi+(gr l d).Hi/10⟩:=by
 unfold ku
 rw [hx,hs0]
 simp only [Option.bind_some,hd,if_neg ho]
end
section
variable {l:bg} {hs:List (List ao)} {n h i q:Nat} {s t:ag}
theorem Sq {K β:Type} [DecidableEq K] {L Y:List (K×β)} {t:K}:(L++Y).lookup t=match L.lookup t with |some v=>some v|none=>Y.lookup t:=by
 induction L with
 |nil=>rfl
 |cons p L ih=>
  obtain ⟨k,u⟩:=p
  by_cases e:t==k
  ·simp [List.lookup,e]
  ·have:(t==k)=false:=by simpa using e
   simp only [List.cons_append,List.lookup,this,ih]
theorem wG {f:Nat→Option ag}: ∀ (n i:Nat),((List.range n).filterMap fun q=>(f q).map fun s=>((q:Int),s)).lookup (i:Int)=if i<n then f i else none
 |0,i=>by simp
 |n+1,i=>by
  rw [List.range_succ,List.filterMap_append,Sq,wG n i]
  by_cases c:i<n
  ·rw [if_pos c,if_pos I]
   cases e:f i with
   |some s=>rfl
   |none=>
    simp only
    cases e2:f n with
    |none=>simp [e2]
    |some u=>
     have:((i:Int)==(n:Int))=false:=by simp only [beq_eq_false_iff_ne,ne_eq]; omega
     simp [e2,List.lookup,this]
  ·rw [if_neg c]
   simp only
   by_cases A:i=n
   ·subst A
    rw [if_pos I]
    cases e2:f i with
    |none=>simp [e2]
    |some u=>simp [e2]
   ·rw [if_neg I]
    have:((i:Int)==(n:Int))=false:=by simp only [beq_eq_false_iff_ne,ne_eq]; omega
    cases e2:f n with
    |none=>simp [e2]
    |some u=>simp [e2,List.lookup,this]
theorem yA:(eH l hs n h i).lookup (q:Int)=if q<n then ku l hs q (if q<i then h+1 else h) else none:=wG n q
theorem QS {f g:Nat→Option ag} {n i:Nat} (hi:i<n) {s:ag} (hf:(f i).isSome=true) (hg:g i=some s) (hfg: ∀ q,q≠i→f q=g q):eA ((List.range n).filterMap fun q=>(f q).map fun s=>((q:Int),s)) (i:Int) s=(List.range n).filterMap fun q=>(g q).map fun s=>((q:Int),s):=by
 unfold eA
 rw [if_pos (by rw [wG,if_pos hi]; exact hf),List.map_filterMap]
 apply oi
 intro q _
 by_cases e:q=i
 ·subst e
  obtain ⟨u,hu⟩:=Option.isSome_iff_exists.1 hf
  rw [hu,hg]; simp
 ·rw [hfg q e]
  cases g q with
  |none=>rfl
  |some u=>
   have: ¬ ((q:Int)=(i:Int)):=by omega
   simp [this]
theorem Qm {f g:Nat→Option ag} {n i:Nat} (hg:g i=none) (hfg: ∀ q,q≠i→f q=g q):fH ((List.range n).filterMap fun q=>(f q).map fun s=>((q:Int),s)) (i:Int)=(List.range n).filterMap fun q=>(g q).map fun s=>((q:Int),s):=by
 unfold fH
 rw [List.filter_filterMap]
 apply oi
 intro q _
 by_cases e:q=i
 ·subst e
  rw [hg]
  cases f q with
  |none=>rfl
  |some u=>simp
 ·rw [hfg q e]
  cases g q with
  |none=>rfl
  |some u=>
   have: ¬ ((q:Int)=(i:Int)):=by omega
   simp [this]
theorem O7 (hi:i<n) (h0:(ku l hs i h).isSome=true) (h1:ku l hs i (h+1)=some s):eA (eH l hs n h i) (i:Int) s=eH l hs n h (i+1):=by
 unfold eH
 refine QS hi (by rw [if_neg (Nat.lt_irrefl i)]; exact h0) (by rw [if_pos (Nat.lt_succ_self i)]; exact h1) fun q hq=>?_
 by_cases c:q<i
 ·rw [if_pos c,if_pos I]
 ·rw [if_neg c,if_neg I]
theorem Gr (h1:ku l hs i (h+1)=none):fH (eH l hs n h i) (i:Int)=eH l hs n h (i+1):=by
 unfold eH
 refine Qm (by rw [if_pos (Nat.lt_succ_self i)]; exact h1) fun q hq=>?_
 by_cases c:q<i
 ·rw [if_pos c,if_pos I]
 ·rw [if_neg c,if_neg I]
end
def s_ (m:nF) (i:Int):nF:=m.filter fun p=> !decide (p.1=i)
def pw (m:nF) (i n:Int):Nat:=(s_ m i).countP fun p=>decide (p.2.Hi<n)
def uH (m:nF) (i n:Int):Nat:=(s_ m i).countP fun p=>decide (p.2.Lo<n)
def uK (m:nF) (i:Int) (own:ag):List Int:=own.Lo::((s_ m i).flatMap fun p=>[p.2.Lo+1,p.2.Hi+1]).filter fun n=>decide (own.Lo≤n∧n≤own.Hi)
def FF (m:nF) (i:Int) (own:ag) (k:Int):Prop:= ∃ n∈uK m i own,(pw m i n:Int)+1≤k∧k≤(uH m i n:Int)+1
noncomputable instance (m:nF) (i:Int) (own:ag) (k:Int):Decidable (FF m i own k):=Classical.propDecidable _
noncomputable def v_ (m:nF) (i:Int) (own:ag):List Int:=((List.range m.length).map fun (k:Nat)=>(k:Int)+1).filter fun k=>decide (FF m i own k)
section
variable {m:nF} {i:Int} {own:ag}
/-- what a point stands for -/
theorem JZ {x:Int} (h1:own.Lo≤x) (h2:x≤own.Hi): ∃ n∈uK m i own,n≤x∧pw m i n=pw m i x∧uH m i n=uH m i x:=by
 -- the greatest point that is no greater
 have key: ∀ (d:Nat) (x:Int),own.Lo≤x→x≤own.Hi→(x-own.Lo).toNat=d→ ∃ n∈uK m i own,n≤x∧pw m i n=pw m i x∧uH m i n=uH m i x:=by
  intro d
  induction d with
  |zero=>
   intro x h1 h2 hd
   have:x=own.Lo:=by omega
   exact ⟨own.Lo,cD ..,I,by rw [this],by rw [this]⟩
  |succ d ih=>
   intro x h1 h2 hd
   by_cases c:x∈uK m i own
   ·exact ⟨x,c,Int.le_refl _,U,U⟩
   ·obtain ⟨n,hn,D,B,C⟩:=ih (x-1) I I I
    have A: ∀ p∈s_ m i,p.2.Lo+1≠x∧p.2.Hi+1≠x:=fun p hp=>by
     constructor<;>intro e<;>apply c<;>refine dU _ (List.mem_filter.2 ⟨List.mem_flatMap.2 ⟨p,hp,by rw [← e]; simp⟩,dM ⟨h1,h2⟩⟩)
    refine ⟨n,hn,I,?_,?_⟩
    ·rw [B]
     unfold pw
     apply List.countP_congr
     intro p hp
     have:=(A p hp).2
     rw [decide_eq_true_eq,decide_eq_true_eq]
     omega
    ·rw [C]
     unfold uH
     apply List.countP_congr
     intro p hp
     have:=(A p hp).1
     rw [decide_eq_true_eq,decide_eq_true_eq]
     omega
 exact key _ x h1 h2 U
theorem LR {n:Int} (ho:own.Lo≤own.Hi) (h:n∈uK m i own):own.Lo≤n∧n≤own.Hi:=by
 rcases bU.1 h with rfl|h
 ·omega
 ·exact of_decide_eq_true (List.mem_filter.1 h).2
/-- a rank comes about at some sum -/
theorem Cv (ho:own.Lo≤own.Hi) {k:Int}:FF m i own k↔ ∃ x,own.Lo≤x∧x≤own.Hi∧(pw m i x:Int)+1≤k∧k≤(uH m i x:Int)+1:=by
 constructor
 ·rintro ⟨n,hn,A,B⟩
  have:=LR ho hn
  exact ⟨n,this.1,this.2,A,B⟩
 ·rintro ⟨x,A,B,E,F⟩
  obtain ⟨n,hn,_,C,D⟩:=JZ (m:=m) (i:=i) A B
  exact ⟨n,hn,by rw [C]; exact E,by rw [D]; exact F⟩
end
end
section
def rU (l:List Int):List (List Value):=l.map fun x=>[vI x]
theorem ve {l:List Int}:(rU l).length=l.length:=by simp [rU]
theorem I1 {l:List Int} {k:Nat} {x:Int} (h:l[k]? =some x):(rU l)[k]? =some [vI x]:=by simp [rU,h]
theorem G4 {l:List Int} {k:Nat} {x:List Value} (h:(rU l)[k]? =some x): ∃ y,l[k]? =some y∧x=[vI y]:=by
 simp only [rU,dL,Option.map_eq_some_iff] at h
 obtain ⟨y,hy,rfl⟩:=h
 exact ⟨y,hy,U⟩
theorem Ff {l:List Int}: ∀ x∈rU l,x.length=1:=fun x hx=>by
 simp only [rU,cp] at hx
 obtain ⟨y,_,rfl⟩:=hx
 rfl
theorem zE {l:List Int}:l.take (rU l).length=l:=by rw [ve,List.take_of_length_le (Nat.le_refl _)]
theorem EB {l:List Int} {k:Nat} {x:Int} (h:l[k]? =some x):l.take (k+1)=l.take k++[x]:=by
 rw [List.take_add_one,h]; rfl
def oJ (l:List Int):List Int:=l.mergeSort fun a b=>decide (a≤b)
theorem mN {l:List Int}:(oJ l).Perm l:=List.mergeSort_perm _ _
theorem uB {l:List Int}:(oJ l).Pairwise (· ≤ ·):=by
 have:=List.pairwise_mergeSort (le:=fun (a b:Int)=>decide (a≤b)) (fun a b c A B=>by simp at A B ⊢; omega) (fun a b=>by simp; omega) l
 exact this.imp fun h=>by simpa using h
@[simp] theorem uC {l:List Int}:(oJ l).length=l.length:=mN.length_eq
theorem CW {l m:List Int} (h1:m.Perm l) (h2:m.Pairwise (· ≤ ·)):m=oJ l:=tn (h1.trans mN.symm) h2 uB
end
section
open Go.RowKit
def sC (s:bE):List Value:=[vS s.a s.n s.c]
theorem Ay: ∀ s,(sC s).length=1:=fun s=>rfl
theorem KG (l:List bE): ∀ v∈(l.map sC).flatten,v.oneCell'=true:=lu (fun s=>rfl) l
def Dm (l:List ag) (a:RA):bE:=⟨a.1,l.length,a.2⟩
def OK (l:List ag) (a:RA):List Value:=[vS a.1 l.length a.2]
def Sv (l:List ag) (a:RA):List aB:=[rd a.1 l.length 2 (l.map ag.cells)]
def GV (l:List ag) (a:RA):List aB:=[own a.1 a.2 MR 2 (l.map ag.cells)]
theorem z8 {ls:List (List ag)} {az:List RA}:(List.zipWith Dm ls az).map sC=List.zipWith OK ls az:=by
 rw [List.map_zipWith]; rfl
theorem US: ∀ (m:List ag) (a:RA) (w:World),(∀ X∈GV m a,X.holds w)→ ∀ X∈Sv m a,X.holds w:=fun m a w h X hX=>by
 simp only [Sv,ck] at hX
 subst hX
 have:=oo (h _ (ck.2 rfl))
 simpa using this
theorem E5 {l:List (List ag)} {bz:List RA}:(bK (a_ GV l bz)).wr=true:=by
 show (a_ GV l bz).all (·.wr)=true
 rw [de]
 intro X hX
 obtain ⟨k,m,a,_,_,h⟩:=ky hX
 simp only [GV,ck] at h
 subst h; rfl
theorem Pa {ls:List (List ag)} {az:List RA} (h:az.length=ls.length):(List.zipWith OK ls az).length=ls.length:=by simp [h]
noncomputable def hG (r:dY) (i:Nat):List (List ag):=(r.aA.take i).map fun h=>h.map (gr r.ak)
noncomputable def gn (r:dY):List (List ag):=hG r r.aA.length
section
variable {r:dY} {i:Nat} {h:List ao} {tz:List RA} {a:RA}
theorem wY (hh:r.aA[i]? =some h):hG r (i+1)=hG r i++[h.map (gr r.ak)]:=by unfold hG; rw [List.take_add_one,hh,List.map_append]; rfl
theorem lR (hi:i≤r.aA.length):(hG r i).length=i:=by unfold hG; rw [List.length_map,List.length_take]; omega
theorem kJ:(gn r).length=r.aA.length:=lR (Nat.le_refl _)
theorem EJ (hh:r.aA[i]? =some h):(gn r)[i]? =some (h.map (gr r.ak)):=by
 unfold gn hG
 rw [List.take_length,dL,hh]; rfl
theorem Ih {m:List ag} (hh:r.aA[i]? =some h) (hm:(gn r)[i]? =some m):m=h.map (gr r.ak):=by
 rw [EJ hh] at hm
 exact (Option.some.inj hm).symm
theorem uS (hh:r.aA[i]? =some h) (hl:tz.length=i):List.zipWith Dm (hG r (i+1)) (tz++[a])=List.zipWith Dm (hG r i) tz++[Dm (h.map (gr r.ak)) a]:=by
 have hi:=(aX.1 hh).1
 rw [wY hh,List.zipWith_append (by rw [lR I,hl])]
 rfl
theorem CZ (hh:r.aA[i]? =some h) (hl:tz.length=i):a_ GV (hG r i) tz++[own a.1 a.2 MR 2 ((h.map (gr r.ak)).map ag.cells)]=a_ GV (hG r (i+1)) (tz++[a]):=by
 have hi:=(aX.1 hh).1
 rw [wY hh,jU (by rw [lR I,hl])]
 simp [a_,GV]
end
theorem Av {lo hi:Int} {l:List Int}:qX lo hi l=true↔ ∀ x∈l,lo≤x∧x≤hi:=by
 unfold qX
 rw [Bool.not_eq_true',List.any_eq_false]
 constructor
 ·intro h x hx; have:=h x hx; simp only [decide_eq_true_eq] at this; omega
 ·intro h x hx; have:=h x hx; simp only [decide_eq_true_eq]; omega
abbrev Ig (n:Nat):List Int:=(List.range n).map fun (k:Nat)=>(k:Int)
theorem ym (n:Nat):(Ig n).Pairwise (· ≤ ·):=by
 unfold Ig
 rw [List.pairwise_map]
 exact List.pairwise_lt_range.imp fun h=>by omega
theorem B_ {l:List Int} {n:Nat} (h:l.Perm (Ig n)):oJ l=Ig n:=(CW h.symm (ym n)).symm
theorem Io {l:List Int} {n:Nat} (hl:l.length=n) (h: ∀ j,j<n→ ∀ x,(oJ l)[j]? =some x→x=(j:Int)):l.Perm (Ig n):=by
 have e:oJ l=Ig n:=by
  apply List.ext_getElem
  ·simp [hl]
  ·intro j A B
   have C:j<n:=by simpa using B
   have:=h j C _ (eU A)
   simpa using this
 rw [← e]; exact mN.symm
def sU (r:dY) (i:Nat):Prop:= ∀ j,j<i→(∀ x,(oJ r.b_)[j]? =some x→x=(j:Int))∧ ∀ x y,r.aY[j]? =some x→0<j→r.aY[j-1]? =some y→y<x
def Es (r:dY) (h:List ao):Prop:=h.length=r.aY.length∧ ∀ d∈h,iW r.ak d
def kT (r:dY) (i:Nat):Prop:= ∀ (j:Nat) h,j<i→r.aA[j]? =some h→Es r h
def o7 (l:bg) (h:List ao) (k:Nat):Prop:= ∀ (j:Nat) d,j<k→h[j]? =some d→iW l d
section
variable {r:dY} {i:Nat}
theorem Fz:sU r 0:=fun j hj=>absurd hj (Nat.not_lt_zero _)
theorem yx {x:Int} (h:sU r i) (hd:(oJ r.b_)[i]? =some x) (e:x=(i:Int)) (hs: ∀ x y,r.aY[i]? =some x→0<i→r.aY[i-1]? =some y→y<x):sU r (i+1):=fun j hj=>by
 rcases Nat.lt_or_ge j i with q|q
 ·exact h j q
 ·obtain rfl:j=i:=by omega
  exact ⟨fun y hy=>by rw [hd] at hy; cases hy; exact e,hs⟩
theorem yO:kT r 0:=fun j h hj=>absurd hj (Nat.not_lt_zero _)
theorem yr {h:List ao} (hh:kT r i) (hx:r.aA[i]? =some h) (ho:Es r h):kT r (i+1):=fun j y hj hy=>by
 rcases Nat.lt_or_ge j i with q|q
 ·exact hh j y q hy
 ·obtain rfl:j=i:=by omega
  rw [hx] at hy; cases hy; exact ho
theorem xx {l:bg} {h:List ao}:o7 l h 0:=fun j d hj=>absurd hj (Nat.not_lt_zero _)
theorem w5 {l:bg} {h:List ao} {d:ao} (ht:o7 l h i) (hx:h[i]? =some d) (ho:iW l d):o7 l h (i+1):=fun j y hj hy=>by
 rcases Nat.lt_or_ge j i with q|q
 ·exact ht j y q hy
 ·obtain rfl:j=i:=by omega
  rw [hx] at hy; cases hy; exact ho
theorem Gi {h:List ao} (hl:h.length=r.aY.length) (ht:o7 r.ak h i) (hi:h.length≤i):Es r h:=⟨hl,fun d hd=>by
 obtain ⟨j,hj⟩:=List.getElem?_of_mem hd
 exact ht j d (by have:=(aX.1 hj).1; omega) hj⟩
theorem Jl {n:Nat} (hn:n=r.aY.length) (h1:1≤(r.aY.length:Int)∧(r.aY.length:Int)≤5) (h2:r.b_.length=r.aY.length) (h3:0≤r.lG∧r.lG≤5) (h4:1≤(r.aA.length:Int)∧(r.aA.length:Int)≤3) (h5:qX 0 9999 r.aY=true)
 (h6:sU r n) (h7:kT r i) (hi:r.aA.length≤i):fZ r:=by
 subst hn
 refine ⟨h1,h3,h4,fun k x hx=>⟨Av.1 h5 x (aQ hx),fun y hk hy=>?_⟩,Io h2 fun j hj=>(h6 j hj).1,fun h hh=>?_⟩
 ·exact (h6 k (aX.1 hx).1).2 x y hx hk hy
 ·obtain ⟨j,hj⟩:=List.getElem?_of_mem hh
  exact h7 j h (by have:=(aX.1 hj).1; omega) hj
theorem fZ.AR (h:fZ r):r.b_.length=r.aY.length:=by have:=h.draw.length_eq; simpa using this
theorem fZ.ins (h:fZ r):qX 0 9999 r.aY=true:=Av.2 fun x hx=>by
 obtain ⟨j,hj⟩:=List.getElem?_of_mem hx
 exact (h.ids j x hj).1
theorem fZ.drawn (h:fZ r) {x:Int} (hx:(oJ r.b_)[i]? =some x):x=(i:Int):=by
 rw [B_ h.draw] at hx
 have hi:=(aX.1 hx).1
 simp at hi
 rw [dL,List.getElem?_range hi] at hx
 exact (Option.some.inj hx).symm
theorem fZ.OY (h:fZ r):kT r i:=fun j x _ hx=>h.gM x (aQ hx)
theorem zU (h: ¬ dw r.ak=0):il r=dw r.ak:=if_neg h
theorem lE (h:dw r.ak=0) (hn: ¬ fZ r):il r=60:=by unfold il; rw [if_pos h,if_neg hn]
theorem D0 (h:dw r.ak=0) (hn:fZ r):il r=0:=by unfold il; rw [if_pos h,if_pos hn]
theorem d_ (h:il r=0):dw r.ak=0∧fZ r:=by
 unfold il at h
 split at h
 ·split at h
  ·exact ⟨asm,asm⟩
  ·cases h
 ·exact absurd h asm
end
section
variable {r:dY} {k i n h:Nat} {s:ag} {l:bg} {hs:List (List ao)}
theorem GB: ∀ {k:Nat} {s:ag},kT r k→k≤r.aA.length→ku r.ak r.aA i k=some s→0≤s.Lo∧s.Lo≤s.Hi∧s.Hi≤8640000*(k:Int)
 |0,s,_,_,h=>by
  simp only [ku,Option.some.injEq] at h
  subst h; simp
 |k+1,s,hh,hk,h=>by
  unfold ku at h
  split at h
  ·rename_i u d hu hd
   split at h
   ·cases h
   ·cases h
    have A:=GB (fun j x hj hx=>hh j x I hx) I hu
    obtain ⟨x,hx,hd⟩:=Option.bind_eq_some_iff.1 hd
    have B:=Gy ((hh k x I hx).2 d (aQ hd))
    simp only
    push_cast
    omega
  ·cases h
theorem OV:eA (eH l hs i 0 0) (i:Int) ⟨0,0⟩=eH l hs (i+1) 0 0:=by
 have A:(eH l hs i 0 0).lookup (i:Int)=none:=by rw [yA,if_neg (Nat.lt_irrefl i)]
 unfold eA
 rw [A]
 simp only [Option.isSome_none,Bool.false_eq_true,if_false]
 unfold eH
 rw [List.range_succ,List.filterMap_append]
 simp [ku]
theorem Jb (hi:i<n):(eH l hs n h i).lookup (i:Int)=ku l hs i h:=by rw [yA,if_pos hi,if_neg (Nat.lt_irrefl i)]
theorem Q_ {α β:Type} {f:α→β} {tr:List β} {ht:List α} {x:β} {d:α} (e:tr=ht.map f) (hx:tr[i]? =some x) (hd:ht[i]? =some d):x=f d:=by
 rw [e,dL,hd] at hx
 exact (Option.some.inj hx).symm
theorem Od:eH r.ak r.aA r.aY.length h 0=CV r h:=CC
end
end
section
def nD (m:nF) (i:Int):ag:=(m.lookup i).getD gV
def qS (r:dY) (i:Int):Prop:=0≤i∧i≤(r.aY.length:Int)-1
instance (r:dY) (i:Int):Decidable (qS r i):=by unfold qS; infer_instance
noncomputable def Oj (r:dY) (i:Int):Int:=if il r=0 then (if qS r i then (if (nx r).lookup i=none then 6 else 0) else 2) else il r
noncomputable def SU (r:dY) (i:Int):ag:=if Oj r i=0 then nD (nx r) i else gV
noncomputable def Tv (r:dY) (a b:Int):Int:=if il r=0 then (if qS r a∧qS r b∧a≠b then (if (nx r).lookup a=none∨(nx r).lookup b=none then 6 else 0) else 2) else il r
def KT (s t:ag):Int:=if s.Hi<t.Lo then 2 else if s.Lo<t.Hi then 1 else 0
def JD (s t:ag):Int:=if s=t∧s.Lo=s.Hi then 2 else if s.Lo≤t.Hi∧t.Lo≤s.Hi then 1 else 0
noncomputable def On (r:dY) (a b:Int):Int:=if Tv r a b=0 then KT (nD (nx r) a) (nD (nx r) b) else 0
noncomputable def PR (r:dY) (a b:Int):Int:=if Tv r a b=0 then JD (nD (nx r) a) (nD (nx r) b) else 0
noncomputable def AI (r:dY) (i:Int):List Int:=if Oj r i=0 then v_ (nx r) i (nD (nx r) i) else []
section
variable {r:dY} {i a b:Int}
end
end
section
def jn (d:ao):Prop:=d.Out=false∧d.cY=false
instance (d:ao):Decidable (jn d):=by unfold jn; infer_instance
def fh (l:bg) (f:aL):Prop:=(1≤f.Kind∧f.Kind≤3)∧(0≤f.gI∧f.gI≤f.To∧f.To≤86400000)∧0≤f.eW∧f.eW≤(if f.Kind=1 then 0 else l.bM)
instance (l:bg) (f:aL):Decidable (fh l f):=by unfold fh; infer_instance
/-- the descent that a protest is of -/
def pb (j:cR) (p:aT):Option ao:=(j.Race.aA[p.jo.toNat]?).bind (·[p.iX.toNat]?)
structure vQ (j:cR) (i:Nat) (p:aT):Prop where
 id:0≤p.Id∧p.Id≤9999
 up: ∀ q,0<i→j.aw[i-1]? =some q→q.Id<p.Id
 l7:qS j.Race p.iX
 gM:0≤p.jo∧p.jo≤(j.Race.aA.length:Int)-1
 fault:0≤p.iM∧p.iM≤(j.aC.length:Int)-1
 jL: ∃ d,pb j p=some d∧jn d∧d.aZ.Start≤p.At∧p.At≤86400000
structure qn (j:cR):Prop where
 nf:(j.aC.length:Int)≤5
 fault: ∀ f∈j.aC,fh j.Race.ak f
 min_:0≤j.eh∧j.eh≤60
 ui:0≤j.xA∧j.xA≤100000
 np:(j.aw.length:Int)≤8
 hE: ∀ (i:Nat) p,j.aw[i]? =some p→vQ j i p
noncomputable instance (j:cR):Decidable (qn j):=Classical.propDecidable _
noncomputable def di (j:cR):Int:=if il j.Race=0 then (if qn j then 0 else 70) else il j.Race
theorem zO {j:cR} (h: ¬ il j.Race=0):di j=il j.Race:=if_neg h
theorem j9 {j:cR} (h:il j.Race=0) (hn: ¬ qn j):di j=70:=by unfold di; rw [if_pos h,if_neg hn]
theorem yP {j:cR} (h:il j.Race=0) (hn:qn j):di j=0:=by unfold di; rw [if_pos h,if_pos hn]
theorem dF {j:cR} (h:di j=0):il j.Race=0∧qn j:=by
 unfold di at h
 split at h
 ·split at h
  ·exact ⟨asm,asm⟩
  ·cases h
 ·rename_i q; exact absurd h q
structure wW where
 Lo:Int
 Hi:Int
 each:Bool
 never:Bool
/-- whether it passed the beam in each truth -/
noncomputable def nK (l:bg) (r:cr) (b:Int):Bool:=(ir l r).all fun n=>decide (b<n)
noncomputable def cj (l:bg) (r:cr) (b:Int):wW:=
 if b<0 then ⟨r.Start,r.Start,true,false⟩
 else if dj l r b=0 then ⟨(cV l r b).Lo,if nK l r b=true then (cV l r b).Hi else 86400000,nK l r b,false⟩
 else ⟨86400000,86400000,false,true⟩
def uU (f:aL):Int:=if f.Kind=1 then-1 else if f.Kind=2 then f.eW-1 else f.eW
def OB (l:bg) (f:aL):Int:=if f.Kind=1 then l.bM else f.eW
def p7 (f:aL) (a b:wW):Prop:=if f.Kind=3 then f.gI≤a.Lo∧a.Hi≤f.To else a.Hi≤f.To∧f.gI≤b.Lo
instance (f:aL) (a b:wW):Decidable (p7 f a b):=by unfold p7; infer_instance
def lg (f:aL) (a b:wW):Int:=if a.never=true∨f.To<a.Lo∨b.Hi<f.gI then 0 else if a.each=true∧p7 f a b then 2 else 1
noncomputable def gf (l:bg) (f:aL) (d:ao):Int:=if jn d then lg f (cj l d.aZ (uU f)) (cj l d.aZ (OB l f)) else 0
theorem sT {l:bg} {f:aL} {d:ao} (h: ¬ jn d):gf l f d=0:=if_neg h
def mA (P:Nat→Bool) (n:Nat):List Int:=((List.range n).filter P).map fun (i:Nat)=>(i:Int)
section
variable {P:Nat→Bool} {n q:Nat} {x:Int}
theorem yW (h:P n=true):mA P (n+1)=mA P n++[(n:Int)]:=by unfold mA; rw [List.range_succ,List.filter_append,List.map_append]; simp [h]
theorem tq (h:P n=false):mA P (n+1)=mA P n:=by unfold mA; rw [List.range_succ,List.filter_append,List.map_append]; simp [h]
theorem pG:(mA P n).length≤n:=by unfold mA; rw [List.length_map]; exact Nat.le_trans (List.length_filter_le _ _) (by rw [List.length_range]; exact Nat.le_refl _)
theorem Ex:x∈mA P n↔ ∃ i:Nat,i<n∧x=(i:Int)∧P i=true:=by
 unfold mA
 simp only [cp,List.mem_filter,List.mem_range]
 constructor
 ·rintro ⟨i,⟨A,B⟩,rfl⟩; exact ⟨i,A,rfl,B⟩
 ·rintro ⟨i,A,rfl,B⟩; exact ⟨i,⟨A,B⟩,rfl⟩
end
noncomputable def l5 (j:cR) (p:aT):Int:=match pb j p with
 |some d=>if p.At≤(cj j.Race.ak d.aZ j.Race.ak.bM).Lo+60000*j.eh then 0 else if p.At≤(cj j.Race.ak d.aZ j.Race.ak.bM).Hi+60000*j.eh then 1 else 2
 |none=>2
noncomputable def gO (j:cR) (p:aT):Bool:=match pb j p,j.aC[p.iM.toNat]? with
 |some d,some f=>decide (l5 j p≠2)&&decide (gf j.Race.ak f d≠0)
 |_,_=>false
/-- which protests are granted, so far -/
noncomputable def sk (j:cR) (n:Nat):List Int:=mA (fun i=>(j.aw[i]?).any (gO j)) n
noncomputable def iQ (j:cR):List Int:=sk j j.aw.length
theorem tO {j:cR} {n:Nat} {x:Int}:x∈sk j n↔ ∃ i:Nat,i<n∧x=(i:Int)∧ ∃ p,j.aw[i]? =some p∧gO j p=true:=by
 unfold sk
 rw [Ex]
 refine exists_congr fun i=>and_congr Iff.rfl (and_congr Iff.rfl ?_)
 cases h:j.aw[i]? with
 |none=>simp
 |some p=>simp
/-- by faults of which something is so -/
def Bf (l:bg) (F:aL→Prop) (fs:List aL) (d:ao):Prop:= ∃ f∈fs,F f∧ ¬ gf l f d=0
noncomputable def yd (l:bg) (F:aL→Prop) (fs:List aL) (h:List ao) (n:Nat):List Int:=mA (fun s=>(h[s]?).any fun d=> @decide (Bf l F fs d) (Classical.propDecidable _)) n
noncomputable def im (j:cR) (F:aL→Prop):List (List Int):=j.Race.aA.map fun h=>yd j.Race.ak F j.aC h h.length
/-- about which a protest is granted -/
def ki (j:cR) (f:aL):Prop:= ∃ (i:Nat) (p:aT),j.aw[i]? =some p∧gO j p=true∧j.aC[p.iM.toNat]? =some f
noncomputable def j4 (j:cR):List (List Int):=im j (ki j)
noncomputable def LU (j:cR) (s:Int) (n:Nat):Nat:=(List.range n).countP fun i=>(j.aw[i]?).any fun p=>decide (p.iX=s)&& !gO j p
noncomputable def Fj (j:cR) (s:Int):Int:= -(LU j s j.aw.length:Int)*j.xA
noncomputable def ux (j:cR):Int:=((iQ j).length:Int)*j.xA
noncomputable def C9 (j:cR):Int:=(j.aw.length:Int)*j.xA-ux j
end
section
section
variable {j j':cR} {p:aT} {l:bg} {F G:aL→Prop} {fs:List aL} {h:List ao} {n:Nat} {x:Int}
theorem IW (hFG: ∀ f∈fs,(F f↔G f)):yd l F fs h n=yd l G fs h n:=by
 unfold yd
 congr 1
 funext s
 cases e:h[s]? with
 |none=>rfl
 |some d=>
  simp only [Option.any_some]
  rw [g5]
  exact ⟨fun ⟨f,A,B,C⟩=>⟨f,A,(hFG f A).1 B,C⟩,fun ⟨f,A,B,C⟩=>⟨f,A,(hFG f A).2 B,C⟩⟩
theorem GU {k:Nat} {h:List ao} (hh:j.Race.aA[k]? =some h):(im j F)[k]? =some (yd j.Race.ak F j.aC h h.length):=by unfold im; rw [dL,hh]; rfl
theorem DN:(im j F).length=j.Race.aA.length:=by unfold im; rw [List.length_map]
end
end
section
structure Cr (w w':bZ):Prop where
 start:w'.Start=w.Start
 now:w.fI≤w'.fI
 n:w'.n=w.n
 least: ∀ b,bW w' b≤bW w b
 times:w'.wX=w.wX
 Rc:w.dE≤w'.dE
 Tw:w.fT≤w'.fT
 sigs:w'.Ky=w.Ky
variable {w w':bZ}
theorem Cr.opt (h:Cr w w') {b:Nat} {o:Int×ag} (ho:o∈jl w b): ∃ o'∈jl w' b,o'.1=o.1∧o'.2.Lo≤o.2.Lo∧o.2.Hi≤o'.2.Hi:=by
 unfold jl at ho
 rcases bU.1 ho with rfl|ho
 ·exact ⟨(-1,⟨w'.Start,w'.fI⟩),cD ..,U,by simp only [h.start]; omega,h.now⟩
 ·refine ⟨o,dU _ ?_,U,Int.le_refl _,Int.le_refl _⟩
  unfold vg at ho ⊢; rw [h.times]; exact ho
theorem Cr.may (h:Cr w w') {t:aK} (ht:lf w t=true):lf w' t=true:=by
 unfold lf at ht ⊢
 have:=of_decide_eq_true ht
 have A:=h.Rc
 have B:=h.Tw
 have C:=h.sigs
 exact dM I
theorem Cr.fwd (h:Cr w w'): ∀ (b:Nat) (p:aK×Int),p∈fwd w b→ ∃ p'∈Go.Proofs.YtijpnoadncadoaaGreatDoor.fwd w' b,p'.1=p.1∧p'.2≤p.2:=by
 intro b
 induction b with
 |zero=>
  intro p hp
  simp only [Go.Proofs.YtijpnoadncadoaaGreatDoor.fwd,ck] at hp ⊢
  subst hp
  exact ⟨_,U,U,by simp only [h.start]; omega⟩
 |succ b ih=>
  intro q hq
  obtain ⟨p,hp,o,ho,e⟩:=gH.1 hq
  obtain ⟨p',hp',A,D⟩:=ih p hp
  obtain ⟨o',ho',B,E,F⟩:=h.opt ho
  have hl:=h.least b
  have hn:=h.now
  unfold lK at e
  split at e
  ·rename_i C
   simp only [Option.some.injEq] at e
   subst e
   refine ⟨(dK p'.1 (fV o'.1),max (p'.2+bW w' b) o'.2.Lo),gH.2 ⟨p',hp',o',ho',by unfold lK; rw [if_pos I]⟩,by simp only [A,B],by simp only; omega⟩
  ·cases e
theorem Cr.bwd (h:Cr w w'): ∀ (k:Nat) (p:aK×Int),p∈bwd w k→ ∃ p'∈Go.Proofs.YtijpnoadncadoaaGreatDoor.bwd w' k,p'.1=p.1∧p.2≤p'.2:=by
 intro k
 induction k with
 |zero=>
  intro p hp
  simp only [Go.Proofs.YtijpnoadncadoaaGreatDoor.bwd,ck] at hp ⊢
  subst hp
  exact ⟨_,U,U,h.now⟩
 |succ k ih=>
  intro q hq
  simp only [Go.Proofs.YtijpnoadncadoaaGreatDoor.bwd,bU,List.mem_flatMap,List.mem_filterMap] at hq ⊢
  rcases hq with rfl|⟨p,hp,o,ho,e⟩
  ·exact ⟨_,.inl U,U,h.now⟩
  ·obtain ⟨p',hp',A,D⟩:=ih p hp
   obtain ⟨o',ho',B,E,F⟩:=h.opt ho
   have hl:=h.least (w.n-(k+1))
   rw [h.n]
   unfold oU at e
   split at e
   ·rename_i C
    simp only [Option.some.injEq] at e
    subst e
    exact ⟨(dK p'.1 (fV o'.1),min p'.2 o'.2.Hi-bW w' (w.n-(k+1))),.inr ⟨p',hp',o',ho',by unfold oU; rw [if_pos I]⟩,by simp only [A,B],by simp only; omega⟩
   ·cases e
theorem Cr.back (h:Cr w w') {b:Nat} {p:aK×Int} (hp:p∈back w b): ∃ p'∈Go.Proofs.YtijpnoadncadoaaGreatDoor.back w' b,p'.1=p.1∧p.2≤p'.2:=by
 unfold Go.Proofs.YtijpnoadncadoaaGreatDoor.back at hp ⊢
 rw [h.n]
 exact h.bwd _ p hp
theorem Cr.pass (h:Cr w w') {b:Nat} {q:Int×ag} (hq:q∈gp w b): ∃ q'∈gp w' b,q'.1=q.1∧q'.2.Lo≤q.2.Lo∧q.2.Hi≤q'.2.Hi:=by
 obtain ⟨o,ho,p,hp,u,hu,e⟩:=ja.1 hq
 obtain ⟨D,E,rfl⟩:=jY.1 e
 obtain ⟨o',ho',A,F,G⟩:=h.opt ho
 obtain ⟨p',hp',B,H⟩:=h.fwd _ p hp
 obtain ⟨u',hu',C,AA⟩:=h.back hu
 have hl:=h.least b
 simp only [j7] at D
 refine ⟨(o'.1,j7 w' b p' u' o'),ja.2 ⟨o',ho',p',hp',u',hu',jY.2 ⟨?_,?_,U⟩⟩,A,?_,?_⟩
 ·simp only [j7]; omega
 ·have:=h.may E
  unfold yY at this ⊢
  rw [A,B,C]; exact this
 ·simp only [j7]; omega
 ·simp only [j7]; omega
theorem pL {k:Int}:k∈iy w↔ ∃ i:Nat,k=(i:Int)∧i≤w.n∧jX w (fwd w i)=true:=by
 unfold iy lh
 simp only [cp,List.mem_filter,List.mem_range]
 constructor
 ·rintro ⟨i,⟨B,A⟩,rfl⟩; exact ⟨i,rfl,I,A⟩
 ·rintro ⟨i,rfl,B,A⟩; exact ⟨i,⟨I,A⟩,rfl⟩
theorem Cr.ID (h:Cr w w') {k:Int} (hk:k∈iy w):k∈iy w':=by
 obtain ⟨i,rfl,C,A⟩:=pL.1 hk
 refine pL.2 ⟨i,U,by rw [h.n]; exact C,?_⟩
 unfold jX at A ⊢
 obtain ⟨p,hp,D⟩:=List.any_eq_true.1 A
 obtain ⟨p',hp',B,_⟩:=h.fwd _ p hp
 exact List.any_eq_true.2 ⟨p',hp',by rw [B]; exact h.may D⟩
theorem z_ {l:List (Int×ag)} (hl: ∀ q∈l,q.2.Lo≤q.2.Hi) (h:jw l≠jJ):nG l (jw l):=by
 rcases rY hl with ⟨_,e⟩|h'
 ·exact absurd e h
 ·exact h'
theorem Bd {l:List (Int×ag)} (hl: ∀ q∈l,q.2.Lo≤q.2.Hi) {q:Int×ag} (hq:q∈l):nG l (jw l):=by
 rcases rY hl with ⟨e,_⟩|h'
 ·rw [e] at hq; cases hq
 ·exact h'
theorem Cr.WG (h:Cr w w') {b:Nat} (hn:jw (gp w b)≠jJ):jw (gp w' b)≠jJ∧(jw (gp w' b)).Lo≤(jw (gp w b)).Lo∧(jw (gp w b)).Hi≤(jw (gp w' b)).Hi:=by
 have B:=z_ (l:=gp w b) (fun q hq=>jx hq) hn
 obtain ⟨x,hx,ex⟩:=B.lo
 obtain ⟨y,hy,ey⟩:=B.hi
 obtain ⟨x',hx',_,C,D⟩:=h.pass hx
 obtain ⟨y',hy',_,E,F⟩:=h.pass hy
 have A:=Bd (l:=gp w' b) (fun q hq=>jx hq) hx'
 have G:=A.all x' hx'
 have H:=A.all y' hy'
 exact ⟨A.ne,I,I⟩
/-- two rides, of two lines, of which one allows more -/
structure Sy (l:bg) (r:cr) (l':bg) (r':cr):Prop where
 line:dw l=0
 line':dw l'=0
 jL:dW l r
 ride':dW l' r'
 w:Cr (bP l r) (bP l' r')
 JJ:l'.ab.length=l.ab.length
variable {l l':bg} {r r':cr}
theorem Sy.ok (h:Sy l r l' r') (he:dG l r 0=0):dG l' r' 0=0:=by
 refine l3 h.line' h.ride' U fun e=>?_
 obtain ⟨k,hk⟩:=List.exists_mem_of_ne_nil _ (iG he).2.2.2
 have:=h.w.ID hk
 rw [e] at this; cases this
theorem Sy.Bc (h:Sy l r l' r') {k:Int} (hk:k∈ir l r):k∈ir l' r':=by
 by_cases he:dG l r 0=0
 ·rw [k7 he] at hk
  rw [k7 (h.ok he)]
  exact h.w.ID hk
 ·rw [n7 he] at hk; cases hk
theorem sG {b:Nat} (hb:b<l.ab.length):dG l r (iA l b)=dG l r 0:=by rw [uX I]
theorem Sy.E1 (h:Sy l r l' r') {b:Nat} (hb:b<l.ab.length) (he:dj l r b=0):dj l' r' b=0∧(cV l' r' b).Lo≤(cV l r b).Lo∧(cV l r b).Hi≤(cV l' r' b).Hi:=by
 have ho:dG l r (iA l b)=0:=by
  by_cases e:dG l r (iA l b)=0
  ·exact e
  ·rw [(jF e).1] at he; exact absurd he e
 have ho':dG l' r' (iA l' b)=0:=by
  rw [sG (by rw [h.JJ]; exact hb)]
  rw [sG hb] at ho
  exact h.ok ho
 have hn:lv l r b≠jJ:=fun e=>by rw [(lX ho e).1] at he; omega
 obtain ⟨C,D,E⟩:=h.w.WG hn
 have B:=jy ho hn
 have A:=jy ho' C
 rw [B.2,A.2]
 exact ⟨A.1,D,E⟩
theorem sI {b:Nat}:bW (bP l r) b=if b<l.ab.length then eu l b else 0:=by
 unfold bW bP cd
 split
 ·rename_i h
  simp [h]
 ·rename_i h
  simp [h]
theorem Hz {sg:List aH} {i:Nat} (h:i=0):lx sg i=⟨-1,0⟩:=by subst h; rfl
theorem sK {sg:List aH} {i:Nat} {y:aH} (h:0<i) (hy:sg[i-1]? =some y):lx sg i=y:=by unfold lx; rw [if_neg I,hy]; rfl
def RT (l:bg):Prop:= ¬ mM l∧dw l=0
noncomputable instance (l:bg):Decidable (RT l):=Classical.propDecidable _
end
end Go.Proofs.YtijpnoadncadoaaGreatDoor
