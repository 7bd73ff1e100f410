/-
 The statement raceExamples_said, part 4 of 7: Short, Grow, Global, RunA, Tab, Run, Comp, Ret, LoopK, MapK, Watch, Passes, Keys, MapR, RangeG, Nest, WMaps, WBounds, PassG, Drop, Spot, First, Line, Wrap, Goes, OpenW, Wheres, ExL6, LineR, Race, RaceS, Vals, RaceO, Ord, Rev, RaceV.
 Conditions: none.
-/
import Derived.Test.YtadjgjnicdcjbaaGreatDoorTx1
import Derived.Test.YtadjgjnicdcjbaaGreatDoorTx2
import Derived.Test.YtadjgjnicdcjbaaGreatDoorTx3
import Derived.Test.YtadjgjnicdcjbaaGreatDoorProg
import Derived.KernelRfl
import Derived.WideKeyRuns
namespace Go.Proofs.YtadjgjnicdcjbaaGreatDoor
set_option maxRecDepth 100000
set_option maxHeartbeats 4000000
set_option linter.unusedVariables false
section
open Go.RowKit
/-- an operation that hands v to its slot d -/
structure SE (E:dM) (ops:Array Oper) (o:Oper) (D:List Deferred) (L:List (Nat×Value)) (C:List aj) (v:Value) (d:Nat):Prop where
 h:SD E ops o D L C v
 o:o.dst=some d
 n:Nat.blt d E.n=true
theorem rS {E:dM} {ops:Array Oper} {Q:cd} {o:Oper} {rest:List Oper} {D:List Deferred} {L:List (Nat×Value)} {C:List aj} {v:Value} {d:Nat}
 (h:SE E ops o D L C v d) (k:RJ E ops Q rest D ((d,v)::L) C):RJ E ops Q (o::rest) D L C:=Mk h.h h.o h.n k
theorem dS {E:dM} {ops:Array Oper} {F:List (Nat×Value)→Prop} {o:Oper} {rest:List Oper} {D:List Deferred} {L:List (Nat×Value)} {C:List aj} {v:Value} {d:Nat}
 (h:SE E ops o D L C v d) (k:DJ E ops D C F rest ((d,v)::L)):DJ E ops D C F (o::rest) L:=LU h.h h.o h.n k
theorem eS {E:dM} {ops:Array Oper} {D:List Deferred} {C' C1:List aj} {F:List (Nat×Value)→Prop} {bs:List Bool} {o:Oper} {l rest:List Oper} {L:List (Nat×Value)} {v:Value} {d:Nat}
 (hl:l=o::rest) (h:SE E ops o D L C' v d) (k:mV E ops D C' C1 F bs rest ((d,v)::L)):mV E ops D C' C1 F (false::bs) l L:=Mc h.h hl h.o h.n k
theorem fS {E:dM} {ops:Array Oper} {D:List Deferred} {C' C1:List aj} {F:List (Nat×Value)→Prop} {bs:List Bool} {o:Oper} {l rest:List Oper} {L:List (Nat×Value)} {v:Value} {d:Nat}
 (hl:l=o::rest) (h:SE E ops o D L C1 v d) (k:mV E ops D C' C1 F bs rest ((d,v)::L)):mV E ops D C' C1 F (true::bs) l L:=K7 h.h hl h.o h.n k
def gB (n:Nat) (ops:Array Oper) (L:List (Nat×Value)) (d:Nat) (g:Option (Nat×Bool)):Bool:=gX ops L g&&Nat.blt d n
theorem Is {n:Nat} {ops:Array Oper} {L:List (Nat×Value)} {d:Nat} {g:Option (Nat×Bool)} (h:gB n ops L d g=true):gX ops L g=true:=by
 unfold gB at h; rw [dj] at h; exact h.1
theorem IU {n:Nat} {ops:Array Oper} {L:List (Nat×Value)} {d:Nat} {g:Option (Nat×Bool)} (h:gB n ops L d g=true):Nat.blt d n=true:=by
 unfold gB at h; rw [dj] at h; exact h.2
def vF (n:Nat) (ops:Array Oper) (L:List (Nat×Value)) (d:Nat) (g:Option (Nat×Bool)) (x:Operand):Option Value:=match gB n ops L d g with
 |true=>ev L x
 |false=>none
def bF (n:Nat) (ops:Array Oper) (L:List (Nat×Value)) (d:Nat) (g:Option (Nat×Bool)) (x y:Operand):Option (Value×Value):=match gB n ops L d g with
 |true=>match ev L x,ev L y with
  |some u,some v=>some (u,v)
  |_,_=>none
 |false=>none
def pF (n:Nat) (ops:Array Oper) (L:List (Nat×Value)) (d:Nat) (g:Option (Nat×Bool)) (c x y:Operand):Option Value:=match gB n ops L d g with
 |true=>match ev L c with
  |some (.bool true)=>ev L x
  |some (.bool false)=>ev L y
  |_=>none
 |false=>none
def xF (n:Nat) (ops:Array Oper) (L:List (Nat×Value)) (d:Nat) (g:Option (Nat×Bool)) (x:Operand) (i:Nat):Option Value:=match vF n ops L d g x with
 |some (.tuple vs)=>vs.toList[i]?
 |_=>none
def uF (n:Nat) (ops:Array Oper) (L:List (Nat×Value)) (d:Nat) (g:Option (Nat×Bool)) (xs ys:List Operand):Option (List Value×List Value):=match gB n ops L d g with
 |true=>match evs L xs,evs L ys with
  |some u,some v=>some (u,v)
  |_,_=>none
 |false=>none
def cF (n:Nat) (ops:Array Oper) (L:List (Nat×Value)) (d:Nat) (g:Option (Nat×Bool)) (fop:Operand) (xs:List Operand):Option (FuncId×List Value):=match gB n ops L d g with
 |true=>match ev L fop,evs L xs with
  |some (.func (.func f) fi ca),some vs=>some (f,fi.toList++vs++ca.toList)
  |_,_=>none
 |false=>none
theorem gp {n:Nat} {ops:Array Oper} {L:List (Nat×Value)} {d:Nat} {g:Option (Nat×Bool)} {x:Operand} {v:Value} (h:vF n ops L d g x=some v):gX ops L g=true∧Nat.blt d n=true∧ev L x=some v:=by
 unfold vF at h
 split at h
 ·rename_i hb; exact ⟨Is hb,IU hb,h⟩
 ·cases h
theorem m3 {n:Nat} {ops:Array Oper} {L:List (Nat×Value)} {d:Nat} {g:Option (Nat×Bool)} {x y:Operand} {u v:Value} (h:bF n ops L d g x y=some (u,v)):gX ops L g=true∧Nat.blt d n=true∧ev L x=some u∧ev L y=some v:=by
 unfold bF at h
 split at h
 ·rename_i hb
  split at h
  ·rename_i hx hy; cases h; exact ⟨Is hb,IU hb,hx,hy⟩
  ·cases h
 ·cases h
theorem Jo {n:Nat} {ops:Array Oper} {L:List (Nat×Value)} {d:Nat} {g:Option (Nat×Bool)} {x y:List Operand} {u v:List Value} (h:uF n ops L d g x y=some (u,v)):gX ops L g=true∧Nat.blt d n=true∧evs L x=some u∧evs L y=some v:=by
 unfold uF at h
 split at h
 ·rename_i hb
  split at h
  ·rename_i hx hy; cases h; exact ⟨Is hb,IU hb,hx,hy⟩
  ·cases h
 ·cases h
section
variable {E:dM} {ops:Array Oper} {Q:cd} {rest:List Oper} {D:List Deferred} {L:List (Nat×Value)} {C:List aj}
variable {d:Nat} {ty:TypeId} {ps:String} {af:Array Edge} {g:Option (Nat×Bool)}
theorem SX {o:Oper} {v:Value} (h:SD E ops o D L C v) (ho:o.dst=some d) (hd:Nat.blt d E.n=true):SE E ops o D L C v d:=⟨h,ho,hd⟩
theorem MV {x:Operand} {v:Value} (h:vF E.n ops L d g x=some v):SE E ops ⟨some d,.move x,ty,ps,af,g⟩ D L C v d:=by
 obtain ⟨A,B,F⟩:=gp h; exact ⟨z4 A F,rfl,B⟩
theorem AG {x:Operand} {v:Value} (h:vF E.n ops L d g x=some v):SE E ops ⟨some d,.assign x,ty,ps,af,g⟩ D L C v d:=by
 obtain ⟨A,B,F⟩:=gp h; exact ⟨tO A F,rfl,B⟩
theorem OX {op:Op} (h:(x2 ops L g&&Nat.blt d E.n)=true):SE E ops ⟨some d,op,ty,ps,af,g⟩ D L C undef d:=by
 rw [dj] at h; exact ⟨Ep h.1,rfl,h.2⟩
theorem NT {xt:TypeId} {x:Operand} {b:Bool} (h:vF E.n ops L d g x=some (.bool b)):SE E ops ⟨some d,.unOp .not xt x,ty,ps,af,g⟩ D L C (.bool !b) d:=by
 obtain ⟨A,B,F⟩:=gp h; exact ⟨DY A F,rfl,B⟩
theorem NG {xt:TypeId} {x:Operand} {n:Int} (h:vF E.n ops L d g x=some (.int .i64 n)) (hb:oJ (-n)):SE E ops ⟨some d,.unOp .neg xt x,ty,ps,af,g⟩ D L C (.int .i64 (-n)) d:=by
 obtain ⟨A,B,F⟩:=gp h; exact ⟨JP A F hb,rfl,B⟩
theorem PK {c x y:Operand} {v:Value} (h:pF E.n ops L d g c x y=some v):SE E ops ⟨some d,.pick c x y,ty,ps,af,g⟩ D L C v d:=by
 unfold pF at h
 split at h
 ·rename_i hb
  split at h
  ·rename_i hc; exact ⟨uu (Is hb) hc h,rfl,IU hb⟩
  ·rename_i hc; exact ⟨ux (Is hb) hc h,rfl,IU hb⟩
  ·cases h
 ·cases h
theorem EX {x:Operand} {i:Nat} {v:Value} (h:xF E.n ops L d g x i=some v):SE E ops ⟨some d,.extract x i,ty,ps,af,g⟩ D L C v d:=by
 unfold xF at h
 split at h
 ·rename_i vs hv
  obtain ⟨A,B,F⟩:=gp hv
  exact ⟨sY (vs:=vs.toList) A (by simpa using F) h,U,B⟩
 ·cases h
theorem LN {x:Operand} {t e:TypeId} {A:OA} {n c:Nat} (h:vF E.n ops L d g x=some (.slice A n c)) (ht:E.P.underlying t=some (.slice e)):
 SE E ops ⟨some d,.call {callee:= .builtin .len,args:= #[x],argTypes:= #[t]},ty,ps,af,g⟩ D L C (.int .i64 n) d:=by
 obtain ⟨B,F,G⟩:=gp h; exact ⟨Et B G ht,rfl,F⟩
theorem BI {op:BinOp} {xt yt:TypeId} {x y:Operand} {u v r:Value} (h:bF E.n ops L d g x y=some (u,v)) (hb:fM E.P op xt x y u v r):SE E ops ⟨some d,.binOp op xt x y yt,ty,ps,af,g⟩ D L C r d:=by
 obtain ⟨A,B,F,G⟩:=m3 h; exact ⟨bw A F G hb,rfl,B⟩
theorem MN {x y:Operand} {ts:Array TypeId} {a b:Int} {k:IntKind} (h:bF E.n ops L d g x y=some (.int k a,.int k b)):
 SE E ops ⟨some d,.call {callee:= .builtin .min,args:= #[x,y],argTypes:=ts},ty,ps,af,g⟩ D L C (.int k (min a b)) d:=by
 obtain ⟨A,B,F,G⟩:=m3 h; exact ⟨JI A F G,rfl,B⟩
theorem MX {x y:Operand} {ts:Array TypeId} {a b:Int} {k:IntKind} (h:bF E.n ops L d g x y=some (.int k a,.int k b)):
 SE E ops ⟨some d,.call {callee:= .builtin .max,args:= #[x,y],argTypes:=ts},ty,ps,af,g⟩ D L C (.int k (max a b)) d:=by
 obtain ⟨A,B,F,G⟩:=m3 h; exact ⟨Kk A F G,rfl,B⟩
theorem FA (o':Nat) {x:Operand} {b o s f k:Nat} (h:vF E.n ops L d g x=some (.pointer (some ⟨b,o,none⟩))) (hf:o6 E.P s f=some k) (ho:o+k=o'):
 SE E ops ⟨some d,.fieldAddr s x f,ty,ps,af,g⟩ D L C (.pointer (some ⟨b,o',none⟩)) d:=by
 obtain ⟨A,B,F⟩:=gp h; exact ⟨IL A F hf ho,rfl,B⟩
theorem sV (k':Nat) {x:Operand} {A:OA} {n sz:Nat} {es:List (List Value)} {k0 s f k:Nat} (h:vF E.n ops L d g x=some (.pointer (jG A k0))) (hR:jf C (rd A n sz es).holds) (hn:0<n*sz)
 (hf:o6 E.P s f=some k) (ho:k0+k=k'):SE E ops ⟨some d,.fieldAddr s x f,ty,ps,af,g⟩ D L C (.pointer (jG A k')) d:=by
 obtain ⟨B,F,G⟩:=gp h; exact ⟨EL B G hR hn hf ho,rfl,F⟩
theorem MR (k':Nat) {x:Operand} {A:OA} {ad:Addr} {k0 s f k:Nat} (h:vF E.n ops L d g x=some (.pointer (jG A k0))) (hA:A=some ad)
 (hf:o6 E.P s f=some k) (ho:k0+k=k'):SE E ops ⟨some d,.fieldAddr s x f,ty,ps,af,g⟩ D L C (.pointer (jG A k')) d:=by
 obtain ⟨B,F,G⟩:=gp h; exact ⟨D4 B G hA hf ho,rfl,F⟩
theorem IA (k:Nat) {x ix:Operand} {A:OA} {n c sz e t:Nat} {es:List (List Value)} {j:Int} (h:bF E.n ops L d g x ix=some (.slice A n c,.int .i64 j)) (hR:jf C (rd A n sz es).holds)
 (ht:tE E.P t=some (e,sz)) (hz:0<sz) (hj:j=(k:Int)) (hk:k<n):SE E ops ⟨some d,.indexAddr t x ix,ty,ps,af,g⟩ D L C (.pointer (jG A (k*sz))) d:=by
 obtain ⟨B,F,G,H⟩:=m3 h; exact ⟨L8 B G H hR ht hz hj hk,rfl,F⟩
theorem Mx (k o':Nat) {x ix:Operand} {b o n c sz e t:Nat} {j:Int} (h:bF E.n ops L d g x ix=some (.slice (some ⟨b,o,none⟩) n c,.int .i64 j))
 (ht:tE E.P t=some (e,sz)) (hj:j=(k:Int)) (hk:k<n) (ho:o+k*sz=o'):SE E ops ⟨some d,.indexAddr t x ix,ty,ps,af,g⟩ D L C (.pointer (some ⟨b,o',none⟩)) d:=by
 obtain ⟨A,B,F,G⟩:=m3 h; exact ⟨GU A F G ht hj hk ho,rfl,B⟩
/-- the whole of a block, a part of it, one cell -/
theorem LW (i:Nat) {x:Operand} {b t tt n:Nat} {cs:List Value} (h:vF E.n ops L d g x=some (.pointer (some ⟨b,0,none⟩))) (ht:tK E.P t=some (true,n)) (hC:C[i]? =some (bJ b tt cs)) (hn:cs.length=n):
 SE E ops ⟨some d,.load t x,ty,ps,af,g⟩ D L C (.agg cs.toArray) d:=by
 obtain ⟨A,B,F⟩:=gp h; exact ⟨sD A F ht (mx i hC sm) hn,rfl,B⟩
theorem LP (vs:List Value) (i:Nat) {x:Operand} {b o t tt n:Nat} {cs:List Value} (h:vF E.n ops L d g x=some (.pointer (some ⟨b,o,none⟩))) (ht:tK E.P t=some (true,n)) (hC:C[i]? =some (bJ b tt cs)) (hv:(cs.drop o).take vs.length=vs) (hn:vs.length=n):
 SE E ops ⟨some d,.load t x,ty,ps,af,g⟩ D L C (.agg vs.toArray) d:=by
 obtain ⟨A,B,F⟩:=gp h; exact ⟨sD A F ht (mx i hC hv) hn,rfl,B⟩
theorem NY (vs:List Value) (i:Nat) {x:Operand} {b o t tt n:Nat} {cs:List Value} (h:vF E.n ops L d g x=some (.pointer (some ⟨b,o,none⟩))) (ht:tK E.P t=some (true,n)) (hC:C[i]? =some (bJ b tt cs).ro) (hv:(cs.drop o).take vs.length=vs) (hn:vs.length=n):
 SE E ops ⟨some d,.load t x,ty,ps,af,g⟩ D L C (.agg vs.toArray) d:=by
 obtain ⟨A,B,F⟩:=gp h; exact ⟨sD A F ht (ru i hC hv) hn,rfl,B⟩
theorem L1 (v:Value) (i:Nat) {x:Operand} {b o t tt n:Nat} {cs:List Value} (h:vF E.n ops L d g x=some (.pointer (some ⟨b,o,none⟩))) (ht:tK E.P t=some (false,n)) (hC:C[i]? =some (bJ b tt cs)) (hv:(cs.drop o).take 1=[v]):
 SE E ops ⟨some d,.load t x,ty,ps,af,g⟩ D L C v d:=by
 obtain ⟨A,B,F⟩:=gp h; exact ⟨qp A F ht (mx i hC hv),rfl,B⟩
theorem CT (v:Value) (i:Nat) {x:Operand} {b o t tt n:Nat} {cs:List Value} (h:vF E.n ops L d g x=some (.pointer (some ⟨b,o,none⟩))) (ht:tK E.P t=some (false,n)) (hC:C[i]? =some (bJ b tt cs).ro) (hv:(cs.drop o).take 1=[v]):
 SE E ops ⟨some d,.load t x,ty,ps,af,g⟩ D L C v d:=by
 obtain ⟨A,B,F⟩:=gp h; exact ⟨qp A F ht (ru i hC hv),rfl,B⟩
theorem zu (i:Nat) {x:Operand} {b t tt n:Nat} {v:Value} (h:vF E.n ops L d g x=some (.pointer (some ⟨b,0,none⟩))) (ht:tK E.P t=some (false,n)) (hC:C[i]? =some (bJ b tt [v])):
 SE E ops ⟨some d,.load t x,ty,ps,af,g⟩ D L C v d:=by
 obtain ⟨A,B,F⟩:=gp h; exact ⟨qp A F ht (mx i hC rfl),rfl,B⟩
theorem My (i:Nat) {x:Operand} {b t tt n:Nat} {v:Value} (h:vF E.n ops L d g x=some (.pointer (some ⟨b,0,none⟩))) (ht:tK E.P t=some (false,n)) (hC:C[i]? =some (bJ b tt [v]).ro):
 SE E ops ⟨some d,.load t x,ty,ps,af,g⟩ D L C v d:=by
 obtain ⟨A,B,F⟩:=gp h; exact ⟨qp A F ht (ru i hC rfl),rfl,B⟩
/-- what is read of a row -/
theorem g4 (k o:Nat) (v:Value) {x:Operand} {A:OA} {t m n sz:Nat} {es:List (List Value)} {e:List Value} (h:vF E.n ops L d g x=some (.pointer (jG A m))) {nn:Nat} (ht:tK E.P t=some (false,nn)) (hR:jf C (rd A n sz es).holds) (he:es[k]? =some e) (hm:m=k*sz+o) (hz:0<sz) (hv:(e.drop o).take 1=[v]):
 SE E ops ⟨some d,.load t x,ty,ps,af,g⟩ D L C v d:=by
 obtain ⟨B,F,G⟩:=gp h; exact ⟨qp B G ht (IG hR he hm hz hv),rfl,F⟩
theorem r_ (k o:Nat) (vs:List Value) {x:Operand} {A:OA} {t m n sz:Nat} {es:List (List Value)} {e:List Value} (h:vF E.n ops L d g x=some (.pointer (jG A m))) {nn:Nat} (ht:tK E.P t=some (true,nn)) (hR:jf C (rd A n sz es).holds) (he:es[k]? =some e) (hm:m=k*sz+o) (hz:0<sz) (hv:(e.drop o).take vs.length=vs) (hn:vs.length=nn):
 SE E ops ⟨some d,.load t x,ty,ps,af,g⟩ D L C (.agg vs.toArray) d:=by
 obtain ⟨B,F,G⟩:=gp h; exact ⟨sD B G ht (IG hR he hm hz hv) hn,rfl,F⟩
theorem CL {fop:Operand} {xs:Array Operand} {ts:Array TypeId} {f:FuncId} {args:List Value} {Cp:List aj} {v:Value} (c:dQ E.P f args Cp v) (hC:iw C Cp) (h:cF E.n ops L d g fop xs.toList=some (f,args)):
 SE E ops ⟨some d,.call {callee:= .value fop,args:=xs,argTypes:=ts},ty,ps,af,g⟩ D L C v d:=by
 unfold cF at h
 split at h
 ·rename_i hb
  split at h
  ·rename_i hf hx; cases h; exact ⟨AJ (Is hb) hf hx rfl c hC,rfl,IU hb⟩
  ·cases h
 ·cases h
theorem FU {fn:Fn} {xs ys:Array Operand} {us vs:List Value} (h:uF E.n ops L d g xs.toList ys.toList=some (us,vs)):SE E ops ⟨some d,.makeFunc fn xs ys,ty,ps,af,g⟩ D L C (.func fn us.toArray vs.toArray) d:=by
 obtain ⟨A,B,F,G⟩:=Jo h; exact ⟨Ij A F G,rfl,B⟩
theorem cX {fop:Operand} {xs:Array Operand} {ts:Array TypeId} {f:FuncId} {args:List Value} {Cp:List aj} {α:Type} {V:α→Value} {p:α→Prop} {N:α→List aj} (c:kd E.P f args Cp V p N) (hC:iw C Cp)
 (h:cF E.n ops L d g fop xs.toList=some (f,args)) (k: ∀ x,p x→RJ E ops Q rest D ((d,V x)::L) (N x++C)):
 RJ E ops Q (⟨some d,.call {callee:= .value fop,args:=xs,argTypes:=ts},ty,ps,af,g⟩::rest) D L C:=by
 unfold cF at h
 split at h
 ·rename_i hb
  split at h
  ·rename_i hf hx; cases h; exact JM (Is hb) hf hx rfl c hC (IU hb) k
  ·cases h
 ·cases h
/-- a box of a struct, of one cell -/
theorem g5 {t:TypeId} {x:Operand} {cs:List Value} (h:vF E.n ops L d g x=some (.agg cs.toArray)) (k: ∀ b,RJ E ops Q rest D ((d,.pointer (some ⟨b,0,none⟩))::L) (bJ b t cs::C)):
 RJ E ops Q (⟨some d,.box t x,ty,ps,af,g⟩::rest) D L C:=by
 obtain ⟨A,B,F⟩:=gp h; exact IP A F rfl B k
theorem qo {t:TypeId} {x:Operand} {v:Value} (h:vF E.n ops L d g x=some v) (hv:v.cells.toList=[v]) (k: ∀ b,RJ E ops Q rest D ((d,.pointer (some ⟨b,0,none⟩))::L) (bJ b t [v]::C)):
 RJ E ops Q (⟨some d,.box t x,ty,ps,af,g⟩::rest) D L C:=by
 obtain ⟨A,B,F⟩:=gp h; exact IP A F hv B k
theorem AL {t:TypeId} {cs:List Value} (h:gB E.n ops L d g=true) (hz:tZ E.P t=some cs) (k: ∀ b,RJ E ops Q rest D ((d,.pointer (some ⟨b,0,none⟩))::L) (bJ b t cs::C)):
 RJ E ops Q (⟨some d,.alloc t,ty,ps,af,g⟩::rest) D L C:=Gx (Is h) hz (IU h) k
/-- a store into the block at the place i of the state -/
def sF (ops:Array Oper) (L:List (Nat×Value)) (g:Option (Nat×Bool)) (x y:Operand):Option (Value×Value):=match gX ops L g with
 |true=>match ev L x,ev L y with
  |some u,some v=>some (u,v)
  |_,_=>none
 |false=>none
theorem zB {ops:Array Oper} {L:List (Nat×Value)} {g:Option (Nat×Bool)} {x y:Operand} {u v:Value} (h:sF ops L g x y=some (u,v)):gX ops L g=true∧ev L x=some u∧ev L y=some v:=by
 unfold sF at h
 split at h
 ·rename_i hb
  split at h
  ·rename_i hx hy; cases h; exact ⟨hb,hx,hy⟩
  ·cases h
 ·cases h
theorem MC {t n b o tt:Nat} {x y:Operand} {v:Value} {cs cs':List Value} {C':List aj} (i:Nat) (h:sF ops L g x y=some (.pointer (some ⟨b,o,none⟩),v)) (ht:(tK E.P t).map (·.2)=some n) (hC:C[i]? =some (bJ b tt cs))
 (hk:(v.cells.toList.length==n&&v.cells.toList.all Value.oneCell'&&Nat.ble (o+n) cs.length)=true) (hcs:cs.take o++v.cells.toList++cs.drop (o+n)=cs') (hC':C.set i (bJ b tt cs')=C') (k:RJ E ops Q rest D L C'):
 RJ E ops Q (⟨none,.store t x y,ty,ps,af,g⟩::rest) D L C:=by
 obtain ⟨A,B,F⟩:=zB h
 simp only [dj,beq_iff_eq] at hk
 exact ik i A B F ht U hk.1.1 hk.1.2 hC hk.2 hcs hC' k
/-- a store of a whole block, by a struct, by one cell -/
theorem HA {t n b tt:Nat} {x y:Operand} {cs cs':List Value} {C':List aj} (i:Nat) (h:sF ops L g x y=some (.pointer (some ⟨b,0,none⟩),.agg cs'.toArray)) (ht:(tK E.P t).map (·.2)=some n) (hC:C[i]? =some (bJ b tt cs))
 (hk:(Nat.beq cs'.length n&&cs'.all Value.oneCell'&&Nat.beq n cs.length)=true) (hC':C.set i (bJ b tt cs')=C') (k:RJ E ops Q rest D L C'):
 RJ E ops Q (⟨none,.store t x y,ty,ps,af,g⟩::rest) D L C:=by
 obtain ⟨AA,J,K⟩:=zB h
 simp only [dj] at hk
 obtain ⟨⟨A,B⟩,F⟩:=hk
 have H:=Nat.eq_of_beq_eq_true A
 have G:=Nat.eq_of_beq_eq_true F
 exact ik i AA J K ht U H B hC (by rw [Nat.zero_add,G]; exact Nat.ble_self_eq_true _) (by rw [Nat.zero_add,G,List.take_zero,List.drop_length]; show []++cs'++[]=cs'; simp) hC' k
theorem MT {t n b tt:Nat} {x y:Operand} {v u:Value} {C':List aj} (i:Nat) (h:sF ops L g x y=some (.pointer (some ⟨b,0,none⟩),v)) (ht:(tK E.P t).map (·.2)=some n) (hC:C[i]? =some (bJ b tt [u]))
 (hv:v.cells.toList=[v]) (hk:(Nat.beq n 1&&v.oneCell')=true) (hC':C.set i (bJ b tt [v])=C') (k:RJ E ops Q rest D L C'):
 RJ E ops Q (⟨none,.store t x y,ty,ps,af,g⟩::rest) D L C:=by
 obtain ⟨G,H,AA⟩:=zB h
 rw [dj] at hk
 obtain ⟨A,B⟩:=hk
 have F:=Nat.eq_of_beq_eq_true A
 subst F
 exact ik i G H AA ht hv U (by simp [B]) hC U U hC' k
theorem fw {t n b tt:Nat} {x y:Operand} {cs cs':List Value} (h:sF ops L g x y=some (.pointer (some ⟨b,0,none⟩),.agg cs'.toArray)) (ht:(tK E.P t).map (·.2)=some n) (hk:(Nat.beq cs'.length n&&cs'.all Value.oneCell'&&Nat.beq n cs.length)=true) (k:RJ E ops Q rest D L (bJ b tt cs'::C)):RJ E ops Q (⟨none,.store t x y,ty,ps,af,g⟩::rest) D L (bJ b tt cs::C):=HA 0 h ht rfl hk rfl k
theorem CD {t n b tt:Nat} {x y:Operand} {v u:Value} (h:sF ops L g x y=some (.pointer (some ⟨b,0,none⟩),v)) (ht:(tK E.P t).map (·.2)=some n) (hv:v.cells.toList=[v]) (hk:(Nat.beq n 1&&v.oneCell')=true) (k:RJ E ops Q rest D L (bJ b tt [v]::C)):RJ E ops Q (⟨none,.store t x y,ty,ps,af,g⟩::rest) D L (bJ b tt [u]::C):=MT 0 h ht rfl hv hk rfl k
theorem vU {t n b tt:Nat} {x y:Operand} {cs cs':List Value} {A0:aj} (h:sF ops L g x y=some (.pointer (some ⟨b,0,none⟩),.agg cs'.toArray)) (ht:(tK E.P t).map (·.2)=some n) (hk:(Nat.beq cs'.length n&&cs'.all Value.oneCell'&&Nat.beq n cs.length)=true) (k:RJ E ops Q rest D L (A0::bJ b tt cs'::C)):RJ E ops Q (⟨none,.store t x y,ty,ps,af,g⟩::rest) D L (A0::bJ b tt cs::C):=HA 1 h ht rfl hk rfl k
theorem Io {t n b tt:Nat} {x y:Operand} {cs cs':List Value} {A0 A1:aj} (h:sF ops L g x y=some (.pointer (some ⟨b,0,none⟩),.agg cs'.toArray)) (ht:(tK E.P t).map (·.2)=some n) (hk:(Nat.beq cs'.length n&&cs'.all Value.oneCell'&&Nat.beq n cs.length)=true) (k:RJ E ops Q rest D L (A0::A1::bJ b tt cs'::C)):RJ E ops Q (⟨none,.store t x y,ty,ps,af,g⟩::rest) D L (A0::A1::bJ b tt cs::C):=HA 2 h ht rfl hk rfl k
theorem NZ (cs':List Value) {t n b o tt:Nat} {x y:Operand} {v:Value} {cs:List Value} {A0 A1:aj} (h:sF ops L g x y=some (.pointer (some ⟨b,o,none⟩),v)) (ht:(tK E.P t).map (·.2)=some n) (hk:(v.cells.toList.length==n&&v.cells.toList.all Value.oneCell'&&Nat.ble (o+n) cs.length)=true) (hcs:cs.take o++v.cells.toList++cs.drop (o+n)=cs') (k:RJ E ops Q rest D L (A0::A1::bJ b tt cs'::C)):RJ E ops Q (⟨none,.store t x y,ty,ps,af,g⟩::rest) D L (A0::A1::bJ b tt cs::C):=MC 2 h ht rfl hk hcs rfl k
theorem NV {t n b tt:Nat} {x y:Operand} {cs cs':List Value} {A0 A1 A2:aj} (h:sF ops L g x y=some (.pointer (some ⟨b,0,none⟩),.agg cs'.toArray)) (ht:(tK E.P t).map (·.2)=some n) (hk:(Nat.beq cs'.length n&&cs'.all Value.oneCell'&&Nat.beq n cs.length)=true) (k:RJ E ops Q rest D L (A0::A1::A2::bJ b tt cs'::C)):RJ E ops Q (⟨none,.store t x y,ty,ps,af,g⟩::rest) D L (A0::A1::A2::bJ b tt cs::C):=HA 3 h ht rfl hk rfl k
theorem Nr {t n b tt:Nat} {x y:Operand} {v u:Value} {A0 A1 A2:aj} (h:sF ops L g x y=some (.pointer (some ⟨b,0,none⟩),v)) (ht:(tK E.P t).map (·.2)=some n) (hv:v.cells.toList=[v]) (hk:(Nat.beq n 1&&v.oneCell')=true) (k:RJ E ops Q rest D L (A0::A1::A2::bJ b tt [v]::C)):RJ E ops Q (⟨none,.store t x y,ty,ps,af,g⟩::rest) D L (A0::A1::A2::bJ b tt [u]::C):=MT 3 h ht rfl hv hk rfl k
theorem KB (cs':List Value) {t n b o tt:Nat} {x y:Operand} {v:Value} {cs:List Value} {A0 A1 A2:aj} (h:sF ops L g x y=some (.pointer (some ⟨b,o,none⟩),v)) (ht:(tK E.P t).map (·.2)=some n) (hk:(v.cells.toList.length==n&&v.cells.toList.all Value.oneCell'&&Nat.ble (o+n) cs.length)=true) (hcs:cs.take o++v.cells.toList++cs.drop (o+n)=cs') (k:RJ E ops Q rest D L (A0::A1::A2::bJ b tt cs'::C)):RJ E ops Q (⟨none,.store t x y,ty,ps,af,g⟩::rest) D L (A0::A1::A2::bJ b tt cs::C):=MC 3 h ht rfl hk hcs rfl k
theorem Kr {t n b tt:Nat} {x y:Operand} {cs cs':List Value} {A0 A1 A2 A3:aj} (h:sF ops L g x y=some (.pointer (some ⟨b,0,none⟩),.agg cs'.toArray)) (ht:(tK E.P t).map (·.2)=some n) (hk:(Nat.beq cs'.length n&&cs'.all Value.oneCell'&&Nat.beq n cs.length)=true) (k:RJ E ops Q rest D L (A0::A1::A2::A3::bJ b tt cs'::C)):RJ E ops Q (⟨none,.store t x y,ty,ps,af,g⟩::rest) D L (A0::A1::A2::A3::bJ b tt cs::C):=HA 4 h ht rfl hk rfl k
theorem NP (cs':List Value) {t n b o tt:Nat} {x y:Operand} {v:Value} {cs:List Value} {A0 A1 A2 A3:aj} (h:sF ops L g x y=some (.pointer (some ⟨b,o,none⟩),v)) (ht:(tK E.P t).map (·.2)=some n) (hk:(v.cells.toList.length==n&&v.cells.toList.all Value.oneCell'&&Nat.ble (o+n) cs.length)=true) (hcs:cs.take o++v.cells.toList++cs.drop (o+n)=cs') (k:RJ E ops Q rest D L (A0::A1::A2::A3::bJ b tt cs'::C)):RJ E ops Q (⟨none,.store t x y,ty,ps,af,g⟩::rest) D L (A0::A1::A2::A3::bJ b tt cs::C):=MC 4 h ht rfl hk hcs rfl k
theorem Iz {t n b tt:Nat} {x y:Operand} {cs cs':List Value} {A0 A1 A2 A3 A4:aj} (h:sF ops L g x y=some (.pointer (some ⟨b,0,none⟩),.agg cs'.toArray)) (ht:(tK E.P t).map (·.2)=some n) (hk:(Nat.beq cs'.length n&&cs'.all Value.oneCell'&&Nat.beq n cs.length)=true) (k:RJ E ops Q rest D L (A0::A1::A2::A3::A4::bJ b tt cs'::C)):RJ E ops Q (⟨none,.store t x y,ty,ps,af,g⟩::rest) D L (A0::A1::A2::A3::A4::bJ b tt cs::C):=HA 5 h ht rfl hk rfl k
theorem I1 {t n b tt:Nat} {x y:Operand} {cs cs':List Value} {A0 A1 A2 A3 A4 A5:aj} (h:sF ops L g x y=some (.pointer (some ⟨b,0,none⟩),.agg cs'.toArray)) (ht:(tK E.P t).map (·.2)=some n) (hk:(Nat.beq cs'.length n&&cs'.all Value.oneCell'&&Nat.beq n cs.length)=true) (k:RJ E ops Q rest D L (A0::A1::A2::A3::A4::A5::bJ b tt cs'::C)):RJ E ops Q (⟨none,.store t x y,ty,ps,af,g⟩::rest) D L (A0::A1::A2::A3::A4::A5::bJ b tt cs::C):=HA 6 h ht rfl hk rfl k
theorem N7 {t n b tt:Nat} {x y:Operand} {v u:Value} {A0 A1 A2 A3 A4 A5:aj} (h:sF ops L g x y=some (.pointer (some ⟨b,0,none⟩),v)) (ht:(tK E.P t).map (·.2)=some n) (hv:v.cells.toList=[v]) (hk:(Nat.beq n 1&&v.oneCell')=true) (k:RJ E ops Q rest D L (A0::A1::A2::A3::A4::A5::bJ b tt [v]::C)):RJ E ops Q (⟨none,.store t x y,ty,ps,af,g⟩::rest) D L (A0::A1::A2::A3::A4::A5::bJ b tt [u]::C):=MT 6 h ht rfl hv hk rfl k
theorem Nm (cs':List Value) {t n b o tt:Nat} {x y:Operand} {v:Value} {cs:List Value} {A0 A1 A2 A3 A4 A5:aj} (h:sF ops L g x y=some (.pointer (some ⟨b,o,none⟩),v)) (ht:(tK E.P t).map (·.2)=some n) (hk:(v.cells.toList.length==n&&v.cells.toList.all Value.oneCell'&&Nat.ble (o+n) cs.length)=true) (hcs:cs.take o++v.cells.toList++cs.drop (o+n)=cs') (k:RJ E ops Q rest D L (A0::A1::A2::A3::A4::A5::bJ b tt cs'::C)):RJ E ops Q (⟨none,.store t x y,ty,ps,af,g⟩::rest) D L (A0::A1::A2::A3::A4::A5::bJ b tt cs::C):=MC 6 h ht rfl hk hcs rfl k
theorem N5 {t n b tt:Nat} {x y:Operand} {cs cs':List Value} {A0 A1 A2 A3 A4 A5 A6 A7:aj} (h:sF ops L g x y=some (.pointer (some ⟨b,0,none⟩),.agg cs'.toArray)) (ht:(tK E.P t).map (·.2)=some n) (hk:(Nat.beq cs'.length n&&cs'.all Value.oneCell'&&Nat.beq n cs.length)=true) (k:RJ E ops Q rest D L (A0::A1::A2::A3::A4::A5::A6::A7::bJ b tt cs'::C)):RJ E ops Q (⟨none,.store t x y,ty,ps,af,g⟩::rest) D L (A0::A1::A2::A3::A4::A5::A6::A7::bJ b tt cs::C):=HA 8 h ht rfl hk rfl k
theorem Nq {t n b tt:Nat} {x y:Operand} {cs cs':List Value} {A0 A1 A2 A3 A4 A5 A6 A7 A8 A9 A10:aj} (h:sF ops L g x y=some (.pointer (some ⟨b,0,none⟩),.agg cs'.toArray)) (ht:(tK E.P t).map (·.2)=some n) (hk:(Nat.beq cs'.length n&&cs'.all Value.oneCell'&&Nat.beq n cs.length)=true) (k:RJ E ops Q rest D L (A0::A1::A2::A3::A4::A5::A6::A7::A8::A9::A10::bJ b tt cs'::C)):RJ E ops Q (⟨none,.store t x y,ty,ps,af,g⟩::rest) D L (A0::A1::A2::A3::A4::A5::A6::A7::A8::A9::A10::bJ b tt cs::C):=HA 11 h ht rfl hk rfl k
end
section
variable {E:dM} {y:Code} {Q:cd} {D:List Deferred} {L:List (Nat×Value)} {C:List aj}
theorem WS {id:Nat} {ops:Array Oper} (h: ∀ K:Act→World→Prop,(∀ D L C,WJ E y Q D L C→KJ E K D L C)→RJ E ops (Exit.then K Q) ops.toList D L C):WJ E (.seq (.region id ops false) y) Q D L C:=al fun K hK=>au (h K hK)
theorem RK {ops:Array Oper} {K:Act→World→Prop} {Q':cd} (hK: ∀ D L C,WJ E y Q D L C→KJ E K D L C) (k:WJ E y Q D L C):RJ E ops (Exit.then K Q') [] D L C:=aG (bc (hK _ _ _ k))
theorem KK {K:Act→World→Prop} {Q':cd} (hK: ∀ D L C,WJ E y Q D L C→KJ E K D L C) (k:WJ E y Q D L C):KJ E (Exit.then K Q' .normal) D L C:=bc (hK _ _ _ k)
theorem WK {K:Act→World→Prop} {Q':cd} (hK: ∀ D L C,WJ E y Q D L C→KJ E K D L C) (k:WJ E y Q D L C):WJ E .skip (Exit.then K Q') D L C:=cJ (bc (hK _ _ _ k))
end
theorem DT {p:Prop} [Decidable p] (h:decide p=true):p:=of_decide_eq_true h
theorem DF {p:Prop} [Decidable p] (h:decide p=false): ¬ p:=of_decide_eq_false h
theorem XT {p:Prop} [Decidable p] (h:(!decide p)=true): ¬ p:=by simpa using h
theorem XF {p:Prop} [Decidable p] (h:(!decide p)=false):p:=by simpa using h
/-- what a function hands back: one result, two, three, that lie in slots -/
theorem Q1 {E:dM} {fn:Func} {K:Act→World→Prop} {L:List (Nat×Value)} {C:List aj} {t:Nat} {u v:Value} (hQ: ∀ D L C,LJ E fn (xp E.w0 v) D L C→KJ E K D L C) (hS:E.S=pk) (hr:fn.results.toList=[.tmp t]) (hl:L.lookup t=some u) (e:u=v):KJ E K [] L C:=
 hQ _ _ _ (fr (vs:=[u]) (by rw [hr]; exact ⟨hl,trivial⟩) fun w hs=>yV e (by rw [hS] at hs; exact hs))
theorem Q2 {E:dM} {fn:Func} {K:Act→World→Prop} {L:List (Nat×Value)} {C:List aj} {t s:Nat} {u x v:Value} (hQ: ∀ D L C,LJ E fn (xp E.w0 v) D L C→KJ E K D L C) (hS:E.S=pk) (hr:fn.results.toList=[.tmp t,.tmp s]) (hl:L.lookup t=some u) (hm:L.lookup s=some x) (e:vT [u,x]=v):KJ E K [] L C:=
 hQ _ _ _ (fr (vs:=[u,x]) (by rw [hr]; exact ⟨hl,hm,trivial⟩) fun w hs=>yV e (by rw [hS] at hs; exact hs))
theorem N1 {E:dM} {ops:Array Oper} {D:List Deferred} {C' C1:List aj} {F:List (Nat×Value)→List aj→Prop} {tb rem:List Nat} {n:Nat} {L:List (Nat×Value)} {C:List aj} (i:Nat)
 (h:xW E ops D C' C1 F tb n (rem.filter (· != i)) i L C) (hm:rem.filter (fun i=>rem.all fun j=> !fR (nX ops) j i)=[i]:=by kernel_rfl):TN E ops D C' C1 F tb (n+1) rem L C:=eN [i] hm (b_ h fQ)
theorem NO {E:dM} {ops:Array Oper} {D:List Deferred} {C' C1:List aj} {F:List (Nat×Value)→List aj→Prop} {tb rem:List Nat} {n i:Nat} {L:List (Nat×Value)} {C:List aj} {o:Oper} (ho:ops[i]? =some o) (ht:tb.contains i=false) (rem':List Nat)
 (h: ∀ K:Act→World→Prop,(∀ L' C'',(∀ w,St E.S E.w0 C'' w→St E.S E.w0 C' w)→TN E ops D C' C1 F tb n rem' L' C''→KJ E K D L' C'')→RJ E ops (NQ K) [o] D L C) (hr:rem=rem':=by kernel_rfl):xW E ops D C' C1 F tb n rem i L C:=cN ho hr ht h
theorem RD {E:dM} {ops:Array Oper} {K:Act→World→Prop} {D:List Deferred} {L:List (Nat×Value)} {C C':List aj} {X:List (Nat×Value)→List aj→Prop} (hT: ∀ L' C'',(∀ w,St E.S E.w0 C'' w→St E.S E.w0 C' w)→X L' C''→KJ E K D L' C'')
 (k:Nat) (h2:C.drop k=C') (h:X L C):RJ E ops (NQ K) [] D L C:=aG (hT _ _ (fun w hs=>h2▸hs.take (List.drop_sublist k C)) h)
theorem aT {L L':List (Nat×Value)} (h:L'.map (fun p=>L.lookup p.1)=L'.map (fun p=>some p.2)):ew L L':=by
 induction L' with
 |nil=>exact ew.nil _
 |cons p t ih=>
  simp only [List.map_cons,List.cons.injEq] at h
  exact ew.cons h.1 (ih h.2)
theorem Hy {C:List aj} {A A' B B' D D':aj} (i j k:Nat) (h1:C[i]? =some A') (e1:A'.holds=A.holds) (h2:C[j]? =some B') (e2:B'.holds=B.holds) (h3:C[k]? =some D') (e3:D'.holds=D.holds):iw C [A,B,D]:=cY i h1 e1 (cY j h2 e2 (cY k h3 e3 aC))
theorem cu {E:dM} {c:Operand} {x y:Code} {b:Bool} {Q:cd} {D:List Deferred} {L:List (Nat×Value)} {C:List aj} (hc:ev L c=some (.bool b)) (h2:b=false→WJ E y Q D L C) (h1:b=true→WJ E x Q D L C):WJ E (.cond c x y) Q D L C:=dF hc h1 h2
theorem bH {E:dM} {ops:Array Oper} {Q:cd} {rest:List Oper} {D:List Deferred} {L:List (Nat×Value)} {C:List aj} {t:Nat} {b:Bool} (h:L.lookup t=some (.bool b)) (h2:b=false→RJ E ops Q rest D ((t,.bool false)::L) C) (h1:b=true→RJ E ops Q rest D ((t,.bool true)::L) C):RJ E ops Q rest D L C:=eH h h1 h2
theorem j8 {E:dM} {ops:Array Oper} {Q:cd} {rest:List Oper} {D:List Deferred} {L:List (Nat×Value)} {C:List aj} {t:Nat} {b:Bool} {os:List Oper} (h:L.lookup t=some (.bool b)) (h2:b=false→DJ E ops D C (fun L2=>RJ E ops Q rest D L2 C) os ((t,.bool false)::L)) (h1:b=true→DJ E ops D C (fun L2=>RJ E ops Q rest D L2 C) os ((t,.bool true)::L)):DJ E ops D C (fun L2=>RJ E ops Q rest D L2 C) os L:=vn h h1 h2
theorem du {L:List (Nat×Value)}: ∀ (k:Nat) {L2:List (Nat×Value)} (q:ew L (L2.drop k)) (h:(L2.take k).map (fun p=>L.lookup p.1)=(L2.take k).map (fun p=>some p.2):=by rfl),ew L L2
 |0,_,q,_=>q
 |_+1,[],_,_=>ew.nil _
 |k+1,p::L2,q,h=>by
  obtain ⟨A,B⟩:=List.cons.inj (show L.lookup p.1::(L2.take k).map (fun p=>L.lookup p.1)=some p.2::(L2.take k).map (fun p=>some p.2) from h)
  exact ew.cons (t:=p.1) (v:=p.2) A (du k q B)
theorem oX {E:dM} {ops:Array Oper} {Q:cd} {rest:List Oper} {D:List Deferred} {L:List (Nat×Value)} {C:List aj} {d:Nat} {ty:TypeId} {ps:String} {af:Array Edge} {g:Option (Nat×Bool)} {op:Op} (k:RJ E ops Q rest D ((d,undef)::L) C) (h:(x2 ops L g&&Nat.blt d E.n)=true:=by rfl):RJ E ops Q (⟨some d,op,ty,ps,af,g⟩::rest) D L C:=rS (OX h) k
theorem dX {E:dM} {ops:Array Oper} {F:List (Nat×Value)→Prop} {rest:List Oper} {D:List Deferred} {L:List (Nat×Value)} {C:List aj} {d:Nat} {ty:TypeId} {ps:String} {af:Array Edge} {g:Option (Nat×Bool)} {op:Op} (k:DJ E ops D C F rest ((d,undef)::L)) (h:(x2 ops L g&&Nat.blt d E.n)=true:=by rfl):DJ E ops D C F (⟨some d,op,ty,ps,af,g⟩::rest) L:=dS (OX h) k
end
section
open Go.RowKit
/-- what of a slice is left from k on -/
def vu (A:OA) (c k sz:Nat):OA:=if c=k then A else A.map (·.add (k*sz))
section
variable {E:dM} {ops:Array Oper} {Q:cd} {rest:List Oper} {D:List Deferred} {L:List (Nat×Value)} {C:List aj}
variable {d:Nat} {ty:TypeId} {ps:String} {af:Array Edge} {g:Option (Nat×Bool)}
theorem Af {P:Program} {t e sz:Nat} (h:tE P t=some (e,sz)) (w:World):P.underlying t=some (.slice e)∧(sizeOf e).run P w= .ok sz w:=by
 unfold tE at h
 split at h
 ·rename_i e' hu
  split at h
  ·rename_i i hi
   cases h
   exact ⟨hu,by simp [sizeOf,typeInfo,hi]⟩
  ·cases h
 ·cases h
theorem rz {P:Program} {t e:Nat} (h:P.underlying t=some (.slice e)):P.underlying t=some (.slice (P.elem t)):=by
 rw [h]; simp [Program.elem,h]
theorem zV {P:Program} {t e:Nat} (h:P.underlying t=some (.slice e)):P.elem t=e:=by simp [Program.elem,h]
/-- s[k:] -/
theorem NW (k:Nat) {x lo:Operand} {t e sz n c:Nat} {A:OA} {j:Int} (h:bF E.n ops L d g x lo=some (.slice A n c,.int .i64 j)) (ht:tE E.P t=some (e,sz)) (hj:j=(k:Int)) (hk:k≤n):
 SE E ops ⟨some d,.slice t x (some lo) none none,ty,ps,af,g⟩ D L C (.slice (vu A c k sz) (n-k) (c-k)) d:=by
 obtain ⟨G,H,AA,J⟩:=m3 h
 subst hj
 refine ⟨cM G sm fun a w B hs=>?_,U,H⟩
 obtain ⟨hu,hz⟩:=Af ht w
 have hr:=run_slice_l (P:=E.P) w t A n c (rz hu) .i64 (k:Int) om om
 rw [zV hu,hz] at hr
 simp only [Result.andThen,Int.toNat_natCast,sliced] at hr
 have F:=run_sliceAt_slice (P:=E.P) w t (.slice A n c) (some (.int .i64 (k:Int))) none none (rz hu)
 simp [execOp,B.ev AA,B.ev J,F,hr,vu]
/-- s[:k] -/
theorem Nl (k:Nat) {x hi:Operand} {t e sz n c:Nat} {A:OA} {j:Int} (h:bF E.n ops L d g x hi=some (.slice A n c,.int .i64 j)) (ht:tE E.P t=some (e,sz)) (hj:j=(k:Int)) (hk:k≤c):
 SE E ops ⟨some d,.slice t x none (some hi) none,ty,ps,af,g⟩ D L C (.slice A k c) d:=by
 obtain ⟨H,AA,J,K⟩:=m3 h
 subst hj
 refine ⟨cM H sm fun a w B hs=>?_,U,AA⟩
 obtain ⟨hu,hz⟩:=Af ht w
 have hr:=run_slice_h (P:=E.P) w t A n c (rz hu) .i64 (k:Int) om om
 rw [zV hu,hz] at hr
 have G:(if c=0 then A else A.map (·.add (0*sz)))=A:=by
  split
  ·rfl
  ·cases A with
   |none=>rfl
   |some ad=>simp [Addr.add]
 simp only [Result.andThen,Int.toNat_natCast,sliced,G,Nat.sub_zero] at hr
 have F:=run_sliceAt_slice (P:=E.P) w t (.slice A n c) none (some (.int .i64 (k:Int))) none (rz hu)
 simp [execOp,B.ev J,B.ev K,F,hr]
/-- an element of a row whose place is known -/
theorem N6 (k:Nat) {x ix:Operand} {A:OA} {ad:Addr} {n c sz e t:Nat} {j:Int} (h:bF E.n ops L d g x ix=some (.slice A n c,.int .i64 j)) (hA:A=some ad) (ht:tE E.P t=some (e,sz)) (hj:j=(k:Int)) (hk:k<n):
 SE E ops ⟨some d,.indexAddr t x ix,ty,ps,af,g⟩ D L C (.pointer (jG A (k*sz))) d:=by
 obtain ⟨F,G,H,AA⟩:=m3 h
 refine ⟨cM F sm fun a w B hs=>?_,U,G⟩
 subst hA hj
 simp [execOp,B.ev H,B.ev AA,jG,nu ht hk]
end
theorem Aa {w:World} {a:OA} {c e sz:Nat} {es:List (List Value)} (h:(own a c e sz es).holds w):es.length≤c:=by
 rcases h.2.2 with ⟨A,B⟩|⟨g,cap,cur,hv,_,_,C,_⟩
 ·omega
 ·injection hv with _ _ hc; omega
end
section
open Go.RowKit
/-- an array's length, its elements' type and their size -/
def aE (P:Program) (t:TypeId):Option (Nat×TypeId×Nat):=
 match P.underlying t with
 |some (.array n e)=>match P.info? e with
  |some i=>some (n,e,i.size)
  |none=>none
 |_=>none
theorem Ac {P:Program} {t n e sz:Nat} (h:aE P t=some (n,e,sz)) (w:World):P.underlying t=some (.array n e)∧(sizeOf e).run P w= .ok sz w:=by
 unfold aE at h
 split at h
 ·rename_i n' e' hu
  split at h
  ·rename_i i hi
   cases h
   exact ⟨hu,by simp [sizeOf,typeInfo,hi]⟩
  ·cases h
 ·cases h
theorem rh {P:Program} {t n e sz:Nat} (h:aE P t=some (n,e,sz)) (a:Addr) (w:World):
 (Instr.sliceAt t (.pointer (some a)) none none none).run P w= .ok (.slice (some a) n n) w:=by
 obtain ⟨hu,hz⟩:=Ac h w
 have A:a.add 0=a:=by simp [Addr.add]
 simp [Instr.sliceAt,underlying,hu,Instr.sureAddr,Instr.sliceBounds,hz,A]
theorem qZ {P:Program} {t n e sz:Nat} (h:aE P t=some (n,e,sz)) (a:Addr) {k:Nat} (hk:k<n) (w:World):
 (Instr.indexAt t (.pointer (some a)) (.int .i64 (k:Int))).run P w= .ok (.pointer (some (a.add (k*sz)))) w:=by
 obtain ⟨hu,hz⟩:=Ac h w
 have A: ¬ n≤k:=by omega
 simp [Instr.indexAt,underlying,hu,Instr.sureAddr,asIntOf,hz,A]
 try exact fun h=>absurd h A
 try omega
section
variable {E:dM} {ops:Array Oper} {Q:cd} {rest:List Oper} {D:List Deferred} {L:List (Nat×Value)} {C:List aj}
variable {dst:Option Nat} {ty:TypeId} {ps:String} {af:Array Edge} {g:Option (Nat×Bool)}
theorem yd {x:Operand} {a:Addr} {t n e sz:Nat} (hg:gX ops L g=true) (hx:ev L x=some (.pointer (some a))) (ht:aE E.P t=some (n,e,sz)):
 SD E ops ⟨dst,.slice t x none none none,ty,ps,af,g⟩ D L C (.slice (some a) n n):=
 cM hg sm fun b w A hs=>by
  simp [execOp,A.ev hx,rh ht]
theorem zA {x ix:Operand} {a:Addr} {t n e sz k:Nat} {j:Int} (hg:gX ops L g=true) (hx:ev L x=some (.pointer (some a))) (hi:ev L ix=some (.int .i64 j)) (ht:aE E.P t=some (n,e,sz)) (hj:j=(k:Int)) (hk:k<n):
 SD E ops ⟨dst,.indexAddr t x ix,ty,ps,af,g⟩ D L C (.pointer (jG (some a) (k*sz))):=
 cM hg sm fun b w A hs=>by
  subst hj
  simp [execOp,A.ev hx,A.ev hi,jG,qZ ht a hk]
end
end
section
open Go.RowKit
/-- a table of facts on the program's types -/
structure x8 where
 tk:List (Nat×Bool×Nat)
 fo:List (Nat×List (Option Nat))
 sl:List Nat
def KA {α:Type}:List (Nat×α)→Nat→Option α
 |[],_=>none
 |(k,v)::l,t=>match Nat.beq k t with
  |true=>some v
  |false=>KA l t
theorem u3 {α:Type}: ∀ {l:List (Nat×α)} {t:Nat} {v:α},KA l t=some v→(t,v)∈l
 |[],t,v,h=>by simp [KA] at h
 |(k,u)::l,t,v,h=>by
  unfold KA at h
  split at h
  ·rename_i hb
   cases h
   rw [Nat.eq_of_beq_eq_true hb]; exact bU
  ·exact cL _ (u3 h)
def Gc:List Nat→Nat→Bool
 |[],_=>false
 |k::l,t=>match Nat.beq k t with
  |true=>true
  |false=>Gc l t
theorem xh: ∀ {l:List Nat} {t:Nat},Gc l t=true→t∈l
 |[],t,h=>by simp [Gc] at h
 |k::l,t,h=>by
  unfold Gc at h
  split at h
  ·rename_i hb
   rw [Nat.eq_of_beq_eq_true hb]; exact bU
  ·exact cL _ (xh h)
def x8.Ej (T:x8) (t:Nat):Option (Bool×Nat):=KA T.tk t
def x8.foF (T:x8) (s f:Nat):Option Nat:=match KA T.fo s with
 |some l=>match l[f]? with
  |some (some k)=>some k
  |_=>none
 |none=>none
structure jm (P:Program) (T:x8):Prop where
 tk: ∀ p∈T.tk,tK P p.1=some p.2
 fo: ∀ p∈T.fo,∀ f k,p.2[f]? =some (some k)→o6 P p.1 f=some k
 sl: ∀ t∈T.sl,∃ e,P.underlying t=some (.slice e)
theorem jm.Ej {P:Program} {T:x8} (h:jm P T) {t:Nat} {r:Bool×Nat} (e:T.Ej t=some r):tK P t=some r:=h.tk _ (u3 e)
theorem jm.foF {P:Program} {T:x8} (h:jm P T) {s f k:Nat} (e:T.foF s f=some k):o6 P s f=some k:=by
 unfold x8.foF at e
 split at e
 ·rename_i l hl
  split at e
  ·rename_i k' hk
   cases e
   exact h.fo _ (u3 hl) f k hk
  ·cases e
 ·cases e
def Mt (P:Program) (T:x8):Bool:=(T.tk.all fun p=>decide (tK P p.1=some p.2))&&(T.fo.all fun p=>(List.range p.2.length).all fun f=>match p.2[f]? with
 |some (some k)=>decide (o6 P p.1 f=some k)
 |_=>true)&&T.sl.all fun t=>match P.underlying t with
 |some (.slice _)=>true
 |_=>false
theorem Jd {P:Program} {T:x8} (h:Mt P T=true):jm P T:=by
 unfold Mt at h
 rw [dj,dj] at h
 obtain ⟨⟨B,C⟩,D⟩:=h
 refine ⟨fun p hp=>by simpa using List.all_eq_true.1 B p hp,fun p hp f k hk=>?_,fun t ht=>?_⟩
 ·have A:=List.all_eq_true.1 (List.all_eq_true.1 C p hp) f (List.mem_range.2 (List.getElem?_eq_some_iff.1 hk).1)
  rw [hk] at A
  simpa using A
 ·have A:=List.all_eq_true.1 D t ht
  split at A
  ·rename_i e he; exact ⟨e,he⟩
  ·cases A
end
section
theorem H8:tK Tryz.prog 3=some (false,1):=by kernel_rfl
theorem N3:tK Tryz.prog 4=some (false,1):=by kernel_rfl
theorem Nf:tK Tryz.prog 25=some (false,1):=by kernel_rfl
theorem M1:tK Tryz.prog 28=some (false,1):=by kernel_rfl
theorem ND:tK Tryz.prog 29=some (false,1):=by kernel_rfl
theorem MZ:tK Tryz.prog 31=some (true,7):=by kernel_rfl
theorem MD:tK Tryz.prog 32=some (false,1):=by kernel_rfl
theorem MH:tK Tryz.prog 33=some (false,1):=by kernel_rfl
theorem I6:tK Tryz.prog 35=some (true,11):=by kernel_rfl
theorem MJ:tK Tryz.prog 40=some (true,2):=by kernel_rfl
theorem Nh:tK Tryz.prog 41=some (false,1):=by kernel_rfl
theorem Ns:tK Tryz.prog 43=some (true,3):=by kernel_rfl
theorem MK:tK Tryz.prog 45=some (true,7):=by kernel_rfl
theorem HJ:tK Tryz.prog 46=some (false,1):=by kernel_rfl
theorem M9:tK Tryz.prog 64=some (false,1):=by kernel_rfl
theorem NH:tK Tryz.prog 67=some (false,1):=by kernel_rfl
theorem Nj:tK Tryz.prog 81=some (false,1):=by kernel_rfl
theorem M0:tK Tryz.prog 89=some (false,1):=by kernel_rfl
theorem K3:tK Tryz.prog 111=some (true,3):=by kernel_rfl
theorem K6:tK Tryz.prog 114=some (true,9):=by kernel_rfl
theorem Mf:tK Tryz.prog 116=some (true,3):=by kernel_rfl
theorem LZ:tK Tryz.prog 117=some (false,1):=by kernel_rfl
theorem Lr:tK Tryz.prog 119=some (true,2):=by kernel_rfl
theorem Le:tK Tryz.prog 123=some (true,2):=by kernel_rfl
theorem L6:tK Tryz.prog 144=some (true,1):=by kernel_rfl
theorem Mg:tK Tryz.prog 145=some (true,4):=by kernel_rfl
theorem L5:tK Tryz.prog 203=some (true,1):=by kernel_rfl
theorem Lc:tK Tryz.prog 272=some (false,1):=by kernel_rfl
theorem Lv:tK Tryz.prog 278=some (false,1):=by kernel_rfl
theorem LC:tK Tryz.prog 280=some (true,2):=by kernel_rfl
theorem xg:(tK Tryz.prog 3).map (·.2)=some 1:=by rw [H8]; rfl
theorem M7:(tK Tryz.prog 25).map (·.2)=some 1:=by rw [Nf]; rfl
theorem Nz:(tK Tryz.prog 28).map (·.2)=some 1:=by rw [M1]; rfl
theorem ME:(tK Tryz.prog 29).map (·.2)=some 1:=by rw [ND]; rfl
theorem Nu:(tK Tryz.prog 31).map (·.2)=some 7:=by rw [MZ]; rfl
theorem xn:(tK Tryz.prog 32).map (·.2)=some 1:=by rw [MD]; rfl
theorem Na:(tK Tryz.prog 33).map (·.2)=some 1:=by rw [MH]; rfl
theorem iS:(tK Tryz.prog 35).map (·.2)=some 11:=by rw [I6]; rfl
theorem cT:(tK Tryz.prog 40).map (·.2)=some 2:=by rw [MJ]; rfl
theorem Nb:(tK Tryz.prog 41).map (·.2)=some 1:=by rw [Nh]; rfl
theorem MU:(tK Tryz.prog 43).map (·.2)=some 3:=by rw [Ns]; rfl
theorem Hd:(tK Tryz.prog 45).map (·.2)=some 7:=by rw [MK]; rfl
theorem NK:(tK Tryz.prog 46).map (·.2)=some 1:=by rw [HJ]; rfl
theorem Gp:(tK Tryz.prog 64).map (·.2)=some 1:=by rw [M9]; rfl
theorem NN:(tK Tryz.prog 67).map (·.2)=some 1:=by rw [NH]; rfl
theorem KU:(tK Tryz.prog 81).map (·.2)=some 1:=by rw [Nj]; rfl
theorem MQ:(tK Tryz.prog 89).map (·.2)=some 1:=by rw [M0]; rfl
theorem EC:(tK Tryz.prog 111).map (·.2)=some 3:=by rw [K3]; rfl
theorem KF:(tK Tryz.prog 114).map (·.2)=some 9:=by rw [K6]; rfl
theorem EN:(tK Tryz.prog 116).map (·.2)=some 3:=by rw [Mf]; rfl
theorem Ld:(tK Tryz.prog 117).map (·.2)=some 1:=by rw [LZ]; rfl
theorem Lg:(tK Tryz.prog 119).map (·.2)=some 2:=by rw [Lr]; rfl
theorem tx:(tK Tryz.prog 123).map (·.2)=some 2:=by rw [Le]; rfl
theorem zW:(tK Tryz.prog 144).map (·.2)=some 1:=by rw [L6]; rfl
theorem KC:(tK Tryz.prog 145).map (·.2)=some 4:=by rw [Mg]; rfl
theorem Fm:(tK Tryz.prog 203).map (·.2)=some 1:=by rw [L5]; rfl
theorem tw:(tK Tryz.prog 272).map (·.2)=some 1:=by rw [Lc]; rfl
theorem FV:(tK Tryz.prog 278).map (·.2)=some 1:=by rw [Lv]; rfl
theorem ot:(tK Tryz.prog 280).map (·.2)=some 2:=by rw [LC]; rfl
theorem tJ:aE Tryz.prog 152=some (3,151,2):=by kernel_rfl
theorem JT:o6 Tryz.prog 45 0=some 0:=by kernel_rfl
theorem N4:oh Tryz.prog 3=true:=by kernel_rfl
theorem Ng:oh Tryz.prog 40=true:=by kernel_rfl
theorem NM:oh Tryz.prog 69=true:=by kernel_rfl
theorem iM (l:List ab): ∀ v∈(l.map ab.cells).flatten,v.oneCell'=true:=kn (fun _=>rfl) l
theorem oE (l:List ao): ∀ v∈(l.map ao.cells).flatten,v.oneCell'=true:=kn (fun _=>rfl) l
theorem rf (l:List cP): ∀ v∈(l.map cP.cells).flatten,v.oneCell'=true:=kn (fun _=>rfl) l
theorem re (l:List bG): ∀ v∈(l.map bG.cells).flatten,v.oneCell'=true:=kn (fun _=>rfl) l
theorem o8 (l:List aK): ∀ v∈(l.map aK.cells).flatten,v.oneCell'=true:=kn (fun _=>rfl) l
theorem NJ:tA Tryz.prog 25=some (114,9,72,(Value.agg [(vI 0),(vI 0),(vI 0),(vI 0),(vI 0),(vI 0),(vI 0),(Value.int .u8 0),(vI 0)].toArray)):=by kernel_rfl
theorem Nk:tA Tryz.prog 28=some (119,2,32,(Value.agg [(vI 0),(vS none 0 0)].toArray)):=by kernel_rfl
theorem Nd:tA Tryz.prog 29=some (121,4,32,(Value.agg [(vI 0),(vI 0),(vI 0),(vI 0)].toArray)):=by kernel_rfl
theorem q8:tA Tryz.prog 32=some (3,1,8,(vI 0)):=by kernel_rfl
theorem M4:tA Tryz.prog 33=some (46,1,24,(vS none 0 0)):=by kernel_rfl
theorem MW:tA Tryz.prog 41=some (123,2,16,(Value.agg [(vI 0),(vI 0)].toArray)):=by kernel_rfl
theorem MS:tA Tryz.prog 46=some (45,7,64,(Value.agg [(vB false),(vB false),(vI 0),(vI 0),(vI 0),(vI 0),(vS none 0 0)].toArray)):=by kernel_rfl
theorem M_:tA Tryz.prog 59=some (32,1,24,(vS none 0 0)):=by kernel_rfl
theorem G2:tA Tryz.prog 82=some (40,2,16,(Value.agg [(vI 0),(vI 0)].toArray)):=by kernel_rfl
theorem Np:tA Tryz.prog 89=some (82,1,24,(vS none 0 0)):=by kernel_rfl
theorem Lj:tA Tryz.prog 117=some (116,3,24,(Value.agg [(vI 0),(vI 0),(vI 0)].toArray)):=by kernel_rfl
theorem LV:tA Tryz.prog 271=some (64,1,8,(Value.map none)):=by kernel_rfl
theorem xE:tA Tryz.prog 272=some (278,1,8,(Value.map none)):=by kernel_rfl
theorem Nc:tB Tryz.prog 27=some ([(vS none 0 0)],[(0,1)]):=by kernel_rfl
theorem MI:tB Tryz.prog 31=some ([(vS none 0 0),(vI 0),(vS none 0 0),(vS none 0 0),(vI 0),(vI 0),(vI 0)],[(0,1),(1,1),(2,1),(3,1),(4,1),(5,1),(6,1)]):=by kernel_rfl
theorem Ch:tB Tryz.prog 35=some ([(vS none 0 0),(vI 0),(vS none 0 0),(vS none 0 0),(vI 0),(vI 0),(vI 0),(vS none 0 0),(vS none 0 0),(vI 0),(vS none 0 0)],[(0,7),(7,1),(8,1),(9,1),(10,1)]):=by kernel_rfl
theorem jt:tB Tryz.prog 40=some ([(vI 0),(vI 0)],[(0,1),(1,1)]):=by kernel_rfl
theorem Nt:tB Tryz.prog 43=some ([(vI 0),(vI 0),(vS none 0 0)],[(0,1),(1,1),(2,1)]):=by kernel_rfl
theorem Hu:tB Tryz.prog 45=some ([(vB false),(vB false),(vI 0),(vI 0),(vI 0),(vI 0),(vS none 0 0)],[(0,1),(1,1),(2,2),(4,3)]):=by kernel_rfl
theorem No:tB Tryz.prog 91=some ([(vS none 0 0),(vI 0),(vS none 0 0),(vS none 0 0),(vI 0),(vI 0),(vI 0),(vS none 0 0),(vS none 0 0),(vI 0),(vS none 0 0),(vS none 0 0),(Value.map none)],[(0,11),(11,1),(12,1)]):=by kernel_rfl
theorem L4:tB Tryz.prog 111=some ([(vI 0),(vI 0),(vI 0)],[(0,1),(1,2)]):=by kernel_rfl
theorem KD:tB Tryz.prog 114=some ([(vI 0),(vI 0),(vI 0),(vI 0),(vI 0),(vI 0),(vI 0),(Value.int .u8 0),(vI 0)],[(0,1),(1,2),(3,2),(5,2),(7,1),(8,1)]):=by kernel_rfl
theorem Iq:tB Tryz.prog 116=some ([(vI 0),(vI 0),(vI 0)],[(0,1),(1,2)]):=by kernel_rfl
theorem KN:tB Tryz.prog 119=some ([(vI 0),(vS none 0 0)],[(0,1),(1,1)]):=by kernel_rfl
theorem DQ:tB Tryz.prog 121=some ([(vI 0),(vI 0),(vI 0),(vI 0)],[(0,3),(3,1)]):=by kernel_rfl
theorem zP:tB Tryz.prog 123=some ([(vI 0),(vI 0)],[(0,1),(1,1)]):=by kernel_rfl
theorem Au:tB Tryz.prog 144=some ([Value.nilFunc],[(0,1)]):=by kernel_rfl
theorem Ln:tB Tryz.prog 145=some ([Value.nilFunc,Value.nilFunc,Value.nilFunc,Value.nilFunc],[(0,1),(1,1),(2,1),(3,1)]):=by kernel_rfl
theorem KZ:tB Tryz.prog 166=some ([(vI 0),(vI 0)],[(0,1),(1,1)]):=by kernel_rfl
theorem Lf:tB Tryz.prog 203=some ([(vS none 0 0)],[(0,1)]):=by kernel_rfl
theorem Me:tB Tryz.prog 274=some ([(vS none 0 0),(vI 0),(vS none 0 0),(vS none 0 0),(vI 0),(vI 0),(vI 0),(vI 0),(vI 0),(vS none 0 0),(vS none 0 0),(vS none 0 0),(vS none 0 0),(vS none 0 0)],[(0,7),(7,3),(10,1),(11,1),(12,1),(13,1)]):=by kernel_rfl
theorem xq:tB Tryz.prog 280=some ([(vI 0),(vI 0)],[(0,1),(1,1)]):=by kernel_rfl
theorem Cm:tE Tryz.prog 25=some (114,9):=by kernel_rfl
theorem Cs:tE Tryz.prog 28=some (119,2):=by kernel_rfl
theorem Ba:tE Tryz.prog 29=some (121,4):=by kernel_rfl
theorem b0:tE Tryz.prog 32=some (3,1):=by kernel_rfl
theorem q9:tE Tryz.prog 33=some (46,1):=by kernel_rfl
theorem JS:tE Tryz.prog 41=some (123,2):=by kernel_rfl
theorem td:tE Tryz.prog 46=some (45,7):=by kernel_rfl
theorem lU:tE Tryz.prog 59=some (32,1):=by kernel_rfl
theorem jZ:tE Tryz.prog 82=some (40,2):=by kernel_rfl
theorem I5:tE Tryz.prog 89=some (82,1):=by kernel_rfl
theorem ur:tE Tryz.prog 117=some (116,3):=by kernel_rfl
theorem DI:tE Tryz.prog 148=some (151,2):=by kernel_rfl
theorem Dr:tE Tryz.prog 218=some (111,3):=by kernel_rfl
theorem Iw:tE Tryz.prog 270=some (266,1):=by kernel_rfl
theorem Ax:tE Tryz.prog 271=some (64,1):=by kernel_rfl
theorem lx:tE Tryz.prog 272=some (278,1):=by kernel_rfl
theorem zb:(match Tryz.prog.underlying 40 with |some (.struct fs)=>(fs[0]?).map (fun fl=>tK Tryz.prog fl.type)|_=>none)=some (some (false,1)):=by kernel_rfl
theorem yP:(match Tryz.prog.underlying 40 with |some (.struct fs)=>(fs[1]?).map (fun fl=>tK Tryz.prog fl.type)|_=>none)=some (some (false,1)):=by kernel_rfl
theorem NX:tV Tryz.prog 3=some (vI 0):=by kernel_rfl
theorem sx:tV Tryz.prog 40=some (Value.agg [(vI 0),(vI 0)].toArray):=by kernel_rfl
theorem Az:tX Tryz.prog 145=some (4,144):=by kernel_rfl
theorem AH:tX Tryz.prog 166=some (2,3):=by kernel_rfl
theorem gI:tZ Tryz.prog 3=some [(vI 0)]:=by kernel_rfl
theorem vM:tZ Tryz.prog 12=some [(Value.int .u64 0)]:=by kernel_rfl
theorem M6:tZ Tryz.prog 31=some [(vS none 0 0),(vI 0),(vS none 0 0),(vS none 0 0),(vI 0),(vI 0),(vI 0)]:=by kernel_rfl
theorem pU:tZ Tryz.prog 32=some [(vS none 0 0)]:=by kernel_rfl
theorem mX:tZ Tryz.prog 35=some [(vS none 0 0),(vI 0),(vS none 0 0),(vS none 0 0),(vI 0),(vI 0),(vI 0),(vS none 0 0),(vS none 0 0),(vI 0),(vS none 0 0)]:=by kernel_rfl
theorem dK:tZ Tryz.prog 40=some [(vI 0),(vI 0)]:=by kernel_rfl
theorem MP:tZ Tryz.prog 43=some [(vI 0),(vI 0),(vS none 0 0)]:=by kernel_rfl
theorem H7:tZ Tryz.prog 45=some [(vB false),(vB false),(vI 0),(vI 0),(vI 0),(vI 0),(vS none 0 0)]:=by kernel_rfl
theorem Nx:tZ Tryz.prog 46=some [(vS none 0 0)]:=by kernel_rfl
theorem L9:tZ Tryz.prog 64=some [(Value.map none)]:=by kernel_rfl
theorem M8:tZ Tryz.prog 67=some [(Value.map none)]:=by kernel_rfl
theorem Md:tZ Tryz.prog 81=some [(Value.pointer none)]:=by kernel_rfl
theorem MO:tZ Tryz.prog 82=some [(vS none 0 0)]:=by kernel_rfl
theorem w9:tZ Tryz.prog 111=some [(vI 0),(vI 0),(vI 0)]:=by kernel_rfl
theorem Ir:tZ Tryz.prog 114=some [(vI 0),(vI 0),(vI 0),(vI 0),(vI 0),(vI 0),(vI 0),(Value.int .u8 0),(vI 0)]:=by kernel_rfl
theorem AK:tZ Tryz.prog 116=some [(vI 0),(vI 0),(vI 0)]:=by kernel_rfl
theorem IN:tZ Tryz.prog 119=some [(vI 0),(vS none 0 0)]:=by kernel_rfl
theorem Ls:tZ Tryz.prog 121=some [(vI 0),(vI 0),(vI 0),(vI 0)]:=by kernel_rfl
theorem DM:tZ Tryz.prog 123=some [(vI 0),(vI 0)]:=by kernel_rfl
theorem AD:tZ Tryz.prog 144=some [Value.nilFunc]:=by kernel_rfl
theorem LB:tZ Tryz.prog 145=some [Value.nilFunc,Value.nilFunc,Value.nilFunc,Value.nilFunc]:=by kernel_rfl
theorem Fk:tZ Tryz.prog 203=some [(vS none 0 0)]:=by kernel_rfl
theorem LS:tZ Tryz.prog 266=some [Value.nilFunc]:=by kernel_rfl
theorem pt:tZ Tryz.prog 280=some [(vI 0),(vI 0)]:=by kernel_rfl
theorem nO:Tryz.prog.underlying 3=some (.int .i64):=by kernel_rfl
theorem N2:Tryz.prog.underlying 4=some .bool:=by kernel_rfl
theorem MY:Tryz.prog.underlying 5=some (.int .u8):=by kernel_rfl
theorem N8:Tryz.prog.underlying 9=some .string:=by kernel_rfl
theorem KR:Tryz.prog.underlying 25=some (.slice 114):=by kernel_rfl
theorem NC:Tryz.prog.underlying 28=some (.slice 119):=by kernel_rfl
theorem KI:Tryz.prog.underlying 29=some (.slice 121):=by kernel_rfl
theorem NA:Tryz.prog.underlying 32=some (.slice 3):=by kernel_rfl
theorem MG:Tryz.prog.underlying 33=some (.slice 46):=by kernel_rfl
theorem NF:Tryz.prog.underlying 41=some (.slice 123):=by kernel_rfl
theorem M3:Tryz.prog.underlying 46=some (.slice 45):=by kernel_rfl
theorem lf:Tryz.prog.underlying 64=some (.map 3 40):=by kernel_rfl
theorem xw:Tryz.prog.underlying 67=some (.map 3 4):=by kernel_rfl
theorem K_:Tryz.prog.underlying 117=some (.slice 116):=by kernel_rfl
theorem L7:Tryz.prog.underlying 136=some (.int .u64):=by kernel_rfl
theorem K2:Tryz.prog.underlying 179=some (.int .u64):=by kernel_rfl
theorem lS:Tryz.prog.underlying 278=some (.map 280 3):=by kernel_rfl
theorem Jt:fL Tryz.prog 40=some [(3,0),(3,1)]:=by kernel_rfl
theorem Iy (d:Nat) (s z:ab) (w:World):(Op.equalIn (d+2) 40 (.agg s.cells.toArray) (.agg z.cells.toArray)).run Tryz.prog w= .ok (decide (s=z)) w:=by
 have hc:(decide (s.Lo=z.Lo)&&(decide (s.Hi=z.Hi)&&true))=decide (s=z):=by rw [Bool.eq_iff_iff]; simp [ab.ext_iff]
 rw [← hc]
 exact r8 (d+1) Jt w (pK w (hZ H8 U w) (hZ H8 U w) (rA _ nO w) (pK w (hZ H8 U w) (hZ H8 U w) (rA _ nO w) (Ar w)))
theorem r6 (x y:Operand) (s z:ab):fM Tryz.prog .eql 40 x y (.agg s.cells.toArray) (.agg z.cells.toArray) (.bool (decide (s=z))):=Bx x y (wK Jt) fun w=>Iy 9998 s z w
theorem LH (x y:Operand) (s z:ab):fM Tryz.prog .neq 40 x y (.agg s.cells.toArray) (.agg z.cells.toArray) (.bool (!decide (s=z))):=Ca x y (wK Jt) fun w=>Iy 9998 s z w
theorem Ip:fL Tryz.prog 280=some [(3,0),(3,1)]:=by kernel_rfl
theorem Jv (d:Nat) (s z:aw) (w:World):(Op.equalIn (d+2) 280 (.agg s.cells.toArray) (.agg z.cells.toArray)).run Tryz.prog w= .ok (decide (s=z)) w:=by
 have hc:(decide (s.right=z.right)&&(decide (s.eP=z.eP)&&true))=decide (s=z):=by rw [Bool.eq_iff_iff]; simp [aw.ext_iff]
 rw [← hc]
 exact r8 (d+1) Ip w (pK w (hZ H8 U w) (hZ H8 U w) (rA _ nO w) (pK w (hZ H8 U w) (hZ H8 U w) (rA _ nO w) (Ar w)))
theorem cE:Tryz.prog.follows .mixedOrders=true:=by kernel_rfl
def TT:x8:=⟨[(1,false,1),(2,false,1),(3,false,1),(4,false,1),(5,false,1),(6,false,1),(7,true,4),(8,true,4),(12,false,1),(15,false,1),(16,false,1),(17,false,1),(18,true,1),(19,true,1),(21,false,1),(22,false,1),(23,false,1),(24,false,1),(25,false,1),(26,true,1),(27,true,1),(28,false,1),(29,false,1),(30,true,7),(31,true,7),(32,false,1),(33,false,1),(34,true,11),(35,true,11),(36,false,1),(37,false,1),(38,false,1),(39,true,2),(40,true,2),(41,false,1),(42,true,3),(43,true,3),(44,true,7),(45,true,7),(46,false,1),(47,false,1),(49,false,1),(50,false,1),(52,false,1),(54,false,1),(55,false,1),(57,false,1),(58,false,1),(59,false,1),(61,false,1),(62,false,1),(63,false,1),(64,false,1),(66,false,1),(67,false,1),(69,false,1),(70,false,1),(71,false,1),(72,false,1),(73,false,1),(74,false,1),(75,false,1),(76,false,1),(77,false,1),(78,false,1),(79,false,1),(80,false,1),(81,false,1),(82,false,1),(84,false,1),(86,false,1),(87,false,1),(88,false,1),(89,false,1),(90,true,13),(91,true,13),(92,false,1),(93,false,1),(94,false,1),(95,false,1),(96,false,1),(97,false,1),(98,false,1),(99,false,1),(100,false,1),(101,false,1),(102,false,1),(103,false,1),(104,false,1),(105,false,1),(106,false,1),(107,false,1),(108,false,1),(109,false,1),(110,true,3),(111,true,3),(112,false,1),(113,true,9),(114,true,9),(115,true,3),(116,true,3),(117,false,1),(118,true,2),(119,true,2),(120,true,4),(121,true,4),(122,true,2),(123,true,2),(124,false,1),(125,false,1),(126,false,1),(127,false,1),(128,false,1),(129,false,1),(130,false,1),(131,false,1),(132,false,1),(133,false,1),(134,false,1),(135,false,1),(136,false,1),(137,false,1),(139,false,1),(140,false,1),(141,false,1),(142,false,1),(143,false,1),(144,true,1),(145,true,4),(146,false,1),(147,false,1),(148,false,1),(149,false,1),(150,true,2),(151,true,2),(152,true,6),(153,false,1),(154,false,1),(155,false,1),(156,false,1),(157,false,1),(158,false,1),(159,false,1),(160,false,1),(161,false,1),(162,false,1),(163,false,1),(164,false,1),(165,false,1),(166,true,2),(167,false,1),(168,false,1),(169,false,1),(171,false,1),(172,false,1),(173,false,1),(174,false,1),(176,false,1),(177,false,1),(178,false,1),(179,false,1),(180,false,1),(181,false,1),(183,false,1),(184,false,1),(185,false,1),(186,false,1),(187,false,1),(188,false,1),(189,false,1),(190,false,1),(191,false,1),(192,false,1),(193,false,1),(194,false,1),(195,false,1),(196,false,1),(197,false,1),(198,false,1),(199,false,1),(200,false,1),(201,false,1),(202,true,1),(203,true,1),(205,false,1),(206,false,1),(208,false,1),(209,false,1),(210,false,1),(211,false,1),(213,false,1),(214,false,1),(215,false,1),(217,false,1),(218,false,1),(219,false,1),(220,false,1),(221,false,1),(222,false,1),(223,false,1),(224,false,1),(225,false,1),(226,false,1),(227,false,1),(229,false,1),(230,false,1),(231,false,1),(232,false,1),(233,false,1),(234,false,1),(235,false,1),(236,false,1),(237,true,3),(238,true,3),(239,false,1),(240,true,3),(241,true,3),(242,false,1),(243,false,1),(244,false,1),(245,false,1),(248,true,0),(249,true,0),(250,true,0),(251,false,1),(252,false,1),(253,false,1),(254,false,1),(255,false,1),(256,false,1),(257,false,1),(258,true,11),(259,true,11),(261,false,1),(262,false,1),(263,false,1),(265,false,1),(266,false,1),(267,false,1),(268,false,1),(269,false,1),(270,false,1),(271,false,1),(272,false,1),(273,true,14),(274,true,14),(275,false,1),(276,false,1),(277,false,1),(278,false,1),(279,true,2),(280,true,2),(281,false,1),(282,false,1),(283,false,1),(284,false,1)],[(7,[some 0,some 1,some 2,some 3]),(8,[some 0,some 1,some 2,some 3]),(18,[some 0]),(19,[some 0]),(26,[some 0]),(27,[some 0]),(30,[some 0,some 1,some 2,some 3,some 4,some 5,some 6]),(31,[some 0,some 1,some 2,some 3,some 4,some 5,some 6]),(34,[some 0,some 7,some 8,some 9,some 10]),(35,[some 0,some 7,some 8,some 9,some 10]),(39,[some 0,some 1]),(40,[some 0,some 1]),(42,[some 0,some 1,some 2]),(43,[some 0,some 1,some 2]),(44,[some 0,some 1,some 2,some 4]),(45,[some 0,some 1,some 2,some 4]),(90,[some 0,some 11,some 12]),(91,[some 0,some 11,some 12]),(110,[some 0,some 1]),(111,[some 0,some 1]),(113,[some 0,some 1,some 3,some 5,some 7,some 8]),(114,[some 0,some 1,some 3,some 5,some 7,some 8]),(115,[some 0,some 1]),(116,[some 0,some 1]),(118,[some 0,some 1]),(119,[some 0,some 1]),(120,[some 0,some 3]),(121,[some 0,some 3]),(122,[some 0,some 1]),(123,[some 0,some 1]),(144,[some 0]),(150,[some 0,some 1]),(151,[some 0,some 1]),(202,[some 0]),(203,[some 0]),(237,[some 0,some 1,some 2]),(238,[some 0,some 1,some 2]),(240,[some 0,some 1,some 2]),(241,[some 0,some 1,some 2]),(258,[some 0,some 1,some 2,some 3,some 4,some 5,some 6,some 7,some 8,some 9,some 10]),(259,[some 0,some 1,some 2,some 3,some 4,some 5,some 6,some 7,some 8,some 9,some 10]),(273,[some 0,some 7,some 10,some 11,some 12,some 13]),(274,[some 0,some 7,some 10,some 11,some 12,some 13]),(279,[some 0,some 1]),(280,[some 0,some 1])],[25,28,29,32,33,41,46,59,74,82,89,117,148,218,227,236,270,271,272]⟩
theorem mR:jm Tryz.prog TT:=Jd kr
theorem cz {t:TypeId} {x:Bool×Nat} (h:TT.Ej t=some x:=by rfl):tK Tryz.prog t=some x:=mR.Ej h
theorem fI {s f k:Nat} (h:TT.foF s f=some k:=by rfl):o6 Tryz.prog s f=some k:=mR.foF h
end
section
open Go.RowKit
/-- blocks that are read -/
def MM (C:List aj) (M:List (Nat×List Value)):Prop:= ∀ p∈M,∀ o vs,(p.2.drop o).take vs.length=vs→At C (some ⟨p.1,o,none⟩) vs
theorem I {C:List aj}:MM C []:=fun p h=>by cases h
theorem mc {C:List aj} {b t:Nat} {cs:List Value} {M:List (Nat×List Value)} (i:Nat) (hC:C[i]? =some (bJ b t cs)) (h:MM C M):MM C ((b,cs)::M):=fun p hp o vs hv=>by
 rcases List.mem_cons.1 hp with rfl|hp
 ·exact mx i hC hv
 ·exact h p hp o vs hv
theorem mr {C:List aj} {b t:Nat} {cs:List Value} {M:List (Nat×List Value)} (i:Nat) (hC:C[i]? =some (bJ b t cs).ro) (h:MM C M):MM C ((b,cs)::M):=fun p hp o vs hv=>by
 rcases List.mem_cons.1 hp with rfl|hp
 ·exact ru i hC hv
 ·exact h p hp o vs hv
def mE:List Prop→Prop
 |[]=>True
 |p::l=>p∧mE l
theorem iu {p:Prop} {l:List Prop} (h:p) (h2:mE l):mE (p::l):=⟨h,h2⟩
/-- the value of an operation, what it asks for, and what is left of the list of places -/
def pv (T:x8) (ops:Array Oper) (M:List (Nat×List Value)) (L:List (Nat×Value)) (hs:List Nat) (g:Option (Nat×Bool)) (op:Op):Option (Value×List Prop×List Nat):=
 match x2 ops L g with
 |true=>some (undef,[],hs)
 |false=>match gX ops L g with
  |false=>none
  |true=>match op with
   | .move x=>match ev L x with
    |some v=>some (v,[],hs)
    |none=>none
   | .assign x=>match ev L x with
    |some v=>some (v,[],hs)
    |none=>none
   | .pick c x y=>match ev L c with
    |some (.bool true)=>match ev L x with
     |some v=>some (v,[],hs)
     |none=>none
    |some (.bool false)=>match ev L y with
     |some v=>some (v,[],hs)
     |none=>none
    |_=>none
   | .unOp .not _ x=>match ev L x with
    |some (.bool b)=>some (.bool !b,[],hs)
    |_=>none
   | .extract x i=>match ev L x with
    |some (.tuple vs)=>match vs.toList[i]? with
     |some v=>some (v,[],hs)
     |none=>none
    |_=>none
   | .fieldAddr s x f=>match ev L x with
    |some (.pointer (some ⟨b,o,none⟩))=>match T.foF s f with
     |some k=>some (.pointer (some ⟨b,o+k,none⟩),[],hs)
     |none=>none
    |_=>none
   | .binOp op _ x y _=>match ev L x with
    |some (.int .i64 a)=>match ev L y with
     |some (.int .i64 b)=>match op with
      | .lss=>some (.bool (decide (a<b)),[],hs)
      | .leq=>some (.bool (decide (a≤b)),[],hs)
      | .gtr=>some (.bool (decide (b<a)),[],hs)
      | .geq=>some (.bool (decide (b≤a)),[],hs)
      | .eql=>some (.bool (decide (a=b)),[],hs)
      | .neq=>some (.bool (!decide (a=b)),[],hs)
      | .add=>some (.int .i64 (a+b),[-9223372036854775808≤a+b,a+b≤9223372036854775807],hs)
      | .sub=>some (.int .i64 (a-b),[-9223372036854775808≤a-b,a-b≤9223372036854775807],hs)
      |_=>none
     |_=>none
    |_=>none
   | .load t x=>match ev L x with
    |some (.pointer (some ⟨b,o,none⟩))=>match M[hs.headD 0]? with
     |some (b',cs)=>match T.Ej t with
      |some (false,_)=>match cs[o]? with
       |some v=>some (v,[b'=b],hs.tail)
       |none=>none
      |some (true,n)=>match Nat.beq o 0 with
       |true=>match Nat.beq cs.length n with
        |true=>some (.agg cs.toArray,[b'=b],hs.tail)
        |false=>none
       |false=>none
      |none=>none
     |none=>none
    |_=>none
   | .call c=>match c with
    |{callee:= .builtin .len,args:=xs,argTypes:=ts}=>match xs.toList with
     |[x]=>match ts.toList with
      |[t]=>match ev L x with
       |some (.slice A n c)=>match Gc T.sl t with
        |true=>some (.int .i64 n,[],hs)
        |false=>none
       |_=>none
      |_=>none
     |_=>none
    |_=>none
   |_=>none
section
variable {E:dM} {T:x8} {ops:Array Oper} {M:List (Nat×List Value)} {D:List Deferred} {L:List (Nat×Value)} {C:List aj} {hs hs':List Nat}
theorem qL {cs:List Value} {o:Nat} {v:Value} (h:cs[o]? =some v):(cs.drop o).take [v].length=[v]:=by
 obtain ⟨hl,rfl⟩:=List.getElem?_eq_some_iff.1 h
 rw [List.drop_eq_getElem_cons hl]; rfl
theorem Mp {o:Oper} {v:Value} {S:List Prop} (hT:jm E.P T) (hM:MM C M) (h:pv T ops M L hs o.guard o.op=some (v,S,hs')) (hS:mE S):SD E ops o D L C v:=by
 obtain ⟨dst,op,ty,ps,af,g⟩:=o
 unfold pv at h
 simp only at h
 split at h
 ·rename_i hg
  cases h
  exact Ep hg
 ·split at h
  ·cases h
  ·rename_i hg
   split at h
   ·split at h
    ·rename_i hx; cases h; exact z4 hg hx
    ·cases h
   ·split at h
    ·rename_i hx; cases h; exact tO hg hx
    ·cases h
   ·split at h
    ·rename_i hc
     split at h
     ·rename_i hx; cases h; exact uu hg hc hx
     ·cases h
    ·rename_i hc
     split at h
     ·rename_i hx; cases h; exact ux hg hc hx
     ·cases h
    ·cases h
   ·split at h
    ·rename_i hx; cases h; exact DY hg hx
    ·cases h
   ·split at h
    ·rename_i vs hx
     split at h
     ·rename_i v' hv; cases h; exact sY (vs:=vs.toList) hg (by simpa using hx) hv
     ·cases h
    ·cases h
   ·split at h
    ·rename_i hx
     split at h
     ·rename_i hk; cases h; exact IL hg hx (hT.foF hk) rfl
     ·cases h
    ·cases h
   ·split at h
    ·rename_i hx
     split at h
     ·rename_i hy
      split at h
      ·cases h; exact bw hg hx hy fj
      ·cases h; exact bw hg hx hy Mb
      ·cases h; exact bw hg hx hy Mn
      ·cases h; exact bw hg hx hy zO
      ·cases h; exact bw hg hx hy oy
      ·cases h; exact bw hg hx hy lp
      ·cases h; exact bw hg hx hy (fG ⟨hS.1,hS.2.1⟩)
      ·cases h; exact bw hg hx hy (pJ ⟨hS.1,hS.2.1⟩)
      ·cases h
     ·cases h
    ·cases h
   ·split at h
    ·rename_i hx
     split at h
     ·rename_i b' cs hm
      have A:=aN hm
      split at h
      ·rename_i hk
       split at h
       ·rename_i hv
        cases h
        obtain rfl:=hS.1
        exact qp hg hx (hT.Ej hk) (hM _ A _ _ (qL hv))
       ·cases h
      ·rename_i n hk
       split at h
       ·rename_i ho
        split at h
        ·rename_i hn
         cases h
         obtain rfl:=hS.1
         have H:=Nat.eq_of_beq_eq_true ho
         subst H
         exact sD hg hx (hT.Ej hk) (hM _ A 0 cs sm) (Nat.eq_of_beq_eq_true hn)
        ·cases h
       ·cases h
      ·cases h
     ·cases h
    ·cases h
   ·split at h
    ·rename_i xs ts
     split at h
     ·rename_i x G
      split at h
      ·rename_i t F
       split at h
       ·rename_i hx
        split at h
        ·rename_i B
         cases h
         obtain ⟨e,he⟩:=hT.sl t (xh B)
         have AA:xs= #[x]:=by apply Array.ext'; simpa using G
         have J:ts= #[t]:=by apply Array.ext'; simpa using F
         subst AA J
         exact Et hg hx he
        ·cases h
       ·cases h
      ·cases h
     ·cases h
    ·cases h
   ·cases h
def pr (T:x8) (n:Nat) (ops:Array Oper) (M:List (Nat×List Value)):Nat→List Nat→List (Nat×Value)→List Oper→Option (List (Nat×Value)×List Oper×List Prop)
 |0,_,L,rest=>some (L,rest,[])
 |k+1,hs,L,[]=>none
 |k+1,hs,L,o::rest=>match o.dst with
  |none=>none
  |some d=>match Nat.blt d n with
   |false=>none
   |true=>match pv T ops M L hs o.guard o.op with
    |none=>none
    |some (v,S,hs')=>match pr T n ops M k hs' ((d,v)::L) rest with
     |none=>none
     |some (L',rest',S')=>some (L',rest',S++S')
theorem sk: ∀ {S S':List Prop},mE (S++S')→mE S∧mE S'
 |[],S',h=>⟨trivial,h⟩
 |p::S,S',h=>⟨⟨h.1,(sk h.2).1⟩,(sk h.2).2⟩
/-- whatever is closed under single steps -/
theorem F8 {J:List Oper→List (Nat×Value)→Prop} (hT:jm E.P T) (hM:MM C M) (hJ: ∀ o rest L d v,SD E ops o D L C v→o.dst=some d→Nat.blt d E.n=true→J rest ((d,v)::L)→J (o::rest) L):
 ∀ (k:Nat) (hs:List Nat) (L:List (Nat×Value)) (rest:List Oper) {L':List (Nat×Value)} {rest':List Oper} {S:List Prop},pr T E.n ops M k hs L rest=some (L',rest',S)→mE S→J rest' L'→J rest L
 |0,hs,L,rest,L',rest',S,h,hS,hj=>by
  unfold pr at h
  cases h
  exact hj
 |k+1,hs,L,[],L',rest',S,h,hS,hj=>by unfold pr at h; cases h
 |k+1,hs,L,o::rest,L',rest',S,h,hS,hj=>by
  unfold pr at h
  split at h
  ·cases h
  ·rename_i d hd
   split at h
   ·cases h
   ·rename_i hn
    split at h
    ·cases h
    ·rename_i v S1 A hv
     split at h
     ·cases h
     ·rename_i L1 G S2 hr
      cases h
      obtain ⟨B,F⟩:=sk hS
      exact hJ o rest L d v (Mp hT hM hv B) hd hn (F8 hT hM hJ k A _ rest hr F hj)
variable {Q:cd} {rest rest':List Oper} {L0 L':List (Nat×Value)} {S:List Prop} {F:List (Nat×Value)→Prop}
/-- a run of operations, one after the other -/
theorem rP (k:Nat) (hs:List Nat) (hM:MM C M) (j:RJ E ops Q rest' D L' C) (hT:jm E.P T:=by exact mR) (h:pr T E.n ops M k hs L rest=some (L0,rest',S):=by rfl) (hL:L0=L':=by (try dsimp only)<;>rfl) (hS:mE S:=by repeat' first|exact True.intro |refine iu ?_ ?_ |exact rfl|omega|(dsimp only; omega)):RJ E ops Q rest D L C:=by
 subst hL
 exact F8 (J:=fun r L=>RJ E ops Q r D L C) hT hM (fun o rest L d v A B F G=>Mk A B F G) k hs L rest h hS j
theorem dP (k:Nat) (hs:List Nat) (hM:MM C M) (j:DJ E ops D C F rest' L') (hT:jm E.P T:=by exact mR) (h:pr T E.n ops M k hs L rest=some (L0,rest',S):=by rfl) (hL:L0=L':=by (try dsimp only)<;>rfl) (hS:mE S:=by repeat' first|exact True.intro |refine iu ?_ ?_ |exact rfl|omega):DJ E ops D C F rest L:=by
 subst hL
 exact F8 (J:=fun r L=>DJ E ops D C F r L) hT hM (fun o rest L d v A B G H=>LU A B G H) k hs L rest h hS j
end
section
variable {P:Program} {r:Option Nat} {n:Nat} {B:BS} {w0:World} {ops:Array Oper} {M:List (Nat×List Value)} {D:List Deferred} {L L':List (Nat×Value)} {C:List aj} {Q:cd} {rest rest':List Oper} {S:List Prop} {F:List (Nat×Value)→Prop}
theorem hE (k:Nat) (hs:List Nat) (hM:MM C M) (h:pr TT n ops M k hs L rest=some (L',rest',S)) (j:RJ ⟨P,r,n,B,w0⟩ ops Q rest' D L' C) (hS:mE S:=by repeat' first|exact True.intro |refine iu ?_ ?_ |exact rfl|omega|(dsimp only; omega)) (hT:jm P TT:=by exact mR):RJ ⟨P,r,n,B,w0⟩ ops Q rest D L C:=rP k hs hM j hT h rfl hS
theorem m7 (k:Nat) (hs:List Nat) (hM:MM C M) (h:pr TT n ops M k hs L rest=some (L',rest',S)) (j:DJ ⟨P,r,n,B,w0⟩ ops D C F rest' L') (hS:mE S:=by repeat' first|exact True.intro |refine iu ?_ ?_ |exact rfl|omega|(dsimp only; omega)) (hT:jm P TT:=by exact mR):DJ ⟨P,r,n,B,w0⟩ ops D C F rest L:=dP k hs hM j hT h rfl hS
theorem a_ (k:Nat) (h:pr TT n ops [] k [] L rest=some (L',rest',S)) (j:RJ ⟨P,r,n,B,w0⟩ ops Q rest' D L' C) (hS:mE S:=by repeat' first|exact True.intro |refine iu ?_ ?_ |exact rfl|omega|(dsimp only; omega)) (hT:jm P TT:=by exact mR):RJ ⟨P,r,n,B,w0⟩ ops Q rest D L C:=rP k [] I j hT h rfl hS
theorem rH (k:Nat) (h:pr TT n ops [] k [] L rest=some (L',rest',S)) (j:DJ ⟨P,r,n,B,w0⟩ ops D C F rest' L') (hS:mE S:=by repeat' first|exact True.intro |refine iu ?_ ?_ |exact rfl|omega|(dsimp only; omega)) (hT:jm P TT:=by exact mR):DJ ⟨P,r,n,B,w0⟩ ops D C F rest L:=dP k [] I j hT h rfl hS
end
end
section
open Go.RowKit
/-- parts of a context, reckoned to the end -/
def jz (C:List aj):List Nat→Option (List aj)
 |[]=>some []
 |i::is=>match C[i]? with
  |some A=>match jz C is with
   |some l=>some (A::l)
   |none=>none
  |none=>none
theorem gN {C:List aj}: ∀ {is:List Nat} {C':List aj},jz C is=some C'→jC C is=C'
 |[],C',h=>by cases h; rfl
 |i::is,C',h=>by
  unfold jz at h
  split at h
  ·rename_i A hA
   split at h
   ·rename_i l hl
    cases h
    show List.filterMap (C[·]?) (i::is)=A::l
    rw [List.filterMap_cons_some hA]
    exact congrArg _ (gN hl)
   ·cases h
  ·cases h
/-- a part of a context in place of the whole -/
theorem aJ {S:BS} {w0:World} {C C':List aj} (is:List Nat) (hn:decide is.Nodup=true:=by rfl) (hC:jC C is=C':=by rfl): ∀ w,St S w0 C w→St S w0 C' w:=fun w h=>St.jC is hn hC h
theorem HN {S:BS} {w0:World} {C C':List aj} (is:List Nat) (hC:jz C is=some C') (hn:decide is.Nodup=true:=by rfl): ∀ w,St S w0 C w→St S w0 C' w:=fun w h=>St.jC is hn (gN hC) h
def Im (C:List aj) (i:Nat) (B:aj):Option (List aj):=match i,C with
 |0,_::C=>some (B::C)
 |i+1,A::C=>match Im C i B with
  |some l=>some (A::l)
  |none=>none
 |_,[]=>none
theorem Ab: ∀ {C:List aj} {i:Nat} {B:aj} {C':List aj},Im C i B=some C'→C.set i B=C'
 |[],0,B,C',h=>by cases h
 |[],i+1,B,C',h=>by cases h
 |A::C,0,B,C',h=>by cases h; rfl
 |A::C,i+1,B,C',h=>by
  unfold Im at h
  split at h
  ·rename_i l hl
   cases h
   exact congrArg _ (Ab hl)
  ·cases h
theorem fm {E:dM} {K:Act→World→Prop} {D:List Deferred} {L:List (Nat×Value)} {C C':List aj} {A B:aj} (i:Nat) (hC:C[i]? =some A) (hh:(∀ w,A.holds w→B.holds w)∧(∀ b,B.d_ b→A.d_ b)∧ ∀ b,B.wf b→A.wf b) (hC':Im C i B=some C') (h:KJ E K D L C'):KJ E K D L C:=EA i hC hh (Ab hC') h
/-- the operations of a region but these; marks of some places -/
def Lu (n:Nat) (T:List Nat):List Nat:=(List.range n).filter fun i=> !T.contains i
def Nn (k:Nat) (t:List Nat):List Bool:=(List.range k).map fun i=>t.contains i
theorem ek {E:dM} {id:Nat} {ops:Array Oper} {Q:cd} {D:List Deferred} {L:List (Nat×Value)} {C:List aj} (hm:E.P.follows .mixedOrders=true) (T fe tb i1 i2:List Nat) {C' C1:List aj} {free:List Nat} {FZ tbb:List Bool}
 (h1:jz C i1=some C') (h2:jz C i2=some C1) (hf:free=Lu ops.size T) (hfe:FZ=Nn free.length fe) (htb:tbb=Nn T.length tb)
 (h:mV E ops D C' C1 (fun L'=>TJ E ops D C' C1 (fun L C=>KJ E (Q .normal) D L C) tbb (dp ops T) L' C) FZ (dp ops free) L)
 (hc:GH ops free T FZ tbb=true:=by kernel_rfl) (n1:decide i1.Nodup=true:=by rfl) (n2:decide i2.Nodup=true:=by rfl):WJ E (.region id ops true) Q D L C:=
 Ic hm free T FZ tbb C' C1 hc (HN i1 h1 n1) (HN i2 h2 n2) h
end
section
open Go.RowKit
def rj (T:x8) (M:List (Nat×List Value)) (L:List (Nat×Value)):List ResultVar→List Nat→Option (List Value×List Prop)
 |[],_=>some ([],[])
 | .tmp t::rs,hs=>match L.lookup t with
  |some v=>match rj T M L rs hs with
   |some (vs,S)=>some (v::vs,S)
   |none=>none
  |none=>none
 | .cell a t::rs,hs=>match L.lookup a with
  |some (.pointer (some ⟨b,o,none⟩))=>match M[hs.headD 0]? with
   |some (b',cs)=>match T.Ej t with
    |some (false,_)=>match cs[o]? with
     |some v=>match rj T M L rs hs.tail with
      |some (vs,S)=>some (v::vs,(b'=b)::S)
      |none=>none
     |none=>none
    |some (true,n)=>match Nat.beq o 0 with
     |true=>match Nat.beq cs.length n with
      |true=>match rj T M L rs hs.tail with
       |some (vs,S)=>some (.agg cs.toArray::vs,(b'=b)::S)
       |none=>none
      |false=>none
     |false=>match rj T M L rs hs.tail with
      |some (vs,S)=>some (.agg ((cs.drop o).take n).toArray::vs,(b'=b)::(((cs.drop o).take n).length=n)::S)
      |none=>none
    |none=>none
   |none=>none
  |_=>none
theorem lB {P:Program} {T:x8} {M:List (Nat×List Value)} {L:List (Nat×Value)} {C:List aj} (hT:jm P T) (hM:MM C M): ∀ (rs:List ResultVar) (hs:List Nat) {vs:List Value} {S:List Prop},rj T M L rs hs=some (vs,S)→mE S→Cy P L C rs vs
 |[],_,vs,S,h,hS=>by unfold rj at h; cases h; exact trivial
 | .tmp t::rs,hs,vs,S,h,hS=>by
  unfold rj at h
  split at h
  ·rename_i v hv
   split at h
   ·rename_i vs' S' hr
    cases h
    exact ⟨hv,lB hT hM rs hs hr hS⟩
   ·cases h
  ·cases h
 | .cell a t::rs,hs,vs,S,h,hS=>by
  unfold rj at h
  split at h
  ·rename_i b o hl
   split at h
   ·rename_i b' cs hm
    have A:=aN hm
    split at h
    ·rename_i hk
     split at h
     ·rename_i v hv
      split at h
      ·rename_i vs' S' hr
       cases h
       obtain ⟨rfl,hS⟩:=hS
       exact ⟨⟨_,hl,.inr ⟨_,hT.Ej hk,hM _ A _ _ (qL hv)⟩⟩,lB hT hM rs _ hr hS⟩
      ·cases h
     ·cases h
    ·rename_i n hk
     split at h
     ·rename_i ho
      split at h
      ·rename_i hn
       split at h
       ·rename_i vs' S' hr
        cases h
        obtain ⟨rfl,hS⟩:=hS
        have D:=Nat.eq_of_beq_eq_true ho
        subst D
        exact ⟨⟨_,hl,.inl ⟨_,cs,hT.Ej hk,hM _ A 0 cs sm,Nat.eq_of_beq_eq_true hn,U⟩⟩,lB hT hM rs _ hr hS⟩
       ·cases h
      ·cases h
     ·split at h
      ·rename_i vs' S' hr
       cases h
       obtain ⟨rfl,B,hS⟩:=hS
       exact ⟨⟨_,hl,.inl ⟨_,_,hT.Ej hk,hM _ A o _ (by rw [B]),B,U⟩⟩,lB hT hM rs _ hr hS⟩
      ·cases h
    ·cases h
   ·cases h
  ·cases h
section
variable {P:Program} {n:Nat} {fn:Func} {w0:World} {K:Act→World→Prop} {L:List (Nat×Value)} {C:List aj} {M:List (Nat×List Value)} {vs:List Value} {S:List Prop} {u x v:Value}
theorem CW (hQ: ∀ D L C,LJ ⟨P,none,n,pk,w0⟩ fn (xp w0 v) D L C→KJ ⟨P,none,n,pk,w0⟩ K D L C) (hs:List Nat) (hM:MM C M) (h:rj TT M L fn.results.toList hs=some ([u],S)) (e:u=v) (hS:mE S:=by repeat' first|exact True.intro |refine iu rfl ?_) (hT:jm P TT:=by exact mR):KJ ⟨P,none,n,pk,w0⟩ K [] L C:=
 hQ _ _ _ (fr (lB hT hM _ _ h hS) fun w hs=>yV e hs)
theorem pP (hQ: ∀ D L C,LJ ⟨P,none,n,pk,w0⟩ fn (xp w0 v) D L C→KJ ⟨P,none,n,pk,w0⟩ K D L C) (hs:List Nat) (hM:MM C M) (h:rj TT M L fn.results.toList hs=some (u::x::vs,S)) (e:Value.tuple (u::x::vs).toArray=v) (hS:mE S:=by repeat' first|exact True.intro |refine iu rfl ?_) (hT:jm P TT:=by exact mR):KJ ⟨P,none,n,pk,w0⟩ K [] L C:=
 hQ _ _ _ (fr (lB hT hM _ _ h hS) fun w hs=>yV e hs)
theorem LX {α:Type} {V:α→Value} {p:α→Prop} {N:α→List aj} (hQ: ∀ D L C,LJ ⟨P,none,n,pk,w0⟩ fn (E5 w0 V p N) D L C→KJ ⟨P,none,n,pk,w0⟩ K D L C) (x:α) (is hs:List Nat) (hM:MM C M) (h:rj TT M L fn.results.toList hs=some (vs,S)) (hw:(N x).all (·.wr)=true) (hN:jC C is=N x) (hV:Kq vs=V x) (hp:p x) (hn:decide is.Nodup=true:=by rfl) (hS:mE S:=by repeat' first|exact True.intro |refine iu rfl ?_) (hT:jm P TT:=by exact mR):KJ ⟨P,none,n,pk,w0⟩ K [] L C:=
 hQ _ _ _ (fr (lB hT hM _ _ h hS) fun w hs=>FB x is hV hp hn hN hw hs)
theorem LM {A:aj} {α:Type} {V:α→Value} {p:α→Prop} {A':α→aj} (hQ: ∀ D L C,LJ ⟨P,none,n,⟨A.wf,fun _=>True⟩,w0⟩ fn (GO w0 A V p A') D L C→KJ ⟨P,none,n,⟨A.wf,fun _=>True⟩,w0⟩ K D L C) (x:α) (i:Nat) (hs:List Nat) (hM:MM C M) (h:rj TT M L fn.results.toList hs=some (vs,S)) (hw:(A' x).wr=true) (hC:C[i]? =some (A' x)) (hV:Kq vs=V x) (hp:p x) (hS:mE S:=by repeat' exact True.intro) (hT:jm P TT:=by exact mR):KJ ⟨P,none,n,⟨A.wf,fun _=>True⟩,w0⟩ K [] L C:=
 hQ _ _ _ (fr (lB hT hM _ _ h hS) fun w hs=>L3 x i hV hp hC hw hs)
end
end
section
open Go.RowKit
def zM {α:Type _}:List α→List α→Option (List α)
 |[],m=>some m
 |a::l,m=>match zM l m with
  |some r=>some (a::r)
  |none=>none
theorem zY {α:Type _}: ∀ {l m r:List α},zM l m=some r→l++m=r
 |[],m,r,h=>by cases h; rfl
 |a::l,m,r,h=>by
  unfold zM at h
  split at h
  ·rename_i r' hr
   cases h
   exact congrArg (a:: ·) (zY hr)
  ·cases h
def Ms (L:List (Nat×Value)):List Nat→Option (List (Nat×Value))
 |[]=>some []
 |t::ts=>match L.lookup t with
  |some v=>match Ms L ts with
   |some r=>some ((t,v)::r)
   |none=>none
  |none=>none
theorem Aj {L M:List (Nat×Value)} (k:ew L M): ∀ {ts:List Nat} {r:List (Nat×Value)},Ms L ts=some r→ew L (r++M)
 |[],r,h=>by cases h; exact k
 |t::ts,r,h=>by
  unfold Ms at h
  split at h
  ·rename_i v hv
   split at h
   ·rename_i r' hr
    cases h
    exact ew.cons hv (Aj k hr)
   ·cases h
  ·cases h
section
variable {E:dM} {Q:cd} {D:List Deferred} {L L0:List (Nat×Value)} {C C0:List aj} {ι:Type} {Li:ι→List (Nat×Value)} {Ci:ι→List aj}
theorem bX {c:Code} (kL kC:List Nat) (hL:Ms L kL=some L0) (hC0:jz C kC=some C0) (S:ι→List (Nat×Value)) (G:ι→List aj) (hLi: ∀ x,zM L0 (S x)=some (Li x)) (hCi: ∀ x,zM C0 (G x)=some (Ci x)) (μ:ι→Nat) (x0:ι)
 (h0:ew L (S x0)) (hC: ∀ w,St E.S E.w0 C w→St E.S E.w0 (Ci x0) w)
 (round: ∀ x (J:Act→World→Prop),(∀ y D' L' C',D'=D→μ y<μ x→ew L' (Li y)→(∀ w,St E.S E.w0 C' w→St E.S E.w0 (Ci y) w)→KJ E J D' L' C')→WJ E c (Exit.then J Q) D (Li x) (Ci x)):WJ E (.loop c) Q D L C:=
 JG Li Ci μ x0 (zY (hLi x0)▸Aj h0 hL) hC round
theorem pG {x y:Code} (kL kC:List Nat) (hL:Ms L kL=some L0) (hC0:jz C kC=some C0) (S:ι→List (Nat×Value)) (G:ι→List aj) (hLi: ∀ x,zM L0 (S x)=some (Li x)) (hCi: ∀ x,zM C0 (G x)=some (Ci x))
 (hy: ∀ z,WJ E y Q D (Li z) (Ci z)) (h: ∀ K:Act→World→Prop,(∀ z,KJ E K D (Li z) (Ci z))→WJ E x (Exit.then K Q) D L C):WJ E (.seq x y) Q D L C:=Jk Li Ci hy h
end
end
section
open Go.RowKit
set_option linter.unusedSectionVars false
/-- what is asked of keys -/
structure qd (P:Program) (kt:Nat) {K:Type} (kV:K→Value):Prop where
 check: ∀ (e:Bool) (x:K) (w:World),(Instr.checkKey e 10000 kt (kV x)).run P w= .ok () w
 find: ∀ (x:K) (w:World) (es:List MapEntry),(∀ e∈es,∃ k,e.key=kV k)→
  ((Instr.findKey kt (kV x) es).run P w= .ok none w∧ ∀ e∈es,e.key≠kV x)∨ ∃ j e,(Instr.findKey kt (kV x) es).run P w= .ok (some (j,e.val)) w∧es[j]? =some e∧e.key=kV x
 bits: ∀ x,Instr.sameBits 10000 (kV x) (kV x)=true
 inj: ∀ x y,kV x=kV y→x=y
section
variable {K:Type} [DecidableEq K] {kV:K→Value}
def dB {β:Type} (l:List (K×β)) (x:K) (y:β):List (K×β):=if (l.lookup x).isSome then l.map (fun p=>if p.1=x then (x,y) else p) else l++[(x,y)]
def bR {β:Type} (l:List (K×β)) (x:K):List (K×β):=l.filter fun p=> !decide (p.1=x)
def bo {β γ:Type} (f:β→γ) (l:List (K×β)):List (K×γ):=l.map fun p=>(p.1,f p.2)
theorem Cn {β γ:Type} (f:β→γ) (l:List (K×β)):(bo f l).length=l.length:=by simp [bo]
theorem kc {β γ:Type} (f:β→γ) (x:K): ∀ l:List (K×β),(bo f l).lookup x=(l.lookup x).map f
 |[]=>rfl
 |p::l=>by
  obtain ⟨k,v⟩:=p
  have ih:=kc f x l
  by_cases h:x=k
  ·subst h; simp [bo,List.lookup]
  ·have:(x==k)=false:=by simpa using h
   simp only [bo,List.map_cons,List.lookup,this] at ih ⊢
   exact ih
theorem fE {β γ:Type} (f:β→γ) (l:List (K×β)) (x:K) (y:β):bo f (dB l x y)=dB (bo f l) x (f y):=by
 unfold dB
 rw [kc,Option.isSome_map]
 split
 ·simp only [bo,List.map_map]
  refine List.map_congr_left fun p _=>?_
  simp only [Function.comp]
  split<;>rfl
 ·simp [bo]
theorem jI {β γ:Type} (f:β→γ) (l:List (K×β)) (x:K):bo f (bR l x)=bR (bo f l) x:=by
 unfold bR bo
 rw [List.filter_map]
 rfl
theorem gS {β:Type} {x:K}: ∀ {l:List (K×β)},l.lookup x=none↔ ∀ p∈l,p.1≠x
 |[]=>by simp
 |p::l=>by
  obtain ⟨k,v⟩:=p
  by_cases h:x=k
  ·subst h; simp [List.lookup]
  ·have hb:(x==k)=false:=by simpa using h
   simp only [List.lookup,hb,cO,forall_eq_or_imp]
   rw [gS (l:=l)]
   exact ⟨fun q=>⟨fun e=>h e.symm,q⟩,fun q=>q.2⟩
theorem ia {β:Type} {x:K} {y:β}: ∀ {l:List (K×β)},(l.map (·.1)).Nodup→((x,y)∈l↔l.lookup x=some y)
 |[],_=>by simp
 |p::l,hn=>by
  obtain ⟨k,v⟩:=p
  simp only [List.map_cons,List.nodup_cons] at hn
  by_cases h:x=k
  ·subst h
   simp only [List.lookup,beq_self_eq_true,cO,Prod.mk.injEq,true_and,Option.some.injEq]
   constructor
   ·rintro (e|e)
    ·exact e.symm
    ·exact absurd (List.mem_map.2 ⟨_,e,U⟩) hn.1
   ·intro e; exact .inl e.symm
  ·have hb:(x==k)=false:=by simpa using h
   simp only [List.lookup,hb,cO,Prod.mk.injEq,h,false_and,false_or]
   exact ia hn.2
structure gD (kV:K→Value) (es:Array MapEntry) (c:Nat) (m:List (K×Value)):Prop where
 list:es.toList.map (fun (e:MapEntry)=>(e.key,e.val))=m.map (fun p=>(kV p.1,p.2))
 keys:(m.map (·.1)).Nodup
 E9: ∀ e∈es.toList,e.born<c
 born:(es.toList.map (·.born)).Nodup
def fJ (kV:K→Value) (b:Nat) (m:List (K×Value)):aj where
 d_ k:=k=b
 wf k:=k=b
 holds w:= ∃ es c,w.heap[b]? =some (.map es c)∧gD kV es c m
 wr:=true
 jc _ h:=h
 whole _ _ h:=h
 lt w h k hk:=by obtain ⟨es,c,he,_⟩:=h; exact hk▸dA he
 mg w w' hk h:=by obtain ⟨es,c,he,hm⟩:=h; exact ⟨es,c,(hk b rfl).trans he,hm⟩
theorem gD.nil:gD kV #[] 0 []:=⟨rfl,List.nodup_nil,sm,List.nodup_nil⟩
theorem gD.size {es:Array MapEntry} {c:Nat} {m:List (K×Value)} (h:gD kV es c m):es.size=m.length:=by
 have:=congrArg List.length h.list
 simpa using this
theorem yo {P:Program} {kt:Nat} (hk:qd P kt kV) (x:K): ∀ (es:List MapEntry) (m:List (K×Value)),es.map (fun (e:MapEntry)=>(e.key,e.val))=m.map (fun p=>(kV p.1,p.2))→
 ((∀ e∈es,e.key≠kV x)→m.lookup x=none)∧ ∀ (j:Nat) (e:MapEntry),es[j]? =some e→e.key=kV x→m[j]? =some (x,e.val):=by
 intro es m h
 refine ⟨fun hn=>gS.2 fun p hp e=>?_,fun j e he hx=>?_⟩
 ·have:(kV p.1,p.2)∈es.map (fun (e:MapEntry)=>(e.key,e.val)):=by rw [h]; exact List.mem_map.2 ⟨p,hp,rfl⟩
  obtain ⟨z,hz,B⟩:=List.mem_map.1 this
  simp only [Prod.mk.injEq] at B
  exact hn z hz (by rw [B.1,e])
 ·have A:(es.map (fun (e:MapEntry)=>(e.key,e.val)))[j]? =some (e.key,e.val):=by rw [eW,he]; rfl
  rw [h,eW] at A
  cases hm:m[j]? with
  |none=>simp [hm] at A
  |some p=>
   simp only [hm,Option.map_some,Option.some.injEq,Prod.mk.injEq] at A
   have:=hk.inj _ _ (A.1.trans hx)
   obtain ⟨k,v⟩:=p
   simp only at this A
   rw [this,A.2]
theorem l5 {P:Program} {w:World} {kt:Nat} {x:K} {es:Array MapEntry} {c:Nat} {m:List (K×Value)} (hk:qd P kt kV) (h:gD kV es c m):
 ((Instr.findKey kt (kV x) es.toList).run P w= .ok none w∧m.lookup x=none)∨
 ∃ j v,(Instr.findKey kt (kV x) es.toList).run P w= .ok (some (j,v)) w∧m[j]? =some (x,v)∧m.lookup x=some v:=by
 obtain ⟨D,E⟩:=yo hk x es.toList m h.list
 rcases hk.find x w es.toList (fun e he=>by
  have:(e.key,e.val)∈m.map (fun p=>(kV p.1,p.2)):=by rw [← h.list]; exact List.mem_map.2 ⟨e,he,rfl⟩
  obtain ⟨p,_,hp⟩:=List.mem_map.1 this
  simp only [Prod.mk.injEq] at hp
  exact ⟨p.1,hp.1.symm⟩) with ⟨A,B⟩|⟨j,e,A,B,C⟩
 ·exact .inl ⟨A,D B⟩
 ·have:=E j e B C
  exact .inr ⟨j,e.val,A,this,(ia h.keys).1 (aN this)⟩
theorem fX {P:Program} {w:World} {kt:Nat} {x:K} (hk:qd P kt kV) (e:Bool):(Instr.checkKey e 10000 kt (kV x)).run P w= .ok () w:=hk.check e x w
section
variable {E:dM} {ops:Array Oper} {Q:cd} {rest:List Oper} {D:List Deferred} {L:List (Nat×Value)} {C:List aj}
variable {dst:Option Tmp} {d:Nat} {ty:TypeId} {ps:String} {af:Array Edge} {g:Option (Nat×Bool)}
theorem lY {t:TypeId} (hg:gX ops L g=true) (hd:Nat.blt d E.n=true) (k: ∀ b,RJ E ops Q rest D ((d,.map (some b))::L) (fJ kV b []::C)):RJ E ops Q (⟨some d,.makeMap t none,ty,ps,af,g⟩::rest) D L C:=by
 intro a w B hs
 have hd':d<E.n:=by rw [← Nat.blt_eq]; exact hd
 unfold oj
 rw [if_pos (cV B hg)]
 refine fc (v:= .map (some w.heap.size)) (w':=w.alloc (.map #[] 0)) sm ?_ ?_
 ·simp [execOp,Instr.makeMap,newObj,Sem.run]
 ·refine k _ _ _ (B.put hd' _) (hs.grow (cU.alloc no w _) (N:=[fJ kV w.heap.size []]) ⟨fun A hA=>?_,fun A hA b hb=>?_,List.pairwise_singleton _ _⟩)
  ·simp at hA; subst hA; exact ⟨#[],0,heap_alloc_new w _,gD.nil⟩
  ·simp at hA; subst hA; exact Nat.le_of_eq (Eq.symm hb)
theorem gD.push {es:Array MapEntry} {c:Nat} {m:List (K×Value)} (h:gD kV es c m) {x:K} (hx:m.lookup x=none) (v:Value):gD kV (es.push {key:=kV x,val:=v,born:=c}) (c+1) (m++[(x,v)]):=by
 refine ⟨by simp [h.list],?_,?_,?_⟩
 ·rw [List.map_append,List.nodup_append]
  refine ⟨h.keys,sm,fun a ha b hb=>?_⟩
  simp at hb; subst hb
  obtain ⟨p,hp,rfl⟩:=List.mem_map.1 ha
  exact gS.1 hx p hp
 ·intro e he
  simp only [Array.toList_push,jH,bD] at he
  rcases he with he|rfl
  ·exact Nat.lt_succ_of_lt (h.E9 e he)
  ·exact Nat.lt_succ_self _
 ·simp only [Array.toList_push,List.map_append,List.map_cons,List.map_nil]
  rw [List.nodup_append]
  refine ⟨h.born,sm,fun a ha b hb=>?_⟩
  simp at hb; subst hb
  obtain ⟨p,hp,rfl⟩:=List.mem_map.1 ha
  exact Nat.ne_of_lt (h.E9 p hp)
theorem HB {m:List (K×Value)} {j:Nat} {x:K} {v0 v:Value} (hn:(m.map (·.1)).Nodup) (hj:m[j]? =some (x,v0)):m.map (fun p=>if p.1=x then (x,v) else p)=m.set j (x,v):=by
 refine List.ext_getElem? fun i=>?_
 rw [eW,List.getElem?_set]
 by_cases e:j=i
 ·subst e
  have hl:=(List.getElem?_eq_some_iff.1 hj).1
  rw [hj]; simp [hl]
 ·rw [if_neg e]
  cases hi:m[i]? with
  |none=>rfl
  |some p=>
   simp only [Option.map_some]
   rw [if_neg]
   intro hp
   have B:(m.map (·.1))[i]? =some x:=by rw [eW,hi]; simp [hp]
   have C:(m.map (·.1))[j]? =some x:=by rw [eW,hj]; rfl
   have A:=(List.getElem?_eq_some_iff.1 B).1
   exact e (((List.getElem?_inj A hn).1 (B.trans C.symm)).symm)
theorem gD.set {es:Array MapEntry} {c:Nat} {m:List (K×Value)} (h:gD kV es c m) {x:K} {j:Nat} {v0:Value} (hj:m[j]? =some (x,v0)) (hx:m.lookup x=some v0) (v:Value):
 gD kV (es.modify j fun e=>{e with key:=kV x,val:=v}) c (dB m x v):=by
 have C:dB m x v=m.set j (x,v):=by unfold dB; rw [hx]; simpa using HB h.keys hj
 have hl:=(List.getElem?_eq_some_iff.1 hj).1
 have E:=h.size
 have A:j<es.size:=by omega
 have B:(es.modify j fun e=>{e with key:=kV x,val:=v}).toList=es.toList.set j {(es[j]) with key:=kV x,val:=v}:=by
  refine List.ext_getElem? fun i=>?_
  rw [Array.getElem?_toList,Array.getElem?_modify,List.getElem?_set]
  by_cases e:j=i
  ·subst e; simp [A]
  ·simp [e]
 have D:(es.toList.set j {(es[j]) with key:=kV x,val:=v}).map (·.born)=es.toList.map (·.born):=by
  rw [List.map_set]
  refine List.ext_getElem? fun i=>?_
  rw [List.getElem?_set]
  by_cases e:j=i
  ·subst e; simp [A]
  ·rw [if_neg e]
 refine ⟨?_,?_,?_,?_⟩
 ·rw [B,C,List.map_set,List.map_set,h.list]
 ·rw [C,List.map_set]
  have:(m.map (·.1)).set j x=m.map (·.1):=by
   refine List.ext_getElem? fun i=>?_
   rw [List.getElem?_set]
   by_cases e:j=i
   ·subst e; simp [hl]; simpa using (congrArg Prod.fst ((List.getElem?_eq_some_iff.1 hj).2)).symm
   ·rw [if_neg e]
  simp only [this]
  exact h.keys
 ·intro e he
  rw [B] at he
  have hb:e.born∈(es.toList.set j {(es[j]) with key:=kV x,val:=v}).map (·.born):=List.mem_map.2 ⟨e,he,rfl⟩
  rw [D] at hb
  obtain ⟨e',he',hq⟩:=List.mem_map.1 hb
  rw [← hq]; exact h.E9 e' he'
 ·rw [B,D]; exact h.born
/-- m[x] = y -/
theorem im {t kt et:TypeId} {xm xk xv:Operand} {b:Nat} {x:K} {v:Value} {m m':List (K×Value)} {C':List aj} (i:Nat) (hg:gX ops L g=true) (hm:ev L xm=some (.map (some b))) (hk:ev L xk=some (kV x)) (hv:ev L xv=some v)
 (ht:E.P.underlying t=some (.map kt et)) (hkt:qd E.P kt kV) (hC:C[i]? =some (fJ kV b m)) (hm':dB m x v=m') (hC':C.set i (fJ kV b m')=C') (k:RJ E ops Q rest D L C'):
 RJ E ops Q (⟨none,.mapUpdate t xm xk xv,ty,ps,af,g⟩::rest) D L C:=by
 subst hm' hC'
 intro a w A hs
 unfold oj
 rw [if_pos (cV A hg)]
 obtain ⟨es,c,he,hi⟩:=hs.holds _ (aN hC)
 have B:(getObj b).run E.P w= .ok (.map es c) w:=MapKept.run_getObj_map he
 rcases l5 (P:=E.P) (w:=w) (x:=x) hkt hi with ⟨AA,F⟩|⟨j,N,AA,F,J⟩
 ·refine od (w':={w with heap:=w.heap.setIfInBounds b (.map (es.push {key:=kV x,val:=v,born:=c}) (c+1))}) sm ?_ ?_
  ·simp [execOp,A.ev hm,A.ev hk,A.ev hv,Instr.mapUpdate,run_underlying ht,B,fX hkt,AA,MapKept.run_setObj_map _ he]
  ·refine k _ _ ⟨A.defers,A.size,A.at_⟩ (hs.x5 (b:=b) i hC U U (kl _) (fun _ h=>h) ⟨_,_,mq he,?_⟩)
   have:dB m x v=m++[(x,v)]:=by unfold dB; rw [F]; rfl
   rw [this]; exact hi.push F v
 ·have M:=hi.size
  have G:j<es.size:=by have:=(List.getElem?_eq_some_iff.1 F).1; omega
  have H:(es[j]).key=kV x:=by
   have:=congrArg (fun l=>l[j]?) hi.list
   simp [G,F] at this
   exact this.1
  refine od (w':={w with heap:=w.heap.setIfInBounds b (.map (es.modify j fun e=>{e with key:=kV x,val:=v}) c)}) sm ?_ ?_
  ·simp [execOp,A.ev hm,A.ev hk,A.ev hv,Instr.mapUpdate,run_underlying ht,B,fX hkt,AA,MapKept.run_setObj_map _ he,Instr.keyThatStays,G,H,hkt.bits x]
  ·exact k _ _ ⟨A.defers,A.size,A.at_⟩ (hs.x5 (b:=b) i hC U U (kl _) (fun _ h=>h) ⟨_,_,mq he,hi.set F J v⟩)
theorem gD.del {es:Array MapEntry} {c:Nat} {m:List (K×Value)} (h:gD kV es c m) {x:K} {j:Nat} {v0:Value} (hj:m[j]? =some (x,v0)):gD kV (es.eraseIdxIfInBounds j) c (bR m x):=by
 have hl:=(List.getElem?_eq_some_iff.1 hj).1
 have D:=h.size
 have A:j<es.size:=by omega
 have B:(es.eraseIdxIfInBounds j).toList=es.toList.eraseIdx j:=by simp [Array.eraseIdxIfInBounds,A]
 have E:bR m x=m.eraseIdx j:=by
  have hn:=h.keys
  clear h D A B
  induction m generalizing j with
  |nil=>simp at hj
  |cons p m ih=>
   obtain ⟨k,v⟩:=p
   simp only [List.map_cons,List.nodup_cons] at hn
   cases j with
   |zero=>
    simp at hj
    obtain ⟨rfl,rfl⟩:=hj
    simp only [bR,List.eraseIdx_zero,List.tail_cons]
    rw [List.filter_cons_of_neg sm]
    refine List.filter_eq_self.2 fun p hp=>?_
    have:p.1≠k:=fun e=>hn.1 (List.mem_map.2 ⟨p,hp,e⟩)
    simpa using this
   |succ j=>
    simp only [List.getElem?_cons_succ] at hj
    have C:k≠x:=fun e=>hn.1 (List.mem_map.2 ⟨_,aN hj,e.symm⟩)
    simp only [bR,List.eraseIdx_cons_succ] at ih ⊢
    rw [List.filter_cons_of_pos (by simpa using C),ih hj (by simpa using (List.getElem?_eq_some_iff.1 hj).1) hn.2]
 have sub:(es.eraseIdxIfInBounds j).toList.Sublist es.toList:=by rw [B]; exact List.eraseIdx_sublist _ _
 refine ⟨?_,?_,fun e he=>h.E9 e (sub.subset he),h.born.sublist (sub.map _)⟩
 ·rw [B,E,ChangeMaps.map_eraseIdx,ChangeMaps.map_eraseIdx,h.list]
 ·rw [E]; exact h.keys.sublist ((List.eraseIdx_sublist _ _).map _)
theorem yn {m:List (K×Value)} {x:K} (h:m.lookup x=none):bR m x=m:=List.filter_eq_self.2 fun p hp=>by simpa using gS.1 h p hp
/-- y, ok := m[x] -/
theorem EP {t kt et:TypeId} {xm xk:Operand} {b:Nat} {x:K} {z:Value} {m:List (K×Value)} (hg:gX ops L g=true) (hm:ev L xm=some (.map (some b))) (hk:ev L xk=some (kV x))
 (ht:E.P.underlying t=some (.map kt et)) (hkt:qd E.P kt kV) (hz:tV E.P et=some z) (hC:jf C (fJ kV b m).holds):
 SD E ops ⟨dst,.lookup t xm xk true,ty,ps,af,g⟩ D L C (.tuple [(m.lookup x).getD z,.bool (m.lookup x).isSome].toArray):=
 cM hg sm fun a w A hs=>by
  obtain ⟨es,c,he,hi⟩:=hs.has hC
  have B:(getObj b).run E.P w= .ok (.map es c) w:=MapKept.run_getObj_map he
  rcases l5 (P:=E.P) (w:=w) (x:=x) hkt hi with ⟨F,G⟩|⟨j,AA,F,G,H⟩
  ·simp [execOp,Instr.lookup,A.ev hm,A.ev hk,run_underlying ht,B,fX hkt,F,G,Ev hz]
  ·simp [execOp,Instr.lookup,A.ev hm,A.ev hk,run_underlying ht,B,fX hkt,F,H]
/-- m[x] -/
theorem Bq {t kt et:TypeId} {xm xk:Operand} {b:Nat} {x:K} {z:Value} {m:List (K×Value)} (hg:gX ops L g=true) (hm:ev L xm=some (.map (some b))) (hk:ev L xk=some (kV x))
 (ht:E.P.underlying t=some (.map kt et)) (hkt:qd E.P kt kV) (hz:tV E.P et=some z) (hC:jf C (fJ kV b m).holds):
 SD E ops ⟨dst,.lookup t xm xk false,ty,ps,af,g⟩ D L C ((m.lookup x).getD z):=
 cM hg sm fun a w A hs=>by
  obtain ⟨es,c,he,hi⟩:=hs.has hC
  have B:(getObj b).run E.P w= .ok (.map es c) w:=MapKept.run_getObj_map he
  rcases l5 (P:=E.P) (w:=w) (x:=x) hkt hi with ⟨F,G⟩|⟨j,AA,F,G,H⟩
  ·simp [execOp,Instr.lookup,A.ev hm,A.ev hk,run_underlying ht,B,fX hkt,F,G,Ev hz]
  ·simp [execOp,Instr.lookup,A.ev hm,A.ev hk,run_underlying ht,B,fX hkt,F,H]
/-- len(m) -/
theorem EU {t kt et:TypeId} {xm:Operand} {b:Nat} {m:List (K×Value)} (hg:gX ops L g=true) (hm:ev L xm=some (.map (some b))) (ht:E.P.underlying t=some (.map kt et)) (hC:jf C (fJ kV b m).holds):
 SD E ops ⟨dst,.call {callee:= .builtin .len,args:= #[xm],argTypes:= #[t]},ty,ps,af,g⟩ D L C (.int .i64 (m.length:Int)):=
 cM hg sm fun a w B hs=>by
  obtain ⟨es,c,he,hi⟩:=hs.has hC
  have A:(getObj b).run E.P w= .ok (.map es c) w:=MapKept.run_getObj_map he
  simp [execOp,resolve,invoke,builtin,B.ev hm,Builtin.len_,run_underlying ht,A,hi.size,goInt]
theorem iQ {β:Type} {t kt et:TypeId} {xm xk:Operand} {b:Nat} {x:K} {f:β→Value} {z:β} {l:List (K×β)} (hg:gX ops L g=true) (hm:ev L xm=some (.map (some b))) (hk:ev L xk=some (kV x))
 (ht:E.P.underlying t=some (.map kt et)) (hkt:qd E.P kt kV) (hz:tV E.P et=some (f z)) (hC:jf C (fJ kV b (bo f l)).holds):
 SD E ops ⟨dst,.lookup t xm xk true,ty,ps,af,g⟩ D L C (.tuple [f ((l.lookup x).getD z),.bool (l.lookup x).isSome].toArray):=by
 have:=EP (dst:=dst) (ty:=ty) (ps:=ps) (af:=af) (D:=D) hg hm hk ht hkt hz hC
 rw [kc] at this
 have A:((l.lookup x).map f).getD (f z)=f ((l.lookup x).getD z):=by cases l.lookup x<;>rfl
 rw [A,Option.isSome_map] at this
 exact this
theorem i_ {β:Type} {t kt et:TypeId} {xm xk:Operand} {b:Nat} {x:K} {f:β→Value} {z:β} {l:List (K×β)} (hg:gX ops L g=true) (hm:ev L xm=some (.map (some b))) (hk:ev L xk=some (kV x))
 (ht:E.P.underlying t=some (.map kt et)) (hkt:qd E.P kt kV) (hz:tV E.P et=some (f z)) (hC:jf C (fJ kV b (bo f l)).holds):
 SD E ops ⟨dst,.lookup t xm xk false,ty,ps,af,g⟩ D L C (f ((l.lookup x).getD z)):=by
 have:=Bq (dst:=dst) (ty:=ty) (ps:=ps) (af:=af) (D:=D) hg hm hk ht hkt hz hC
 rw [kc] at this
 have A:((l.lookup x).map f).getD (f z)=f ((l.lookup x).getD z):=by cases l.lookup x<;>rfl
 rw [A] at this
 exact this
theorem yu {β:Type} {t kt et:TypeId} {xm:Operand} {b:Nat} {f:β→Value} {l:List (K×β)} (hg:gX ops L g=true) (hm:ev L xm=some (.map (some b))) (ht:E.P.underlying t=some (.map kt et)) (hC:jf C (fJ kV b (bo f l)).holds):
 SD E ops ⟨dst,.call {callee:= .builtin .len,args:= #[xm],argTypes:= #[t]},ty,ps,af,g⟩ D L C (.int .i64 (l.length:Int)):=by
 have:=EU (dst:=dst) (ty:=ty) (ps:=ps) (af:=af) (D:=D) hg hm ht hC
 rwa [Cn] at this
end
theorem dD {β:Type} {x:K} {y:β} {l:List (K×β)} (h:(x,y)∈l):(bR l x).length<l.length:=by
 unfold bR
 exact List.length_filter_lt_length_iff_exists.2 ⟨_,h,sm⟩
theorem ir {β:Type} {x:K} {p:K×β} {l:List (K×β)}:p∈bR l x↔p∈l∧p.1≠x:=by simp [bR]
/-- an iterator over a map: what is left; what came last -/
def tG (kV:K→Value) (r b:Nat) (m left:List (K×Value)) (cur:Option (K×Value)):aj where
 d_ k:=k=r∨k=b
 wf k:=k=r∨k=b
 holds w:=r≠b∧ ∃ (es:Array MapEntry) (c since:Nat) (seen:Array Nat) (st:Nat),w.heap[b]? =some (.map es c)∧gD kV es c m∧w.heap[r]? =some (.mapIter (some b) since seen st)∧(∀ e∈es.toList,e.born<since)∧since≤st∧since≤c∧
  (leftOf es seen).toList.map (fun (e:MapEntry)=>(e.key,e.val))=left.map (fun p=>(kV p.1,p.2))∧
  ∀ p,cur=some p→ ∃ (e:MapEntry) (seen0:Array Nat),e∈es.toList∧seen=seen0.push e.born∧st=c∧e.key=kV p.1∧e.val=p.2
 wr:=true
 jc _ h:=h
 whole _ _ h:=h
 lt w h k hk:=by
  obtain ⟨_,es,c,since,seen,st,h1,_,h2,_⟩:=h
  rcases hk with rfl|rfl
  ·exact dA h2
  ·exact dA h1
 mg w w' hk h:=by
  obtain ⟨hne,es,c,since,seen,st,h1,h2,h3,h4⟩:=h
  exact ⟨hne,es,c,since,seen,st,(hk b (.inr rfl)).trans h1,h2,(hk r (.inl rfl)).trans h3,h4⟩
theorem rJ {r b:Nat} {m left:List (K×Value)} {cur:Option (K×Value)}:(∀ w,(tG kV r b m left cur).holds w→(tG kV r b m left none).holds w)∧(∀ k,(tG kV r b m left none).d_ k→(tG kV r b m left cur).d_ k)∧ ∀ k,(tG kV r b m left none).wf k→(tG kV r b m left cur).wf k:=
 ⟨fun w h=>by
  obtain ⟨A,es,c,since,seen,st,B,C,D,E,F,h5',G,_⟩:=h
  exact ⟨A,es,c,since,seen,st,B,C,D,E,F,h5',G,fun p hp=>by cases hp⟩,fun _ h=>h,fun _ h=>h⟩
theorem D3 {r b:Nat} {m left:List (K×Value)} {cur:Option (K×Value)}:(∀ w,(tG kV r b m left cur).holds w→(fJ kV b m).holds w)∧(∀ k,(fJ kV b m).d_ k→(tG kV r b m left cur).d_ k)∧ ∀ k,(fJ kV b m).wf k→(tG kV r b m left cur).wf k:=
 ⟨fun w h=>by
  obtain ⟨C,es,c,since,seen,st,A,B,_⟩:=h
  exact ⟨es,c,A,B⟩,fun _ h=> .inr h,fun _ h=> .inr h⟩
theorem xL {es:Array MapEntry} {c:Nat} {m:List (K×Value)} (hinj: ∀ x y,kV x=kV y→x=y) (hi:gD kV es c m) {x y:MapEntry} (hx:x∈es.toList) (hy:y∈es.toList) (e:x.key=y.key):x=y:=by
 have hk:(es.toList.map (·.key))=(m.map (·.1)).map kV:=by
  have:=congrArg (List.map Prod.fst) hi.list
  simpa [Function.comp_def] using this
 have h:(es.toList.map (·.key)).Nodup:=by
  rw [hk,List.nodup_iff_pairwise_ne,List.pairwise_map]
  exact hi.keys.imp (fun B he=>B (hinj _ _ he))
 obtain ⟨i,A⟩:=List.getElem?_of_mem hx
 obtain ⟨j,hj⟩:=List.getElem?_of_mem hy
 have C:(es.toList.map (·.key))[i]? =some x.key:=by rw [eW,A]; rfl
 have D:(es.toList.map (·.key))[j]? =some x.key:=by rw [eW,hj,e]; rfl
 have E:=(List.getElem?_inj (List.getElem?_eq_some_iff.1 C).1 h).1 (C.trans D.symm)
 subst E
 exact Option.some.inj (A.symm.trans hj)
section
variable {E:dM} {ops:Array Oper} {Q:cd} {rest:List Oper} {D:List Deferred} {L:List (Nat×Value)} {C:List aj}
variable {dst:Option Tmp} {d:Nat} {ty:TypeId} {ps:String} {af:Array Edge} {g:Option (Nat×Bool)}
theorem ql {t kt et:TypeId} {xm:Operand} {b:Nat} {m:List (K×Value)} (i:Nat) (hg:gX ops L g=true) (hm:ev L xm=some (.map (some b))) (ht:E.P.underlying t=some (.map kt et)) (hC:C[i]? =some (fJ kV b m)) (hd:Nat.blt d E.n=true)
 (k: ∀ r,RJ E ops Q rest D ((d,.pointer (some ⟨r,0,none⟩))::L) (C.set i (tG kV r b m m none))):RJ E ops Q (⟨some d,.range t xm,ty,ps,af,g⟩::rest) D L C:=by
 intro a w A hs
 have hd':d<E.n:=by rw [← Nat.blt_eq]; exact hd
 unfold oj
 rw [if_pos (cV A hg)]
 obtain ⟨es,c,he,hi⟩:=hs.holds _ (aN hC)
 have F:b<w.heap.size:=dA he
 have B:(getObj b).run E.P w= .ok (.map es c) w:=MapKept.run_getObj_map he
 refine fc (v:= .pointer (some ⟨w.heap.size,0,none⟩)) (w':=w.alloc (.mapIter (some b) c #[] c)) sm ?_ ?_
 ·simp [execOp,Instr.range,A.ev hm,run_underlying ht,B,newObj,Sem.run]
 ·refine k _ _ _ (A.put hd' _) (hs.mv i hC ⟨⟨om,es,c,c,#[],c,?_,hi,heap_alloc_new w _,hi.E9,Nat.le_refl _,Nat.le_refl _,?_,fun p hp=>by cases hp⟩,cU.alloc _ w _,fun q hq=>?_,fun q hq=>?_⟩)
  ·rw [Below.heap_alloc w _ b F]; exact he
  ·have:leftOf es #[]=es:=by unfold leftOf; exact Array.filter_eq_self.2 sm
   rw [this]; exact hi.list
  ·rcases hq with rfl|rfl
   ·exact .inr (Nat.le_refl _)
   ·exact .inl U
  ·rcases hq with rfl|rfl
   ·exact .inr (Nat.le_refl _)
   ·exact .inl U
theorem su {es:Array MapEntry} {c:Nat} {m left:List (K×Value)} {seen:Array Nat} (hinj: ∀ x y,kV x=kV y→x=y) (hi:gD kV es c m) (h:(leftOf es seen).toList.map (fun (e:MapEntry)=>(e.key,e.val))=left.map (fun p=>(kV p.1,p.2))):(left.map (·.1)).Nodup:=by
 have B:((leftOf es seen).toList.map (·.key)).Sublist (es.toList.map (·.key)):=by
  unfold leftOf; rw [Array.toList_filter]; exact List.filter_sublist.map _
 have D:(es.toList.map (·.key))=(m.map (·.1)).map kV:=by
  have:=congrArg (List.map Prod.fst) hi.list
  simpa [Function.comp_def] using this
 have E:((leftOf es seen).toList.map (·.key))=(left.map (·.1)).map kV:=by
  have:=congrArg (List.map Prod.fst) h
  simpa [Function.comp_def] using this
 rw [D,E] at B
 have F:((m.map (·.1)).map kV).Nodup:=by
  rw [List.nodup_iff_pairwise_ne,List.pairwise_map]
  exact hi.keys.imp (fun A he=>A (hinj _ _ he))
 have C:=F.sublist B
 rw [List.nodup_iff_pairwise_ne,List.pairwise_map] at C
 rw [List.nodup_iff_pairwise_ne]
 exact C.imp (fun A he=>A (by rw [he]))
theorem DP (hinj: ∀ x y,kV x=kV y→x=y) {xi:Operand} {r b:Nat} {m left:List (K×Value)} {cur:Option (K×Value)} (i:Nat) (hg:gX ops L g=true) (hm:ev L xi=some (.pointer (some ⟨r,0,none⟩))) (hC:C[i]? =some (tG kV r b m left cur)) (hd:Nat.blt d E.n=true)
 (k0:left=[]→RJ E ops Q rest D ((d,.tuple [.bool false].toArray)::L) C)
 (k1: ∀ x v,(x,v)∈left→(left.map (·.1)).Nodup→RJ E ops Q rest D ((d,.tuple [.bool true,kV x,v].toArray)::L) (C.set i (tG kV r b m (bR left x) (some (x,v))))):
 RJ E ops Q (⟨some d,.next xi false,ty,ps,af,g⟩::rest) D L C:=by
 intro a w G hs
 have hd':d<E.n:=by rw [← Nat.blt_eq]; exact hd
 unfold oj
 rw [if_pos (cV G hg)]
 obtain ⟨R,es,c,since,seen,st,X,hi,Y,J,V,M,A,_⟩:=hs.holds _ (aN hC)
 rcases run_next_at (P:=E.P) w ty r b since st seen es c Y X J V with ⟨Z,hr⟩|⟨e,he,N,H,hr⟩
 ·refine fc (v:= .tuple #[.bool false]) (w':=w) sm ?_ ?_
  ·simp [execOp,G.ev hm,hr]
  ·refine k0 ?_ _ _ (G.put hd' _) hs
   have:(leftOf es seen).toList=[]:=by rw [← List.length_eq_zero_iff,Array.length_toList]; exact Z
   rw [this] at A
   exact List.map_eq_nil_iff.1 A.symm
 ·have O:(e.key,e.val)∈left.map (fun p=>(kV p.1,p.2)):=by rw [← A]; exact List.mem_map.2 ⟨e,he,rfl⟩
  obtain ⟨p,hp,S⟩:=List.mem_map.1 O
  obtain ⟨x,v⟩:=p
  simp only [Prod.mk.injEq] at S
  obtain ⟨hk,hv⟩:=S
  refine fc (v:= .tuple #[.bool true,e.key,e.val]) (w':=ChangeMaps.setBlock N r (.mapIter (some b) since (seen.push e.born) c)) sm ?_ ?_
  ·simp [execOp,G.ev hm,hr]
  ·rw [← hk,← hv]
   have AA:=su hinj hi A
   have F:e∈es.toList:=by unfold leftOf at he; rw [Array.toList_filter] at he; exact (List.mem_filter.1 he).1
   have f:c=c:=rfl
   have B:N.heap=w.heap:=by rcases H with rfl|rfl<;>rfl
   refine k1 x v hp AA _ _ (G.put hd' _) (hs.mv i hC ⟨⟨R,es,c,since,seen.push e.born,c,?_,hi,?_,J,M,M,?_,fun q hq=>?_⟩,?_,fun q hq=> .inl hq,fun q hq=> .inl hq⟩)
   ·show (N.heap.setIfInBounds r _)[b]? =_
    rw [Array.getElem?_setIfInBounds_ne R,B]; exact X
   ·show (N.heap.setIfInBounds r _)[r]? =_
    rw [Array.getElem?_setIfInBounds_self_of_lt (by rw [B]; exact dA Y)]
   ·have T:leftOf es (seen.push e.born)=(leftOf es seen).filter (fun z=> !(z.born==e.born)):=by
     unfold leftOf
     rw [Array.filter_filter]
     congr 1
     funext z
     simp only [Array.contains_push,Bool.not_or]
     rw [Bool.and_comm]
    rw [T,Array.toList_filter]
    have key: ∀ (l:List MapEntry) (ll:List (K×Value)),(∀ z∈l,z∈es.toList)→l.map (fun (e:MapEntry)=>(e.key,e.val))=ll.map (fun p=>(kV p.1,p.2))→
     (l.filter (fun z=> !(z.born==e.born))).map (fun (e:MapEntry)=>(e.key,e.val))=(bR ll x).map (fun p=>(kV p.1,p.2)):=by
     intro l
     induction l with
     |nil=>intro ll _ h; cases ll with
      |nil=>rfl
      |cons p ll=>simp at h
     |cons z l ih=>
      intro ll hz h
      cases ll with
      |nil=>simp at h
      |cons p ll=>
       simp only [List.map_cons,List.cons.injEq,Prod.mk.injEq] at h
       have ih':=ih ll (fun y hy=>hz y (by simp [hy])) h.2
       have AB:(z.born=e.born)↔(p.1=x):=by
        constructor
        ·intro hb
         have:z=e:=xZ hi.born (hz z sm) F hb
         rw [this] at h
         have:=h.1.1.symm.trans hk.symm
         exact hinj _ _ this
        ·intro hx
         have W:z.key=e.key:=by rw [h.1.1,hx,hk]
         rw [xL hinj hi (hz z sm) F W]
       unfold bR at ih' ⊢
       by_cases hx:p.1=x
       ·rw [List.filter_cons_of_neg (by simp [AB.2 hx]),List.filter_cons_of_neg (by simp [hx])]; exact ih'
       ·rw [List.filter_cons_of_pos (by simpa using fun hb=>hx (AB.1 hb)),List.filter_cons_of_pos (by simpa using hx)]
        simp only [List.map_cons,h.1.1,h.1.2,ih']
    exact key _ _ (fun z hz=>by unfold leftOf at hz; rw [Array.toList_filter] at hz; exact (List.mem_filter.1 hz).1) A
   ·cases hq
    exact ⟨e,seen,F,U,U,hk.symm,hv.symm⟩
   ·refine ⟨?_,?_,?_,?_,fun q hq hn=>?_⟩
    ·rcases H with rfl|rfl<;>rfl
    ·rcases H with rfl|rfl<;>rfl
    ·rcases H with rfl|rfl<;>rfl
    ·show w.heap.size≤(N.heap.setIfInBounds r _).size
     simp [B]
    ·show (N.heap.setIfInBounds r _)[q]? =_
     rw [Array.getElem?_setIfInBounds_ne (fun e=>hn (.inl e.symm)),B]
theorem o2 {xi:Operand} {r b:Nat} {m left:List (K×Value)} {x:K} {v:Value} (i:Nat) (hg:gX ops L g=true) (hm:ev L xi=some (.pointer (some ⟨r,0,none⟩))) (hC:C[i]? =some (tG kV r b m left (some (x,v)))):
 SD E ops ⟨dst,.entry xi,ty,ps,af,g⟩ D L C (.tuple [kV x,v].toArray):=
 cM hg sm fun a w F hs=>by
  obtain ⟨N,es,c,since,seen,st,J,hi,M,H,O,AA,G,B⟩:=hs.holds _ (aN hC)
  obtain ⟨e,A,he,rfl,rfl,hk,hv⟩:=B _ rfl
  have:=run_entry_at (P:=E.P) w r b since A es st e M J he hi.born
  simp [execOp,F.ev hm,this,hk,hv]
theorem oY (hinj: ∀ x y,kV x=kV y→x=y) {β:Type} {f:β→Value} {xi:Operand} {r b:Nat} {m:List (K×Value)} {ll:List (K×β)} {cur:Option (K×Value)} (i:Nat) (hg:gX ops L g=true) (hm:ev L xi=some (.pointer (some ⟨r,0,none⟩))) (hC:C[i]? =some (tG kV r b m (bo f ll) cur)) (hd:Nat.blt d E.n=true)
 (k0:ll=[]→RJ E ops Q rest D ((d,.tuple [.bool false].toArray)::L) C)
 (k1: ∀ x y,(x,y)∈ll→(ll.map (·.1)).Nodup→RJ E ops Q rest D ((d,.tuple [.bool true,kV x,f y].toArray)::L) (C.set i (tG kV r b m (bo f (bR ll x)) (some (x,f y))))):
 RJ E ops Q (⟨some d,.next xi false,ty,ps,af,g⟩::rest) D L C:=by
 refine DP hinj i hg hm hC hd (fun h=>k0 (List.map_eq_nil_iff.1 h)) (fun x v B hn=>?_)
 obtain ⟨p,hp,A⟩:=List.mem_map.1 B
 simp only [Prod.mk.injEq] at A
 obtain ⟨rfl,rfl⟩:=A
 have:=k1 p.1 p.2 hp (by simpa [bo,Function.comp_def] using hn)
 rwa [jI] at this
end
end
end
section
structure bp where
 Start:Int
 gk:Int
 mN:List Int
 qJ:List (List (Int×ab))
 dx:Int
 er:Int
 Kd:Int
def bp.n (w:bp):Nat:=w.mN.length
def eA (s:Int):aw:=if s<0 then ⟨0,1⟩ else ⟨1,0⟩
def dm (a b:aw):aw:=⟨a.right+b.right,a.eP+b.eP⟩
def pq (w:bp) (b:Nat):List (Int×ab):=(w.qJ[b]?).getD []
def gh (w:bp) (b:Nat):List (Int×ab):=(-1,⟨w.Start,w.gk⟩)::pq w b
def bP (w:bp) (b:Nat):Int:=(w.mN[b]?).getD 0
def iO (w:bp) (b:Nat) (p:aw×Int) (o:Int×ab):Option (aw×Int):=if max (p.2+bP w b) o.2.Lo≤min o.2.Hi w.gk then some (dm p.1 (eA o.1),max (p.2+bP w b) o.2.Lo) else none
def fwd (w:bp):Nat→List (aw×Int)
 |0=>[(⟨0,0⟩,w.Start)]
 |b+1=>(fwd w b).flatMap fun p=>(gh w b).filterMap (iO w b p)
def lh (w:bp) (b:Nat) (p:aw×Int) (o:Int×ab):Option (aw×Int):=if o.2.Lo≤min p.2 o.2.Hi then some (dm p.1 (eA o.1),min p.2 o.2.Hi-bP w b) else none
def bwd (w:bp):Nat→List (aw×Int)
 |0=>[(⟨0,0⟩,w.gk)]
 |k+1=>(⟨0,0⟩,w.gk)::(bwd w k).flatMap fun p=>(gh w (w.n-(k+1))).filterMap (lh w (w.n-(k+1)) p)
def back (w:bp) (b:Nat):List (aw×Int):=bwd w (w.n-b)
def lg (w:bp) (t:aw):Bool:=decide (t.eP≤w.dx∧w.Kd-t.right≤w.er)
theorem ep {w:bp} {b:Nat} {q:aw×Int}:q∈fwd w (b+1)↔ ∃ p∈fwd w b,∃ o∈gh w b,iO w b p o=some q:=by
 simp only [fwd,List.mem_flatMap,List.mem_filterMap]
theorem qB {w:bp} {b:Nat} (h:w.n≤b):back w b=[(⟨0,0⟩,w.gk)]:=by
 unfold back; rw [Nat.sub_eq_zero_of_le h]; rfl
theorem lX {w:bp} {b:Nat} (h:b<w.n) {q:aw×Int}:q∈back w b↔q=(⟨0,0⟩,w.gk)∨ ∃ p∈back w (b+1),∃ o∈gh w b,lh w b p o=some q:=by
 unfold back
 have e:w.n-b=(w.n-(b+1))+1:=by omega
 rw [e]
 simp only [bwd,cO,List.mem_flatMap,List.mem_filterMap]
 rw [show w.n-(w.n-(b+1)+1)=b by omega]
def pc (m c:List (aw×Int)):Prop:=(∀ t v,m.lookup t=some v→(t,v)∈c)∧ ∀ t y,(t,y)∈c→ ∃ v,m.lookup t=some v∧v≤y
def qR (m c:List (aw×Int)):Prop:=(∀ t v,m.lookup t=some v→(t,v)∈c)∧ ∀ t y,(t,y)∈c→ ∃ v,m.lookup t=some v∧y≤v
def qN (m c:List (aw×Int)):Prop:= ∀ t v,m.lookup t=some v→(t,v)∈c
theorem kb {K β:Type} [DecidableEq K] {m:List (K×β)} {x t:K} {y:β}:(dB m x y).lookup t=if t=x then some y else m.lookup t:=by
 unfold dB
 by_cases hx:(m.lookup x).isSome
 ·rw [if_pos hx]
  have key: ∀ l:List (K×β),(l.lookup x).isSome∨True→(l.map (fun p=>if p.1=x then (x,y) else p)).lookup t=if t=x then (if (l.lookup x).isSome then some y else none) else l.lookup t:=by
   intro l _
   induction l with
   |nil=>simp
   |cons p l ih=>
    obtain ⟨k,v⟩:=p
    have ih:=ih (.inr trivial)
    by_cases hk:k=x
    ·subst hk
     by_cases ht:t=k
     ·subst ht; simp [List.lookup]
     ·have:(t==k)=false:=by simpa using ht
      simp only [List.map_cons,if_true,List.lookup,this,ih,if_neg ht]
    ·have hk':(x==k)=false:=by simpa using fun e=>hk e.symm
     by_cases ht:t=k
     ·subst ht; simp [List.lookup,hk]
     ·have A:(t==k)=false:=by simpa using ht
      simp only [List.map_cons,if_neg hk,List.lookup,A,ih,hk']
  rw [key m (.inr trivial)]
  by_cases ht:t=x
  ·subst ht
   rw [if_pos rfl,if_pos rfl,if_pos hx]
  ·rw [if_neg ht,if_neg ht]
 ·rw [if_neg hx]
  have hn:m.lookup x=none:=by cases h0:m.lookup x with
   |none=>rfl
   |some v=>exact absurd (by rw [h0]; rfl) hx
  by_cases ht:t=x
  ·subst ht
   rw [if_pos rfl]
   have:=gS.1 hn
   clear hn hx
   induction m with
   |nil=>simp
   |cons p m ih=>
    obtain ⟨k,v⟩:=p
    have hk:(t==k)=false:=by simpa using fun e=>this (k,v) sm e.symm
    simp only [List.cons_append,List.lookup,hk]
    exact ih (fun q hq=>this q (cL _ hq))
  ·rw [if_neg ht]
   clear hn hx
   induction m with
   |nil=>
    have:(t==x)=false:=by simpa using ht
    simp [List.lookup,this]
   |cons p m ih=>
    obtain ⟨k,v⟩:=p
    by_cases hk:t=k
    ·subst hk; simp [List.lookup]
    ·have:(t==k)=false:=by simpa using hk
     simp only [List.cons_append,List.lookup,this]
     exact ih
/-- what a map is after a try -/
def mo (m:List (aw×Int)) (q:aw×Int):List (aw×Int):=match m.lookup q.1 with
 |none=>dB m q.1 q.2
 |some v=>if q.2<v then dB m q.1 q.2 else m
def lT (m:List (aw×Int)) (q:aw×Int):List (aw×Int):=match m.lookup q.1 with
 |none=>dB m q.1 q.2
 |some v=>if v<q.2 then dB m q.1 q.2 else m
theorem rU {m:List (aw×Int)} {q:aw×Int} {t:aw}:(mo m q).lookup t=if t=q.1 then some (match m.lookup q.1 with |none=>q.2|some v=>min q.2 v) else m.lookup t:=by
 unfold mo
 cases h:m.lookup q.1 with
 |none=>simp only; rw [kb]
 |some v=>
  simp only
  split
  ·rename_i A
   rw [kb,Int.min_eq_left om]
  ·rename_i A
   split
   ·rename_i e; subst e; rw [h,Int.min_eq_right om]
   ·rfl
theorem rQ {m:List (aw×Int)} {q:aw×Int} {t:aw}:(lT m q).lookup t=if t=q.1 then some (match m.lookup q.1 with |none=>q.2|some v=>max q.2 v) else m.lookup t:=by
 unfold lT
 cases h:m.lookup q.1 with
 |none=>simp only; rw [kb]
 |some v=>
  simp only
  split
  ·rename_i A
   rw [kb,Int.max_eq_left om]
  ·rename_i A
   split
   ·rename_i e; subst e; rw [h,Int.max_eq_right om]
   ·rfl
def sy (m m':List (aw×Int)):Prop:= ∀ t v,m.lookup t=some v→ ∃ v',m'.lookup t=some v'∧v'≤v
def rY (m m':List (aw×Int)):Prop:= ∀ t v,m.lookup t=some v→ ∃ v',m'.lookup t=some v'∧v≤v'
theorem sy.refl (m:List (aw×Int)):sy m m:=fun t v h=>⟨v,h,om⟩
theorem rY.refl (m:List (aw×Int)):rY m m:=fun t v h=>⟨v,h,om⟩
theorem qH {m:List (aw×Int)} {q:aw×Int}:sy m (mo m q):=fun t v h=>by
 rw [rU]
 split
 ·rename_i e; subst e; rw [h]; exact ⟨_,rfl,by simp only; omega⟩
 ·exact ⟨v,h,om⟩
theorem nC {m:List (aw×Int)} {q:aw×Int}:rY m (lT m q):=fun t v h=>by
 rw [rQ]
 split
 ·rename_i e; subst e; rw [h]; exact ⟨_,rfl,by simp only; omega⟩
 ·exact ⟨v,h,om⟩
theorem Be {m c:List (aw×Int)} {q:aw×Int} (h:qN m c) (hq:q∈c):qN (mo m q) c:=fun t v hv=>by
 rw [rU] at hv
 split at hv
 ·rename_i e
  subst e
  cases hm:m.lookup q.1 with
  |none=>simp only [hm,Option.some.injEq] at hv; subst hv; exact hq
  |some x=>
   simp only [hm,Option.some.injEq] at hv; subst hv
   rcases Int.lt_or_le q.2 x with A|A
   ·rw [Int.min_eq_left om]; exact hq
   ·rw [Int.min_eq_right om]; exact h _ _ hm
 ·exact h t v hv
theorem Bz {m c:List (aw×Int)} {q:aw×Int} (h:qN m c) (hq:q∈c):qN (lT m q) c:=fun t v hv=>by
 rw [rQ] at hv
 split at hv
 ·rename_i e
  subst e
  cases hm:m.lookup q.1 with
  |none=>simp only [hm,Option.some.injEq] at hv; subst hv; exact hq
  |some x=>
   simp only [hm,Option.some.injEq] at hv; subst hv
   rcases Int.lt_or_le q.2 x with A|A
   ·rw [Int.max_eq_right om]; exact h _ _ hm
   ·rw [Int.max_eq_left om]; exact hq
 ·exact h t v hv
theorem Bu {m:List (aw×Int)} {q:aw×Int}: ∃ v,(mo m q).lookup q.1=some v∧v≤q.2:=by
 rw [rU,if_pos rfl]
 refine ⟨_,U,?_⟩
 cases m.lookup q.1<;>simp only <;>omega
theorem Bs {m:List (aw×Int)} {q:aw×Int}: ∃ v,(lT m q).lookup q.1=some v∧q.2≤v:=by
 rw [rQ,if_pos rfl]
 refine ⟨_,U,?_⟩
 cases m.lookup q.1<;>simp only <;>omega
/-- all that comes of one entry, by some options, is held -/
def gH (w:bp) (b:Nat) (m:List (aw×Int)) (p:aw×Int) (os:List (Int×ab)):Prop:= ∀ o∈os,∀ q,iO w b p o=some q→ ∃ v,m.lookup q.1=some v∧v≤q.2
def gu (w:bp) (b:Nat) (m:List (aw×Int)) (p:aw×Int) (os:List (Int×ab)):Prop:= ∀ o∈os,∀ q,lh w b p o=some q→ ∃ v,m.lookup q.1=some v∧q.2≤v
theorem gH.lower {w:bp} {b:Nat} {m m':List (aw×Int)} {p:aw×Int} {os:List (Int×ab)} (h:gH w b m p os) (hl:sy m m'):gH w b m' p os:=fun o ho q hq=>by
 obtain ⟨v,A,C⟩:=h o ho q hq
 obtain ⟨v',B,D⟩:=hl _ _ A
 exact ⟨v',B,om⟩
theorem gu.upper {w:bp} {b:Nat} {m m':List (aw×Int)} {p:aw×Int} {os:List (Int×ab)} (h:gu w b m p os) (hl:rY m m'):gu w b m' p os:=fun o ho q hq=>by
 obtain ⟨v,A,C⟩:=h o ho q hq
 obtain ⟨v',B,D⟩:=hl _ _ A
 exact ⟨v',B,om⟩
theorem gH.sub {w:bp} {b:Nat} {m:List (aw×Int)} {p:aw×Int} {os os':List (Int×ab)} (h:gH w b m p os) (hs: ∀ o∈os',o∈os):gH w b m p os':=fun o ho=>h o (hs o ho)
theorem gu.sub {w:bp} {b:Nat} {m:List (aw×Int)} {p:aw×Int} {os os':List (Int×ab)} (h:gu w b m p os) (hs: ∀ o∈os',o∈os):gu w b m p os':=fun o ho=>h o (hs o ho)
theorem gH.add {w:bp} {b:Nat} {m m':List (aw×Int)} {p:aw×Int} {os:List (Int×ab)} {o:Int×ab} (h:gH w b m p os) (hl:sy m m') (hn: ∀ q,iO w b p o=some q→ ∃ v,m'.lookup q.1=some v∧v≤q.2):gH w b m' p (os++[o]):=fun o' ho q hq=>by
 rcases List.mem_append.1 ho with ho|ho
 ·exact h.lower hl o' ho q hq
 ·simp only [bD] at ho; subst ho; exact hn q hq
theorem gu.add {w:bp} {b:Nat} {m m':List (aw×Int)} {p:aw×Int} {os:List (Int×ab)} {o:Int×ab} (h:gu w b m p os) (hl:rY m m') (hn: ∀ q,lh w b p o=some q→ ∃ v,m'.lookup q.1=some v∧q.2≤v):gu w b m' p (os++[o]):=fun o' ho q hq=>by
 rcases List.mem_append.1 ho with ho|ho
 ·exact h.upper hl o' ho q hq
 ·simp only [bD] at ho; subst ho; exact hn q hq
theorem dU {m:List (aw×Int)} (hn:(m.map (·.1)).Nodup) {t:aw} {v:Int}:(t,v)∈m↔m.lookup t=some v:=ia hn
theorem mi {z t:aw} {x v:Int}:List.lookup t [(z,x)]=some v↔t=z∧v=x:=by
 by_cases e:t=z
 ·subst e; simp [List.lookup,eq_comm]
 ·have:(t==z)=false:=by simpa using e
  simp [List.lookup,this,e]
theorem Br {w:bp}:pc [(⟨0,0⟩,w.Start)] (fwd w 0):=by
 refine ⟨fun t v h=>?_,fun t y h=>?_⟩
 ·obtain ⟨rfl,rfl⟩:=mi.1 h
  simp [fwd]
 ·simp only [fwd,bD,Prod.mk.injEq] at h
  obtain ⟨rfl,rfl⟩:=h
  exact ⟨w.Start,mi.2 ⟨U,U⟩,Int.le_refl _⟩
theorem Em {w:bp} {b:Nat} {mb m:List (aw×Int)} (hn:(mb.map (·.1)).Nodup) (h:pc mb (fwd w b)) (hs:qN m (fwd w (b+1))) (hd: ∀ p∈mb,gH w b m p (gh w b)):pc m (fwd w (b+1)):=⟨hs,fun t y hy=>by
 obtain ⟨p,hp,o,ho,e⟩:=ep.1 hy
 obtain ⟨v,B,E⟩:=h.2 p.1 p.2 hp
 unfold iO at e
 split at e
 ·rename_i D
  simp only [Option.some.injEq,Prod.mk.injEq] at e
  obtain ⟨v',A,C⟩:=hd (p.1,v) ((dU hn).2 B) o ho (dm p.1 (eA o.1),max (v+bP w b) o.2.Lo) (by unfold iO; rw [if_pos (by simp only; omega)])
  simp only at A C
  rw [e.1] at A
  exact ⟨v',A,om⟩
 ·cases e⟩
theorem FQ {w:bp} {b:Nat} (hb:w.n≤b):qR [(⟨0,0⟩,w.gk)] (back w b):=by
 rw [qB hb]
 refine ⟨fun t v h=>?_,fun t y h=>?_⟩
 ·obtain ⟨rfl,rfl⟩:=mi.1 h
  simp
 ·simp only [bD,Prod.mk.injEq] at h
  obtain ⟨rfl,rfl⟩:=h
  exact ⟨w.gk,mi.2 ⟨U,U⟩,Int.le_refl _⟩
theorem Ff {w:bp} {b:Nat} (hb:b<w.n) {mb m:List (aw×Int)} (hn:(mb.map (·.1)).Nodup) (h:qR mb (back w (b+1))) (hs:qN m (back w b)) (h0: ∃ v,m.lookup ⟨0,0⟩=some v∧w.gk≤v) (hd: ∀ p∈mb,gu w b m p (gh w b)):qR m (back w b):=⟨hs,fun t y hy=>by
 rcases (lX hb).1 hy with e|⟨p,hp,o,ho,e⟩
 ·simp only [Prod.mk.injEq] at e
  obtain ⟨rfl,rfl⟩:=e
  exact h0
 obtain ⟨v,B,E⟩:=h.2 p.1 p.2 hp
 unfold lh at e
 split at e
 ·rename_i D
  simp only [Option.some.injEq,Prod.mk.injEq] at e
  obtain ⟨v',A,C⟩:=hd (p.1,v) ((dU hn).2 B) o ho (dm p.1 (eA o.1),min v o.2.Hi-bP w b) (by unfold lh; rw [if_pos (by simp only; omega)])
  simp only at A C
  rw [e.1] at A
  exact ⟨v',A,om⟩
 ·cases e⟩
end
section
def gW (w:bp) (b:Nat) (p u:aw×Int) (o:Int×ab):ab:=⟨max (p.2+bP w b) o.2.Lo,min u.2 o.2.Hi⟩
def s3 (p u:aw×Int) (o:Int×ab):aw:=dm (dm p.1 u.1) (eA o.1)
def jY (w:bp) (b:Nat) (p u:aw×Int) (o:Int×ab):Option (Int×ab):=if (gW w b p u o).Lo≤(gW w b p u o).Hi∧lg w (s3 p u o)=true then some (o.1,gW w b p u o) else none
def mS (w:bp) (b:Nat) (mf mb:List (aw×Int)):List (Int×ab):=(gh w b).flatMap fun o=>mf.flatMap fun p=>mb.filterMap fun u=>jY w b p u o
def kx (w:bp) (b:Nat):List (Int×ab):=mS w b (fwd w b) (back w (b+1))
theorem fB {w:bp} {b:Nat} {mf mb:List (aw×Int)} {q:Int×ab}:q∈mS w b mf mb↔ ∃ o∈gh w b,∃ p∈mf,∃ u∈mb,jY w b p u o=some q:=by
 simp only [mS,List.mem_flatMap,List.mem_filterMap]
theorem gM {w:bp} {b:Nat} {p u:aw×Int} {o q:Int×ab}:jY w b p u o=some q↔(gW w b p u o).Lo≤(gW w b p u o).Hi∧lg w (s3 p u o)=true∧q=(o.1,gW w b p u o):=by
 unfold jY
 split
 ·rename_i h
  simp only [Option.some.injEq]
  exact ⟨fun e=>⟨h.1,h.2,e.symm⟩,fun e=>e.2.2.symm⟩
 ·rename_i h
  simp only [reduceCtorEq,false_iff]
  exact fun e=>h ⟨e.1,e.2.1⟩
theorem mD {w:bp} {b:Nat} {mf mb:List (aw×Int)} {q:Int×ab} (h:q∈mS w b mf mb):q.2.Lo≤q.2.Hi:=by
 obtain ⟨o,_,p,_,u,_,e⟩:=fB.1 h
 obtain ⟨A,_,rfl⟩:=gM.1 e
 exact A
/-- what the maps tell is what all ways tell -/
theorem H9 {w:bp} {b:Nat} {mf mb:List (aw×Int)} (hf:pc mf (fwd w b)) (hb:qR mb (back w (b+1))) (nf:(mf.map (·.1)).Nodup) (nb:(mb.map (·.1)).Nodup) {q:Int×ab} (h:q∈mS w b mf mb):q∈kx w b:=by
 obtain ⟨o,ho,p,hp,u,hu,e⟩:=fB.1 h
 exact fB.2 ⟨o,ho,p,hf.1 _ _ ((dU nf).1 hp),u,hb.1 _ _ ((dU nb).1 hu),e⟩
theorem En {w:bp} {b:Nat} {mf mb:List (aw×Int)} (hf:pc mf (fwd w b)) (hb:qR mb (back w (b+1))) (nf:(mf.map (·.1)).Nodup) (nb:(mb.map (·.1)).Nodup) {q:Int×ab} (h:q∈kx w b): ∃ q'∈mS w b mf mb,q'.1=q.1∧q'.2.Lo≤q.2.Lo∧q.2.Hi≤q'.2.Hi:=by
 obtain ⟨o,ho,p,hp,u,hu,e⟩:=fB.1 h
 obtain ⟨A,B,rfl⟩:=gM.1 e
 obtain ⟨v,hv,C⟩:=hf.2 p.1 p.2 hp
 obtain ⟨y,hy,D⟩:=hb.2 u.1 u.2 hu
 simp only [gW] at A
 refine ⟨(o.1,gW w b (p.1,v) (u.1,y) o),fB.2 ⟨o,ho,(p.1,v),(dU nf).2 hv,(u.1,y),(dU nb).2 hy,gM.2 ⟨?_,B,U⟩⟩,U,?_,?_⟩
 ·simp only [gW]; omega
 ·simp only [gW]; omega
 ·simp only [gW]; omega
def lI:ab:=⟨1,0⟩
def kI (h x:ab):ab:=if h=lI then x else ⟨min x.Lo h.Lo,max x.Hi h.Hi⟩
def Ak (l:List (Int×ab)):ab:=l.foldl (fun h q=>kI h q.2) lI
structure sO (l:List (Int×ab)) (h:ab):Prop where
 le:h.Lo≤h.Hi
 lo: ∃ x∈l,x.2.Lo=h.Lo
 hi: ∃ x∈l,x.2.Hi=h.Hi
 all: ∀ x∈l,h.Lo≤x.2.Lo∧x.2.Hi≤h.Hi
def j1 (l:List (Int×ab)) (h:ab):Prop:=(l=[]∧h=lI)∨sO l h
theorem sO.ne {l:List (Int×ab)} {h:ab} (hh:sO l h):h≠lI:=fun e=>by
 have:=hh.le; rw [e] at this; simp [lI] at this
theorem wH:j1 [] lI:= .inl ⟨rfl,rfl⟩
theorem uE {l:List (Int×ab)} {h:ab} {q:Int×ab} (hh:j1 l h) (hq:q.2.Lo≤q.2.Hi):j1 (l++[q]) (kI h q.2):=by
 right
 rcases hh with ⟨rfl,rfl⟩|hh
 ·unfold kI
  rw [if_pos rfl]
  exact ⟨hq,⟨q,sm,rfl⟩,⟨q,sm,rfl⟩,fun x hx=>by simp at hx; subst hx; exact ⟨Int.le_refl _,Int.le_refl _⟩⟩
 ·unfold kI
  rw [if_neg hh.ne]
  have A:=hh.le
  obtain ⟨a,ha,ea⟩:=hh.lo
  obtain ⟨c,hc,ec⟩:=hh.hi
  refine ⟨by simp only; omega,?_,?_,fun x hx=>?_⟩
  ·rcases Int.lt_or_le q.2.Lo h.Lo with p|p
   ·exact ⟨q,sm,by simp only; omega⟩
   ·exact ⟨a,by simp [ha],by simp only; omega⟩
  ·rcases Int.lt_or_le h.Hi q.2.Hi with p|p
   ·exact ⟨q,sm,by simp only; omega⟩
   ·exact ⟨c,by simp [hc],by simp only; omega⟩
  ·rcases List.mem_append.1 hx with hx|hx
   ·have:=hh.all x hx; simp only; omega
   ·simp at hx; subst hx; simp only; omega
theorem yq {l:List (Int×ab)} (hl: ∀ q∈l,q.2.Lo≤q.2.Hi):j1 l (Ak l):=by
 have key: ∀ (r d:List (Int×ab)) (h:ab),(∀ q∈r,q.2.Lo≤q.2.Hi)→j1 d h→j1 (d++r) (r.foldl (fun h q=>kI h q.2) h):=by
  intro r
  induction r with
  |nil=>intro d h _ hd; simpa using hd
  |cons q r ih=>
   intro d h hr hd
   have:=ih (d++[q]) (kI h q.2) (fun x hx=>hr x (cL _ hx)) (uE hd (hr q sm))
   simpa using this
 have:=key l [] lI hl wH
 rw [List.nil_append] at this
 exact this
def yi (a b:List (Int×ab)):Prop:= ∀ x∈b,∃ y∈a,y.2.Lo≤x.2.Lo∧x.2.Hi≤y.2.Hi
theorem GC {a b:List (Int×ab)} {h k:ab} (ha:j1 a h) (hb:j1 b k) (hab:yi a b) (hba:yi b a):h=k:=by
 rcases ha with ⟨rfl,rfl⟩|ha
 ·rcases hb with ⟨rfl,rfl⟩|hb
  ·rfl
  ·obtain ⟨x,hx,_⟩:=hb.lo
   obtain ⟨y,hy,_⟩:=hab x hx
   cases hy
 ·rcases hb with ⟨rfl,rfl⟩|hb
  ·obtain ⟨x,hx,_⟩:=ha.lo
   obtain ⟨y,hy,_⟩:=hba x hx
   cases hy
  ·have le: ∀ {a b:List (Int×ab)} {h k:ab},sO a h→sO b k→yi a b→h.Lo≤k.Lo∧k.Hi≤h.Hi:=fun {a b h k} ha hb hab=>by
    obtain ⟨x,hx,ex⟩:=hb.lo
    obtain ⟨z,hz,ez⟩:=hb.hi
    obtain ⟨y,hy,ey⟩:=hab x hx
    obtain ⟨y',hy',ey'⟩:=hab z hz
    have A:=ha.all y hy
    have B:=ha.all y' hy'
    omega
   have A:=le ha hb hab
   have B:=le hb ha hba
   rw [ab.ext_iff]; omega
theorem uv {w:bp} {b:Nat} {mf mb:List (aw×Int)} {l:List (Int×ab)} {h:ab} (hf:pc mf (fwd w b)) (hb:qR mb (back w (b+1))) (nf:(mf.map (·.1)).Nodup) (nb:(mb.map (·.1)).Nodup)
 (hl: ∀ q∈l,q∈mS w b mf mb) (hl2: ∀ q∈mS w b mf mb,q∈l) (hh:j1 l h):h=Ak (kx w b):=
 GC hh (yq fun q hq=>mD hq) (fun x hx=>by
  obtain ⟨q,hq,_,A,B⟩:=En hf hb nf nb hx
  exact ⟨q,hl2 q hq,A,B⟩) (fun x hx=>⟨x,H9 hf hb nf nb (hl x hx),Int.le_refl _,Int.le_refl _⟩)
def iA (w:bp) (m:List (aw×Int)):Bool:=m.any fun p=>lg w p.1
theorem xM {w:bp} {b:Nat} {m:List (aw×Int)} (h:pc m (fwd w b)) (nf:(m.map (·.1)).Nodup):iA w m=iA w (fwd w b):=by
 unfold iA
 rw [Bool.eq_iff_iff,List.any_eq_true,List.any_eq_true]
 constructor
 ·rintro ⟨p,hp,A⟩
  exact ⟨p,h.1 _ _ ((dU nf).1 hp),A⟩
 ·rintro ⟨p,hp,A⟩
  obtain ⟨v,hv,_⟩:=h.2 p.1 p.2 hp
  exact ⟨(p.1,v),(dU nf).2 hv,A⟩
def iz (w:bp) (k:Nat):List Int:=((List.range k).filter fun i=>iA w (fwd w i)).map fun (i:Nat)=>(i:Int)
def iv (w:bp):List Int:=iz w (w.n+1)
theorem yT {w:bp} {k:Nat} (h:iA w (fwd w k)=true):iz w (k+1)=iz w k++[(k:Int)]:=by simp [iz,List.range_succ,h]
theorem BJ {w:bp} {k:Nat} (h:iA w (fwd w k)=false):iz w (k+1)=iz w k:=by simp [iz,List.range_succ,h]
theorem s6 {w:bp} {k:Nat}:(iz w k).length≤k:=by
 unfold iz
 rw [List.length_map]
 exact Nat.le_trans (List.length_filter_le _ _) sm
end
section
open Go.RowKit
theorem CH {P:Program} {t:Nat} {k:IntKind} (hu:P.underlying t=some (.int k)) (e:Bool) (n:Nat) (v:Value) (w:World):(Instr.checkKey e (n+1) t v).run P w= .ok () w:=by
 unfold Instr.checkKey
 simp only [Sem.run_bind,run_underlying hu,Result.andThen]
 cases v<;>rfl
theorem uV {P:Program} {kt:Nat} {l:List (Nat×Nat)} (hl:fL P kt=some l) (e:Bool) (n:Nat) (cs:Array Value) (w:World)
 (hf: ∀ p∈l,(∃ v,(part p.1 cs p.2).run P w= .ok v w)∧ ∃ k,P.underlying p.1=some (.int k)):(Instr.checkKey e (n+2) kt (.agg cs)).run P w= .ok () w:=by
 unfold fL at hl
 cases hu:P.underlying kt with
 |none=>simp [hu] at hl
 |some d=>
  cases d<;>simp [hu] at hl
  rename_i fs
  obtain ⟨hn,hl⟩:=hl
  rw [show n+2=(n+1)+1 from rfl,Instr.checkKey]
  simp only [Sem.run_bind,run_underlying hu,Result.andThen_ok]
  rw [← Array.forIn_toList]
  have A: ∀ f∈fs.toList,(∃ v,(part f.type cs f.offset).run P w= .ok v w)∧ ∃ k,P.underlying f.type=some (.int k):=fun f hf'=>hf (f.type,f.offset) (by rw [← hl]; exact List.mem_map.2 ⟨f,hf',rfl⟩)
  have B: ∀ f∈fs.toList,f.name≠"_":=fun f hf'=>by
   obtain ⟨i,hi,rfl⟩:=List.getElem_of_mem hf'
   exact hn.1.1 i (by simpa using hi)
  clear hl hn hf
  generalize fs.toList=L at A B
  induction L with
  |nil=>simp
  |cons f L ih=>
   obtain ⟨⟨v,hv⟩,k,hk⟩:=A f sm
   have C:=B f sm
   simp only [List.forIn_cons,Sem.run_bind,C,ne_eq,not_false_eq_true,if_true,Result.andThen_ok,hv,CH hk,Sem.run_pure]
   exact ih (fun y hy=>A y (by simp [hy])) (fun y hy=>B y (by simp [hy]))
theorem xH {P:Program} {kt:Nat} {K:Type} [DecidableEq K] {kV:K→Value} (hw: ∀ (k:Value) (es:List MapEntry) (w:World),(Instr.findKey kt k es).run P w=(Instr.findAsking kt k es).run P w)
 (heq: ∀ x y w,(Op.equal kt (kV x) (kV y)).run P w= .ok (decide (x=y)) w) (inj: ∀ x y,kV x=kV y→x=y) (x:K) (w:World) (es:List MapEntry) (hk: ∀ e∈es,∃ k,e.key=kV k):
 ((Instr.findKey kt (kV x) es).run P w= .ok none w∧ ∀ e∈es,e.key≠kV x)∨ ∃ j e,(Instr.findKey kt (kV x) es).run P w= .ok (some (j,e.val)) w∧es[j]? =some e∧e.key=kV x:=by
 have key: ∀ (es:List MapEntry) (i:Nat),(∀ e∈es,∃ k,e.key=kV k)→((Instr.findAsking kt (kV x) es i).run P w= .ok none w∧ ∀ e∈es,e.key≠kV x)∨ ∃ j e,(Instr.findAsking kt (kV x) es i).run P w= .ok (some (i+j,e.val)) w∧es[j]? =some e∧e.key=kV x:=by
  intro es
  induction es with
  |nil=>intro i _; exact .inl ⟨by simp [Instr.findAsking],sm⟩
  |cons e es ih=>
   intro i B
   obtain ⟨k,A⟩:=B e sm
   by_cases h:x=k
   ·refine .inr ⟨0,e,?_,U,by rw [A,h]⟩
    subst h
    simp [Instr.findAsking,A,heq]
   ·rcases ih (i+1) (fun y hy=>B y (by simp [hy])) with ⟨C,D⟩|⟨j,e',C,D,E⟩
    ·refine .inl ⟨by simp [Instr.findAsking,A,heq,h,C],fun y hy=>?_⟩
     rcases List.mem_cons.1 hy with rfl|hy
     ·rw [A]; exact fun q=>h (inj _ _ q).symm
     ·exact D y hy
    ·exact .inr ⟨j+1,e',by simp [Instr.findAsking,A,heq,h,C]; omega,by simpa using D,E⟩
 rw [hw]
 rcases key es 0 hk with h|⟨j,e,C,D,E⟩
 ·exact .inl h
 ·exact .inr ⟨j,e,by simpa using C,D,E⟩
theorem yF {P:Program} {kt:Nat} {l:List (Nat×Nat)} (hl:fL P kt=some l) (k:Value) (es:List MapEntry) (w:World):(Instr.findKey kt k es).run P w=(Instr.findAsking kt k es).run P w:=by
 refine run_findKey_eq w ?_ k es
 unfold fL at hl
 cases hu:P.underlying kt with
 |none=>simp [hu] at hl
 |some d=>cases d<;>simp [hu] at hl ⊢
theorem Gw {P:Program} {kt:Nat} {K:Type} [DecidableEq K] {kV:K→Value} {l:List (Nat×Nat)} (hl:fL P kt=some l) (heq: ∀ x y w,(Op.equal kt (kV x) (kV y)).run P w= .ok (decide (x=y)) w) (inj: ∀ x y,kV x=kV y→x=y)
 (hb: ∀ x,Instr.sameBits 10000 (kV x) (kV x)=true) (hp: ∀ x w,∃ cs,kV x= .agg cs∧ ∀ p∈l,(∃ v,(part p.1 cs p.2).run P w= .ok v w)∧ ∃ k,P.underlying p.1=some (.int k)):qd P kt kV:=
 ⟨fun e x w=>by obtain ⟨cs,A,B⟩:=hp x w; rw [A]; exact uV hl e 9998 cs w B,fun x w es=>xH (yF hl) heq inj x w es,hb,inj⟩
end
section
open Go.RowKit
set_option linter.unusedSectionVars false
theorem dv {P:Program} {kt:Nat} (hk:P.underlying kt=some (.int .i64)):qd P kt (Value.int .i64):=by
 refine ⟨fun e x w=>By hk e,fun x w es A=>?_,fun x=>by simp [Instr.sameBits],fun x y h=>by injection h⟩
 have key: ∀ (es:List MapEntry) (i:Nat),(∀ e∈es,∃ k:Int,e.key= .int .i64 k)→(Instr.findNow (.int .i64) (.int .i64 x) es i=some none∧ ∀ e∈es,e.key≠ .int .i64 x)∨ ∃ j e,Instr.findNow (.int .i64) (.int .i64 x) es i=some (some (i+j,e.val))∧es[j]? =some e∧e.key= .int .i64 x:=by
  intro es
  induction es with
  |nil=>intro i _; exact .inl ⟨rfl,sm⟩
  |cons e es ih=>
   intro i A
   obtain ⟨k,B⟩:=A e sm
   by_cases h:x=k
   ·subst h
    exact .inr ⟨0,e,by simp [Instr.findNow,Instr.sameNow,B],U,B⟩
   ·have hb:(x==k)=false:=by simpa using h
    rcases ih (i+1) (fun y hy=>A y (by simp [hy])) with ⟨C,D⟩|⟨j,e',C,D,E⟩
    ·refine .inl ⟨by simp [Instr.findNow,Instr.sameNow,B,hb,C],fun y hy=>?_⟩
     rcases List.mem_cons.1 hy with rfl|hy
     ·rw [B]; intro q; injection q with _ q; exact h q.symm
     ·exact D y hy
    ·refine .inr ⟨j+1,e',?_,by simpa using D,E⟩
     simp only [Instr.findNow,Instr.sameNow,B,hb,if_true,C]
     simp; omega
 rcases key es 0 A with ⟨C,D⟩|⟨j,e,C,D,E⟩
 ·exact .inl ⟨MapKept.run_findKey hk C,D⟩
 ·exact .inr ⟨j,e,MapKept.run_findKey hk (by simpa using C),D,E⟩
theorem St.Hl {S:BS} {w0 w w':World} {C:List aj} {A N:aj} (h:St S w0 C w) (i:Nat) (hA:C[i]? =some A) (k:cU no w w') (hN:N.holds w') (hf: ∀ b,N.d_ b→w.heap.size≤b∨A.d_ b∧ ¬ A.wf b∧ ¬ N.wf b):St S w0 (N::C) w':=by
 have h':=h.same k
 have G:=aN hA
 have hi:=(List.getElem?_eq_some_iff.1 hA).1
 have B:C[i]=A:=(List.getElem?_eq_some_iff.1 hA).2
 refine ⟨h'.keeps,fun X hX=>?_,List.Pairwise.cons (fun X hX b hb hb'=>?_) h'.sep,fun X hX b hb=>?_,fun X hX b hb=>?_⟩
 ·rcases List.mem_cons.1 hX with rfl|hX
  ·exact hN
  ·exact h'.holds X hX
 ·rcases hf b hb with E|⟨E,AA,H⟩
  ·have:=X.lt w (h.holds X hX) b hb'; omega
  ·refine ⟨H,?_⟩
   obtain ⟨j,hj,D⟩:=List.mem_iff_getElem.1 hX
   by_cases e:j=i
   ·subst e; rw [← D,B]; exact AA
   ·rcases Nat.lt_or_gt_of_ne e with F|F
    ·have:=List.pairwise_iff_getElem.1 h.sep j i hj hi F b (by rw [D]; exact hb') (by rw [B]; exact E)
     rw [← D]; exact this.1
    ·have:=List.pairwise_iff_getElem.1 h.sep i j hi hj F b (by rw [B]; exact E) (by rw [D]; exact hb')
     rw [← D]; exact this.2
 ·rcases List.mem_cons.1 hX with rfl|hX
  ·rcases hf b (X.jc b hb) with E|⟨_,_,H⟩
   ·exact .inl (Nat.le_trans h.keeps.size E)
   ·exact absurd hb H
  ·exact h'.own X hX b hb
 ·rcases List.mem_cons.1 hX with rfl|hX
  ·rcases hf b hb with E|⟨E,_,_⟩
   ·exact .inl (Nat.le_trans h.keeps.size E)
   ·exact h.seen A G b E
  ·exact h'.seen X hX b hb
section
variable {K:Type} [DecidableEq K] {kV:K→Value}
/-- an iterator over a map that is read alone -/
def ti (kV:K→Value) (r b:Nat) (m left:List (K×Value)) (cur:Option (K×Value)):aj where
 d_ k:=k=r∨k=b
 wf k:=k=r
 holds w:=r≠b∧ ∃ (es:Array MapEntry) (c since:Nat) (seen:Array Nat) (st:Nat),w.heap[b]? =some (.map es c)∧gD kV es c m∧w.heap[r]? =some (.mapIter (some b) since seen st)∧(∀ e∈es.toList,e.born<since)∧since≤st∧since≤c∧
  (leftOf es seen).toList.map (fun (e:MapEntry)=>(e.key,e.val))=left.map (fun p=>(kV p.1,p.2))∧
  ∀ p,cur=some p→ ∃ (e:MapEntry) (seen0:Array Nat),e∈es.toList∧seen=seen0.push e.born∧st=c∧e.key=kV p.1∧e.val=p.2
 wr:=false
 jc _ h:= .inl h
 whole h:=by cases h
 lt w h k hk:=by
  obtain ⟨_,es,c,since,seen,st,h1,_,h2,_⟩:=h
  rcases hk with rfl|rfl
  ·exact dA h2
  ·exact dA h1
 mg w w' hk h:=by
  obtain ⟨hne,es,c,since,seen,st,h1,h2,h3,h4⟩:=h
  exact ⟨hne,es,c,since,seen,st,(hk b (.inr rfl)).trans h1,h2,(hk r (.inl rfl)).trans h3,h4⟩
theorem ef {r b:Nat} {m left:List (K×Value)} {cur:Option (K×Value)}:(∀ w,(ti kV r b m left cur).holds w→(ti kV r b m left none).holds w)∧(∀ k,(ti kV r b m left none).d_ k→(ti kV r b m left cur).d_ k)∧ ∀ k,(ti kV r b m left none).wf k→(ti kV r b m left cur).wf k:=
 ⟨fun w h=>by
  obtain ⟨A,es,c,since,seen,st,B,C,D,E,F,h5',G,_⟩:=h
  exact ⟨A,es,c,since,seen,st,B,C,D,E,F,h5',G,fun p hp=>by cases hp⟩,fun _ h=>h,fun _ h=>h⟩
section
variable {E:dM} {ops:Array Oper} {Q:cd} {rest:List Oper} {D:List Deferred} {L:List (Nat×Value)} {C:List aj}
variable {dst:Option Tmp} {d:Nat} {ty:TypeId} {ps:String} {af:Array Edge} {g:Option (Nat×Bool)}
theorem ic {t kt et:TypeId} {xm:Operand} {b:Nat} {m:List (K×Value)} {A:aj} (i:Nat) (hg:gX ops L g=true) (hm:ev L xm=some (.map (some b))) (ht:E.P.underlying t=some (.map kt et)) (hA:C[i]? =some A) (hAf:A.d_ b∧ ¬ A.wf b) (hC:jf C (fJ kV b m).holds) (hd:Nat.blt d E.n=true)
 (k: ∀ r,RJ E ops Q rest D ((d,.pointer (some ⟨r,0,none⟩))::L) (ti kV r b m m none::C)):RJ E ops Q (⟨some d,.range t xm,ty,ps,af,g⟩::rest) D L C:=by
 intro a w B hs
 have hd':d<E.n:=by rw [← Nat.blt_eq]; exact hd
 unfold oj
 rw [if_pos (cV B hg)]
 obtain ⟨es,c,he,hi⟩:=hs.has hC
 have G:b<w.heap.size:=dA he
 have F:(getObj b).run E.P w= .ok (.map es c) w:=MapKept.run_getObj_map he
 refine fc (v:= .pointer (some ⟨w.heap.size,0,none⟩)) (w':=w.alloc (.mapIter (some b) c #[] c)) sm ?_ ?_
 ·simp [execOp,Instr.range,B.ev hm,run_underlying ht,F,newObj,Sem.run]
 ·refine k _ _ _ (B.put hd' _) (hs.Hl i hA (cU.alloc no w _) ⟨om,es,c,c,#[],c,?_,hi,heap_alloc_new w _,hi.E9,Nat.le_refl _,Nat.le_refl _,?_,fun p hp=>by cases hp⟩ (fun q hq=>?_))
  ·rw [Below.heap_alloc w _ b G]; exact he
  ·have:leftOf es #[]=es:=by unfold leftOf; exact Array.filter_eq_self.2 sm
   rw [this]; exact hi.list
  ·rcases hq with rfl|rfl
   ·exact .inl (Nat.le_refl _)
   ·refine .inr ⟨hAf.1,hAf.2,fun (e:q=w.heap.size)=>by omega⟩
theorem Cb (hinj: ∀ x y,kV x=kV y→x=y) {xi:Operand} {r b:Nat} {m left:List (K×Value)} {cur:Option (K×Value)} (i:Nat) (hg:gX ops L g=true) (hm:ev L xi=some (.pointer (some ⟨r,0,none⟩))) (hC:C[i]? =some (ti kV r b m left cur)) (hd:Nat.blt d E.n=true)
 (k0:left=[]→RJ E ops Q rest D ((d,.tuple [.bool false].toArray)::L) C)
 (k1: ∀ x v,(x,v)∈left→(left.map (·.1)).Nodup→RJ E ops Q rest D ((d,.tuple [.bool true,kV x,v].toArray)::L) (C.set i (ti kV r b m (bR left x) (some (x,v))))):
 RJ E ops Q (⟨some d,.next xi false,ty,ps,af,g⟩::rest) D L C:=by
 intro a w G hs
 have hd':d<E.n:=by rw [← Nat.blt_eq]; exact hd
 unfold oj
 rw [if_pos (cV G hg)]
 obtain ⟨R,es,c,since,seen,st,X,hi,Y,J,V,M,A,_⟩:=hs.holds _ (aN hC)
 rcases run_next_at (P:=E.P) w ty r b since st seen es c Y X J V with ⟨Z,hr⟩|⟨e,he,N,H,hr⟩
 ·refine fc (v:= .tuple #[.bool false]) (w':=w) sm ?_ ?_
  ·simp [execOp,G.ev hm,hr]
  ·refine k0 ?_ _ _ (G.put hd' _) hs
   have:(leftOf es seen).toList=[]:=by rw [← List.length_eq_zero_iff,Array.length_toList]; exact Z
   rw [this] at A
   exact List.map_eq_nil_iff.1 A.symm
 ·have O:(e.key,e.val)∈left.map (fun p=>(kV p.1,p.2)):=by rw [← A]; exact List.mem_map.2 ⟨e,he,rfl⟩
  obtain ⟨p,hp,S⟩:=List.mem_map.1 O
  obtain ⟨x,v⟩:=p
  simp only [Prod.mk.injEq] at S
  obtain ⟨hk,hv⟩:=S
  refine fc (v:= .tuple #[.bool true,e.key,e.val]) (w':=ChangeMaps.setBlock N r (.mapIter (some b) since (seen.push e.born) c)) sm ?_ ?_
  ·simp [execOp,G.ev hm,hr]
  ·rw [← hk,← hv]
   have AA:=su hinj hi A
   have F:e∈es.toList:=by unfold leftOf at he; rw [Array.toList_filter] at he; exact (List.mem_filter.1 he).1
   have f:c=c:=rfl
   have B:N.heap=w.heap:=by rcases H with rfl|rfl<;>rfl
   refine k1 x v hp AA _ _ (G.put hd' _) (hs.mv i hC ⟨⟨R,es,c,since,seen.push e.born,c,?_,hi,?_,J,M,M,?_,fun q hq=>?_⟩,?_,fun q hq=> .inl hq,fun q hq=> .inl hq⟩)
   ·show (N.heap.setIfInBounds r _)[b]? =_
    rw [Array.getElem?_setIfInBounds_ne R,B]; exact X
   ·show (N.heap.setIfInBounds r _)[r]? =_
    rw [Array.getElem?_setIfInBounds_self_of_lt (by rw [B]; exact dA Y)]
   ·have T:leftOf es (seen.push e.born)=(leftOf es seen).filter (fun z=> !(z.born==e.born)):=by
     unfold leftOf
     rw [Array.filter_filter]
     congr 1
     funext z
     simp only [Array.contains_push,Bool.not_or]
     rw [Bool.and_comm]
    rw [T,Array.toList_filter]
    have key: ∀ (l:List MapEntry) (ll:List (K×Value)),(∀ z∈l,z∈es.toList)→l.map (fun (e:MapEntry)=>(e.key,e.val))=ll.map (fun p=>(kV p.1,p.2))→
     (l.filter (fun z=> !(z.born==e.born))).map (fun (e:MapEntry)=>(e.key,e.val))=(bR ll x).map (fun p=>(kV p.1,p.2)):=by
     intro l
     induction l with
     |nil=>intro ll _ h; cases ll with
      |nil=>rfl
      |cons p ll=>simp at h
     |cons z l ih=>
      intro ll hz h
      cases ll with
      |nil=>simp at h
      |cons p ll=>
       simp only [List.map_cons,List.cons.injEq,Prod.mk.injEq] at h
       have ih':=ih ll (fun y hy=>hz y (by simp [hy])) h.2
       have AB:(z.born=e.born)↔(p.1=x):=by
        constructor
        ·intro hb
         have:z=e:=xZ hi.born (hz z sm) F hb
         rw [this] at h
         have:=h.1.1.symm.trans hk.symm
         exact hinj _ _ this
        ·intro hx
         have W:z.key=e.key:=by rw [h.1.1,hx,hk]
         rw [xL hinj hi (hz z sm) F W]
       unfold bR at ih' ⊢
       by_cases hx:p.1=x
       ·rw [List.filter_cons_of_neg (by simp [AB.2 hx]),List.filter_cons_of_neg (by simp [hx])]; exact ih'
       ·rw [List.filter_cons_of_pos (by simpa using fun hb=>hx (AB.1 hb)),List.filter_cons_of_pos (by simpa using hx)]
        simp only [List.map_cons,h.1.1,h.1.2,ih']
    exact key _ _ (fun z hz=>by unfold leftOf at hz; rw [Array.toList_filter] at hz; exact (List.mem_filter.1 hz).1) A
   ·cases hq
    exact ⟨e,seen,F,U,U,hk.symm,hv.symm⟩
   ·refine ⟨?_,?_,?_,?_,fun q hq hn=>?_⟩
    ·rcases H with rfl|rfl<;>rfl
    ·rcases H with rfl|rfl<;>rfl
    ·rcases H with rfl|rfl<;>rfl
    ·show w.heap.size≤(N.heap.setIfInBounds r _).size
     simp [B]
    ·show (N.heap.setIfInBounds r _)[q]? =_
     rw [Array.getElem?_setIfInBounds_ne (fun e=>hn e.symm),B]
theorem gJ {xi:Operand} {r b:Nat} {m left:List (K×Value)} {x:K} {v:Value} (i:Nat) (hg:gX ops L g=true) (hm:ev L xi=some (.pointer (some ⟨r,0,none⟩))) (hC:C[i]? =some (ti kV r b m left (some (x,v)))):
 SD E ops ⟨dst,.entry xi,ty,ps,af,g⟩ D L C (.tuple [kV x,v].toArray):=
 cM hg sm fun a w F hs=>by
  obtain ⟨N,es,c,since,seen,st,J,hi,M,H,O,AA,G,B⟩:=hs.holds _ (aN hC)
  obtain ⟨e,A,he,rfl,rfl,hk,hv⟩:=B _ rfl
  have:=run_entry_at (P:=E.P) w r b since A es st e M J he hi.born
  simp [execOp,F.ev hm,this,hk,hv]
theorem gL (hinj: ∀ x y,kV x=kV y→x=y) {β:Type} {f:β→Value} {xi:Operand} {r b:Nat} {m:List (K×Value)} {ll:List (K×β)} {cur:Option (K×Value)} (i:Nat) (hg:gX ops L g=true) (hm:ev L xi=some (.pointer (some ⟨r,0,none⟩))) (hC:C[i]? =some (ti kV r b m (bo f ll) cur)) (hd:Nat.blt d E.n=true)
 (k0:ll=[]→RJ E ops Q rest D ((d,.tuple [.bool false].toArray)::L) C)
 (k1: ∀ x y,(x,y)∈ll→(ll.map (·.1)).Nodup→RJ E ops Q rest D ((d,.tuple [.bool true,kV x,f y].toArray)::L) (C.set i (ti kV r b m (bo f (bR ll x)) (some (x,f y))))):
 RJ E ops Q (⟨some d,.next xi false,ty,ps,af,g⟩::rest) D L C:=by
 refine Cb hinj i hg hm hC hd (fun h=>k0 (List.map_eq_nil_iff.1 h)) (fun x v B hn=>?_)
 obtain ⟨p,hp,A⟩:=List.mem_map.1 B
 simp only [Prod.mk.injEq] at A
 obtain ⟨rfl,rfl⟩:=A
 have:=k1 p.1 p.2 hp (by simpa [bo,Function.comp_def] using hn)
 rwa [jI] at this
theorem tS {t kt et:TypeId} {xm xk xv:Operand} {b:Nat} {x:K} {v:Value} {m m':List (K×Value)} {C':List aj} (i:Nat) (hg:gX ops L g=true) (hm:ev L xm=some (.map (some b))) (hk:ev L xk=some (kV x)) (hv:ev L xv=some v)
 (ht:E.P.underlying t=some (.map kt et)) (hkt:qd E.P kt kV) (hC:C[i]? =some (fJ kV b m)) (hm':dB m x v=m') (hC':C.set i (fJ kV b m')=C') (k:RJ E ops Q rest D L C'):
 RJ E ops Q (⟨none,.insert t xm xk xv,ty,ps,af,g⟩::rest) D L C:=by
 subst hm' hC'
 intro a w A hs
 unfold oj
 rw [if_pos (cV A hg)]
 obtain ⟨es,c,he,hi⟩:=hs.holds _ (aN hC)
 have B:(getObj b).run E.P w= .ok (.map es c) w:=MapKept.run_getObj_map he
 rcases l5 (P:=E.P) (w:=w) (x:=x) hkt hi with ⟨AA,F⟩|⟨j,N,AA,F,J⟩
 ·refine od (w':={w with heap:=w.heap.setIfInBounds b (.map (es.push {key:=kV x,val:=v,born:=c}) (c+1))}) sm ?_ ?_
  ·simp [execOp,A.ev hm,A.ev hk,A.ev hv,Instr.mapUpdate,run_underlying ht,B,fX hkt,AA,MapKept.run_setObj_map _ he]
  ·refine k _ _ ⟨A.defers,A.size,A.at_⟩ (hs.x5 (b:=b) i hC U U (kl _) (fun _ h=>h) ⟨_,_,mq he,?_⟩)
   have:dB m x v=m++[(x,v)]:=by unfold dB; rw [F]; rfl
   rw [this]; exact hi.push F v
 ·have M:=hi.size
  have G:j<es.size:=by have:=(List.getElem?_eq_some_iff.1 F).1; omega
  have H:(es[j]).key=kV x:=by
   have:=congrArg (fun l=>l[j]?) hi.list
   simp [G,F] at this
   exact this.1
  refine od (w':={w with heap:=w.heap.setIfInBounds b (.map (es.modify j fun e=>{e with key:=kV x,val:=v}) c)}) sm ?_ ?_
  ·simp [execOp,A.ev hm,A.ev hk,A.ev hv,Instr.mapUpdate,run_underlying ht,B,fX hkt,AA,MapKept.run_setObj_map _ he,Instr.keyThatStays,G,H,hkt.bits x]
  ·exact k _ _ ⟨A.defers,A.size,A.at_⟩ (hs.x5 (b:=b) i hC U U (kl _) (fun _ h=>h) ⟨_,_,mq he,hi.set F J v⟩)
end
end
end
section
open Go.RowKit
def MF {σ:Type} (w0:World) (P:Program) (l:Nat) (step:σ→List Value→σ→Prop) (J:σ→aj→Prop) (Z:aj→Prop):Prop:=
 ∀ k x k' A w,step k x k'→J k A→w0.heap.size≤w.heap.size→A.holds w→YieldAt (Fw none) 0 P l x.toArray w fun e w'=>
  (e= .returned (.bool true)∧ ∃ B,J k' B∧Mv A B w w')∨(e= .returned (.bool false)∧ ∃ B,Z B∧Mv A B w w')
def F_ {σ:Type} (J:σ→aj→Prop) (Z:aj→Prop) (fin:σ→Prop) (A0:aj) (w0:World) (e:Ending) (w':World):Prop:=
 ∃ v,e= .returned v∧((∃ s B,fin s∧J s B∧Mv A0 B w0 w')∨ ∃ B,Z B∧Mv A0 B w0 w')
structure zC {σ:Type} (P:Program) (f:FuncId) (fi ca:List Value) (Cp:List aj) (s0:σ) (step:σ→List Value→σ→Prop) (fin:σ→Prop):Prop where
 go:oh P f=true
 run: ∀ (l:Nat) (J:σ→aj→Prop) (Z:aj→Prop) (A0:aj) (w:World),MF w P l step J Z→J s0 A0→A0.holds w→(∀ A∈Cp,A.holds w)→(∀ A∈Cp,x9 A0 A.ro)→
  Calls P f (fi++Value.func (.yield l) #[] #[]::ca).toArray w (F_ J Z fin A0 w)
theorem Fg {σ:Type} {J:σ→aj→Prop} {Z:aj→Prop} {n:σ} {fin:σ→Prop} {A0 B:aj} {w0 w:World} {C:List aj} {v:Value} (i:Nat) (hC:C[i]? =some B) (hfin:fin n) (hJ:J n B) (hF:Fo A0 w0 B) (hs:St ⟨A0.wf,fun _=>True⟩ w0 C w):F_ J Z fin A0 w0 (.returned v) w:=
 ⟨v,rfl,.inl ⟨n,B,hfin,hJ,hs.holds B (aN hC),hs.keeps,fun b hb=>(hs.own B (aN hC) b hb).symm,hF⟩⟩
theorem oB {σ:Type} {J:σ→aj→Prop} {Z:aj→Prop} {fin:σ→Prop} {A0 B:aj} {w0 w:World} {C:List aj} {v:Value} (i:Nat) (hC:C[i]? =some B) (hJ:Z B) (hF:Fo A0 w0 B) (hs:St ⟨A0.wf,fun _=>True⟩ w0 C w):F_ J Z fin A0 w0 (.returned v) w:=
 ⟨v,rfl,.inr ⟨B,hJ,hs.holds B (aN hC),hs.keeps,fun b hb=>(hs.own B (aN hC) b hb).symm,hF⟩⟩
theorem o9 {σ:Type} {P:Program} {f:FuncId} {fn:Func} {c:Code} {fi ca:List Value} {Cp:List aj} {s0:σ} {step:σ→List Value→σ→Prop} {fin:σ→Prop} (hgo:oh P f=true) (hf:P.funcs[f]? =some fn) (hb:fn.body=some c) (hn:Nat.ble (fi.length+ca.length+1) fn.ntmps=true)
 (h: ∀ (l:Nat) (J:σ→aj→Prop) (Z:aj→Prop) (A0:aj) (w0:World) (Q:cd),MF w0 P l step J Z→J s0 A0→Fo A0 w0 A0→
  (∀ D L C,LJ ⟨P,none,fn.ntmps,⟨A0.wf,fun _=>True⟩,w0⟩ fn (F_ J Z fin A0 w0) D L C→KJ ⟨P,none,fn.ntmps,⟨A0.wf,fun _=>True⟩,w0⟩ (Q .ret) D L C)→
  (∀ D L C,LJ ⟨P,none,fn.ntmps,⟨A0.wf,fun _=>True⟩,w0⟩ fn (F_ J Z fin A0 w0) D L C→KJ ⟨P,none,fn.ntmps,⟨A0.wf,fun _=>True⟩,w0⟩ (Q .normal) D L C)→
  WJ ⟨P,none,fn.ntmps,⟨A0.wf,fun _=>True⟩,w0⟩ c Q [] (Jq (fi++Value.func (.yield l) #[] #[]::ca)) (A0::Cp.map aj.ro)):zC P f fi ca Cp s0 step fin:=by
 refine ⟨hgo,fun l J Z A0 w hY hJ hA F E=>?_⟩
 refine zH hf hb (by simpa [Nat.add_assoc] using hn) (h l J Z A0 w · hY hJ (fun b hb=> .inl hb)) ?_
 have G:=pz F
 refine ⟨cU.refl _ _,fun A hA'=>?_,List.Pairwise.cons (fun B hB=>?_) G.sep,fun A hA' b hb=>?_,fun _ _ _ _=> .inr trivial⟩
 ·rcases List.mem_cons.1 hA' with rfl|hA'
  ·exact hA
  ·exact G.holds A hA'
 ·obtain ⟨B',hB',rfl⟩:=List.mem_map.1 hB
  exact E B' hB'
 ·rcases List.mem_cons.1 hA' with rfl|hA'
  ·exact .inr hb
  ·obtain ⟨B',hB',rfl⟩:=List.mem_map.1 hA'
   exact hb.elim
section
variable {E:dM} {ops:Array Oper} {Q:cd} {rest:List Oper} {D:List Deferred} {L:List (Nat×Value)} {C:List aj}
variable {d:Nat} {ty:TypeId} {ps:String} {af:Array Edge} {g:Option (Nat×Bool)}
/-- a call of yield -/
theorem iE {σ:Type} {fop:Operand} {xs:Array Operand} {ts:Array TypeId} {l:Nat} {k k':σ} {vs:List Value} {step:σ→List Value→σ→Prop} {J:σ→aj→Prop} {Z:aj→Prop} {A0 A:aj} {w1:World} (i:Nat) (hw1:w1.heap.size≤E.w0.heap.size) (hY:MF w1 E.P l step J Z) (hJ:J k A) (hF:Fo A0 w1 A) (hg:gX ops L g=true) (hf:ev L fop=some (.func (.yield l) #[] #[]))
 (hx:evs L xs.toList=some vs) (hk:step k vs k') (hC:C[i]? =some A) (hd:Nat.blt d E.n=true)
 (k1: ∀ B,J k' B→Fo A0 w1 B→RJ E ops Q rest D ((d,.bool true)::L) (C.set i B))
 (k2: ∀ B,Z B→Fo A0 w1 B→RJ E ops Q rest D ((d,.bool false)::L) (C.set i B)):
 RJ E ops Q (⟨some d,.call {callee:= .value fop,args:=xs,argTypes:=ts},ty,ps,af,g⟩::rest) D L C:=by
 intro a w F hs
 have hd':d<E.n:=by rw [← Nat.blt_eq]; exact hd
 unfold oj
 rw [if_pos (cV F hg)]
 have K:xs.map a.eval=vs.toArray:=by
  have:=F.evs hx
  apply Array.ext'
  simp [this]
 obtain ⟨fn,tmps,assign,body,hy,hr⟩:=hY k vs k' A w hk hJ (Nat.le_trans hw1 hs.keeps.size) (hs.holds A (aN hC))
 have H:(execOp a.eval ⟨some d,.call {callee:= .value fop,args:=xs,argTypes:=ts},ty,ps,af,g⟩).run E.P w= .ok (.round l fn tmps assign body) w:=by
  simp [execOp,resolve,F.ev hf,Deferred.ofValue,invoke,K,hy]
 refine ⟨fun _ _=>trivial,?_⟩
 rw [Oper.semAt_eq _ _ _ sm,H]
 refine ⟨fun h=>by simp at h,?_⟩
 have G: ∀ (B:aj) (w':World),Mv A B w w'→Fo A0 w1 B:=fun B w' m b hb=>by
  rcases m.d_ b hb with AA|AA
  ·exact hF b AA
  ·exact .inr (Nat.le_trans hw1 (Nat.le_trans hs.keeps.size AA))
 have hr':RoundIn (Fw E.r) 0 E.P l fn tmps assign body w _:=hr
 refine hr'.mono fun e w' he=>?_
 rcases he with ⟨rfl,B,hB,m⟩|⟨rfl,B,hB,m⟩
 ·exact k1 B hB (G B w' m) _ _ (F.put hd' _) (hs.mv i hC m)
 ·exact k2 B hB (G B w' m) _ _ (F.put hd' _) (hs.mv i hC m)
end
theorem ko {σ:Type} {E:dM} {Q:cd} {D:List Deferred} {L L0:List (Nat×Value)} {C F:List aj} {g:Operand} {ps:Array Tmp} {assign body:Code} {f:FuncId} {fi ca:List Value} {Cp:List aj} {s0:σ} {step:σ→List Value→σ→Prop} {fin_:σ→Prop} {ι κ:Type}
 (inv:σ→ι→Prop) (Ci:σ→ι→List aj) (invx:Code→κ→Prop) (Cx:Code→κ→List aj) (isJ isF:List Nat) (y0:ι)
 (hr:E.r=none) (hg:ev L g=some (.func (.func f) fi.toArray ca.toArray)) (hs:zC E.P f fi ca Cp s0 step fin_)
 (hnd:decide (isJ++isF).Nodup=true) (hJ:jC C isJ=Ci s0 y0) (hF:jC C isF=F) (h0:inv s0 y0) (hCp: ∀ A∈Cp,∃ B∈F,Gm B A)
 (hps: ∀ k x k',step k x k'→x.length=ps.size) (hpn:ps.toList.all (fun t=>Nat.blt t E.n)=true) (hL:ew L L0)
 (round: ∀ (k:σ) (x:List Value) (k':σ) (y:ι) (l:Nat) (ra rb:Loop) (S:BS) (w0:World) (K:Act→World→Prop) (Qr:cd),E.w0.heap.size≤w0.heap.size→step k x k'→inv k y→
  (∀ L' C',WJ ⟨E.P,some l,E.n,S,w0⟩ body Qr [] L' (jw l (.loop rb)::C')→KJ ⟨E.P,some l,E.n,S,w0⟩ K [] L' (jw l (.loop ra)::C'))→
  (∀ y' L' C',inv k' y'→(∀ w,St S w0 C' w→St S w0 (jw l (.loop rb)::Ci k' y') w)→KJ ⟨E.P,some l,E.n,S,w0⟩ (Qr .normal) [] L' C')→
  (∀ id z L' C',invx (.exit id) z→(∀ w,St S w0 C' w→St S w0 (jw l (.loop rb)::Cx (.exit id) z) w)→KJ ⟨E.P,some l,E.n,S,w0⟩ (Qr (.exit id)) [] L' C')→
  (∀ z L' C',invx .ret z→(∀ w,St S w0 C' w→St S w0 (jw l (.loop rb)::Cx .ret z) w)→KJ ⟨E.P,some l,E.n,S,w0⟩ (Qr .ret) [] L' C')→
  WJ ⟨E.P,some l,E.n,S,w0⟩ assign (Exit.then K (fun _ _ _=>False)) [] (xN ps.toList x L0) (jw l (.loop ra)::Ci k y))
 (fin: ∀ r s y,fin_ s→inv s y→KJ E (Q .normal) (jA r::D) L0 (jw r (.deferred (some []))::(F++Ci s y)))
 (finx: ∀ r id z,invx (.exit id) z→KJ E (Q (.exit id)) (jA r::D) L0 (jw r (.deferred (some []))::(F++Cx (.exit id) z)))
 (finr: ∀ r z,invx .ret z→KJ E (Q .ret) (jA r::D) L0 (jw r (.deferred (some []))::(F++Cx .ret z))):WJ E (.rangeFunc g ps assign body) Q D L C:=by
 intro a w hf q
 refine wpIn_rangeFunc fun fn _=>?_
 show ∃ l jA w₁ d w₁' f args w₂,(Instr.enterLoop fn a.tmps ps assign body E.r).run E.P w= .ok (l,jA) w₁∧_
 rw [hr]
 obtain ⟨rec,G⟩: ∃ rec:LoopState→Option Code→Loop,rec=fun st pe=>{state:=st,pending:=pe,fn,tmps:=a.tmps,params:=ps,assign,body,defers:=w.heap.size}:=⟨_,rfl⟩
 obtain ⟨W1,R⟩: ∃ W1,(w.alloc (.deferred (some []))).alloc (.loop (rec .ready none))=W1:=⟨_,rfl⟩
 have A2:a.eval g= .func (.func f) fi.toArray ca.toArray:=hf.ev hg
 have p:(Instr.enterLoop fn a.tmps ps assign body none).run E.P w= .ok (w.heap.size+1,[jA w.heap.size]) W1:=by
  rw [← R,G]; exact run_enterLoop_outer _ _ _ _ _
 -- the state with the record and the block
 have u:St E.S E.w0 ((jw (w.heap.size+1) (.loop (rec .ready none))::Ci s0 y0)++(jw w.heap.size (.deferred (some []))::F)) W1:=by
  have X:St E.S E.w0 (Ci s0 y0++F) w:=St.jC (isJ++isF) hnd (by have X:=hJ; have j:=hF; unfold Go.Proofs.YtadjgjnicdcjbaaGreatDoor.jC at X j ⊢; rw [List.filterMap_append,X,j]) q
  have hn:H0 w W1 [jw (w.heap.size+1) (.loop (rec .ready none)),jw w.heap.size (.deferred (some []))]:=by
   refine ⟨fun A hA=>?_,fun A hA b hb=>?_,?_⟩
   ·rcases List.mem_cons.1 hA with rfl|hA
    ·show W1.heap[w.heap.size+1]? =_
     rw [← R]; have:=World.alloc_heap_new (w.alloc (.deferred (some []))) (.loop (rec .ready none)); rwa [World.size_alloc] at this
    ·simp only [bD] at hA; subst hA
     show W1.heap[w.heap.size]? =_
     rw [← R]; exact (Below.heap_alloc _ _ _ sm).trans (World.alloc_heap_new w _)
   ·rcases List.mem_cons.1 hA with rfl|hA
    ·have:b=w.heap.size+1:=hb
     omega
    ·simp only [bD] at hA; subst hA
     have:b=w.heap.size:=hb
     omega
   ·refine List.Pairwise.cons (fun B hB b X j=>?_) (List.pairwise_singleton _ _)
    simp only [bD] at hB; subst hB
    have V:b=w.heap.size+1:=X
    have O:b=w.heap.size:=j
    omega
  have hk:cU no w W1:=by rw [← R]; exact (cU.alloc no w _).trans (cU.alloc no _ _)
  have j:=X.grow hk hn
  refine j.perm ?_
  simp only [List.cons_append,List.nil_append]
  exact List.Perm.cons _ (List.perm_middle.symm)
 have Y:=u.tied
 obtain ⟨H,A7⟩:=List.pairwise_cons.1 Y.sep
 have A0:=Y.holds _ (bU ..)
 let J:σ→aj→Prop:=fun k A=> ∃ y,inv k y∧A=bf (jw (w.heap.size+1) (.loop (rec .ready none))::Ci k y)
 let Z:aj→Prop:=fun A=> ∃ c z,(c= .ret∨ ∃ id,c= .exit id)∧invx c z∧A=bf (jw (w.heap.size+1) (.loop (rec .done (some c)))::Cx c z)
 refine ⟨w.heap.size+1,[jA w.heap.size],W1,{target:= .fn (.func f) ca.toArray,args:=fi.toArray++ #[.func (.yield (w.heap.size+1)) #[] #[]]},W1,f,
  (fi++Value.func (.yield (w.heap.size+1)) #[] #[]::ca).toArray,W1,p,?_,fun _ _=>trivial,?_,fun h=>by simp at h,?_⟩
 ·simp only [resolve,A2]
  simp [Deferred.ofValue,Act.eval]
 ·have:fi.toArray++ #[Value.func (.yield (w.heap.size+1)) #[] #[]]++ca.toArray=(fi++Value.func (.yield (w.heap.size+1)) #[] #[]::ca).toArray:=by simp
  simp [invoke,mG hs.go]
 ·refine (nz E.r (hs.run (w.heap.size+1) J Z _ W1 ?_ ⟨y0,h0,U⟩ A0 ?_ ?_)).mono ?_
  ·-- a round
   rintro k x k' A W hx ⟨y,hy,rfl⟩ A1 hA
   have hl:W.heap[w.heap.size+1]? =some (.loop (rec .ready none)):=hA.1 _ (bU ..)
   have AC:=run_yield (P:=E.P) (args:=x.toArray) hl (by rw [G]; simpa using hps k x k' hx)
   rw [G] at AC
   refine ⟨fn,_,assign,body,AC,roundIn_of_wpIn trivial ?_⟩
   let A:aj:=bf (jw (w.heap.size+1) (.loop (rec .ready none))::Ci k y)
   have A3:Fr E.n [] (xN ps.toList x L0) {tmps:=(ps.zip x.toArray).foldl (fun tmps (t,a)=>tmps.setIfInBounds t a) a.tmps,defers:=[]}:=by
    have X:=Fe ps.toList x L0 a.tmps (fun t ht=>by have:=List.all_eq_true.1 hpn t ht; rwa [Nat.blt_eq] at this) ⟨rfl,hf.size,fun t v hv=>hf.at_ t v (hL t v hv)⟩
    rw [← Array.foldl_toList]
    simpa using X
   have o: ∀ (c:Option Code) (b:Bool),({rec .busy none with state:=if b then .ready else .done,pending:=c}:Loop)=rec (if b then .ready else .done) c:=fun c b=>by rw [G]
   have T: ∀ (c:Option Code) (N:World) (C':List aj) (S:BS),St S W (jw (w.heap.size+1) (.loop (rec .busy none))::C') N→
    ∃ M,(Instr.endRound (w.heap.size+1) c).run E.P N= .ok (.bool c.isNone) M∧St S W (jw (w.heap.size+1) (.loop (rec (if c.isNone then .ready else .done) c))::C') M:=fun c N C' S H=>by
    have AB:N.heap[w.heap.size+1]? =some (.loop (rec .busy none)):=H.holds _ (bU ..)
    refine ⟨_,run_endRound c AB,?_⟩
    have:=H.x5 (b:=w.heap.size+1) (A':=jw (w.heap.size+1) (.loop (rec (if c.isNone then .ready else .done) c))) 0 rfl rfl rfl (gR _) (fun _ h=>h) (World.putObj_heap_same (dA AB))
    rw [o]
    exact this
   refine round k x k' y (w.heap.size+1) (rec .ready none) (rec .busy none) ⟨A.wf,A.d_⟩ W _ (roundPost E.P (w.heap.size+1) (fun e w'=>(e= .returned (.bool true)∧ ∃ B,J k' B∧Mv A B W w')∨(e= .returned (.bool false)∧ ∃ B,Z B∧Mv A B W w'))) (Nat.le_trans (Nat.le_trans q.keeps.size (by rw [← R]; simp; omega)) A1) hx hy ?_ ?_ ?_ ?_ _ _ A3 (St.z7 hA)
   ·intro L' C' hW a1 N i H
    have AB:N.heap[w.heap.size+1]? =some (.loop (rec .ready none)):=H.holds _ (bU ..)
    refine ⟨_,run_beginRound AB (by rw [G]),hW _ _ i ?_⟩
    have:=H.x5 (b:=w.heap.size+1) (A':=jw (w.heap.size+1) (.loop (rec .busy none))) 0 rfl rfl rfl (gR _) (fun _ h=>h) (World.putObj_heap_same (dA AB))
    have e:({rec .ready none with state:= .busy}:Loop)=rec .busy none:=by rw [G]
    rw [e]; exact this
   ·intro y' L' C' hy' hC' a1 N i H
    obtain ⟨M,V,O⟩:=T none N _ _ (hC' _ H)
    exact ⟨_,M,V,.inl ⟨U,_,⟨y',hy',U⟩,Mv.of O⟩⟩
   ·intro id z L' C' hz hC' a1 N i H
    obtain ⟨M,V,O⟩:=T (some (.exit id)) N _ _ (hC' _ H)
    exact ⟨_,M,V,.inr ⟨U,_,⟨_,z,.inr ⟨id,U⟩,hz,U⟩,Mv.of O⟩⟩
   ·intro z L' C' hz hC' a1 N i H
    obtain ⟨M,V,O⟩:=T (some .ret) N _ _ (hC' _ H)
    exact ⟨_,M,V,.inr ⟨U,_,⟨_,z,.inl U,hz,U⟩,Mv.of O⟩⟩
  ·intro A hA
   obtain ⟨B,hB,hc⟩:=hCp A hA
   exact hc.holds _ (Y.holds B (cL _ (cL _ hB)))
  ·intro A hA b hb hb'
   obtain ⟨B,hB,hc⟩:=hCp A hA
   exact ⟨(H B (cL _ hB) b hb (hc.d_ b hb')).1,fun h=>h⟩
  ·rintro e w' ⟨v,rfl,hh⟩
   have AA:Fr E.n (jA w.heap.size::D) L0 {a with defers:=[jA w.heap.size]++a.defers}:=⟨by simp [hf.defers],hf.size,fun t v hv=>hf.at_ t v (hL t v hv)⟩
   have hleave: ∀ (st:LoopState) (c:Option Code) (C':List aj),st≠ .busy→Mv (bf (jw (w.heap.size+1) (.loop (rec .ready none))::Ci s0 y0)) (bf (jw (w.heap.size+1) (.loop (rec st c))::C')) W1 w'→
    ∃ M,(Instr.endLoop (w.heap.size+1)).run E.P w'= .ok c M∧St E.S E.w0 (jw w.heap.size (.deferred (some []))::(F++C')) M:=fun st c C' A5 m=>by
    have X:=(Y.mv 0 rfl m).iy
    have h1':St E.S E.w0 ((jw (w.heap.size+1) (.loop (rec st c))::C')++(jw w.heap.size (.deferred (some []))::F)) w':=X
    have AB:w'.heap[w.heap.size+1]? =some (.loop (rec st c)):=h1'.holds (jw (w.heap.size+1) (.loop (rec st c))) sm
    refine ⟨_,by have:=run_endLoop (P:=E.P) AB (by rw [G]; exact A5); rw [this,G],?_⟩
    have j:=h1'.x5 (b:=w.heap.size+1) (A':=jw (w.heap.size+1) (.loop {rec st c with state:= .exhausted})) 0 rfl rfl rfl (gR _) (fun _ h=>h) (World.putObj_heap_same (dA AB))
    have h3:St E.S E.w0 (C'++(jw w.heap.size (.deferred (some []))::F)) _:=j.take (List.sublist_cons_self _ _)
    rw [G] at h3
    refine h3.perm ?_
    exact (List.perm_append_comm).trans sm
   rcases hh with ⟨s,B,A4,⟨y,hy,rfl⟩,m⟩|⟨B,⟨c,z,hc,hz,rfl⟩,m⟩
   ·obtain ⟨M,V,O⟩:=hleave .ready none _ sm m
    exact ⟨none,M,V,fin w.heap.size s y A4 hy _ _ AA O⟩
   ·obtain ⟨M,V,O⟩:=hleave .done (some c) _ sm m
    refine ⟨some c,M,V,?_⟩
    rcases hc with rfl|⟨id,rfl⟩
    ·exact wpIn_ret (finr w.heap.size z hz _ _ AA O)
    ·exact wpIn_exit (finx w.heap.size id z hz _ _ AA O)
end
section
open Go.RowKit
/-- where a row lies, and its capacity -/
abbrev RA:=OA×Nat
/-- what is asked of memory by all elements -/
def aR {M A:Type} (f:M→A→List aj):List M→List A→List aj
 |m::ms,a::asl=>f m a++aR f ms asl
 |_,_=>[]
theorem bY {M A:Type} {f:M→A→List aj}: ∀ {ms:List M} {asl:List A} {k:Nat} {m:M} {a:A} {X:aj},ms[k]? =some m→asl[k]? =some a→X∈f m a→X∈aR f ms asl
 |[],_,k,m,a,X,h,_,_=>by simp at h
 |_::_,[],k,m,a,X,_,h,_=>by simp at h
 |x::ms,y::asl,0,m,a,X,h,h2,hX=>by
  simp at h h2; subst h h2
  exact List.mem_append_left _ hX
 |x::ms,y::asl,k+1,m,a,X,h,h2,hX=>List.mem_append_right _ (bY (ms:=ms) (asl:=asl) (k:=k) (by simpa using h) (by simpa using h2) hX)
theorem hU {M A:Type} {f:M→A→List aj}: ∀ {ms:List M} {asl:List A} {X:aj},X∈aR f ms asl→ ∃ (k:Nat) (m:M) (a:A),ms[k]? =some m∧asl[k]? =some a∧X∈f m a
 |[],_,X,h=>by cases h
 |_::_,[],X,h=>by cases h
 |x::ms,y::asl,X,h=>by
  rcases List.mem_append.1 h with h|h
  ·exact ⟨0,x,y,U,U,h⟩
  ·obtain ⟨k,m,a,B,C,D⟩:=hU h
   exact ⟨k+1,m,a,by simpa using B,by simpa using C,D⟩
theorem j0 {M A:Type} {f:M→A→List aj}: ∀ {ms:List M} {asl:List A} {ns:List M} {bs:List A},ms.length=asl.length→aR f (ms++ns) (asl++bs)=aR f ms asl++aR f ns bs
 |[],[],ns,bs,_=>rfl
 |[],_::_,ns,bs,h=>by simp at h
 |_::_,[],ns,bs,h=>by simp at h
 |x::ms,y::asl,ns,bs,h=>by
  simp only [List.cons_append,aR,List.append_assoc]
  rw [j0 (by simpa using h)]
theorem dE {M A β:Type} {f:M→A→β} {ms:List M} {asl:List A} {k:Nat} {m:M} {a:A} (h:ms[k]? =some m) (h2:asl[k]? =some a):(List.zipWith f ms asl)[k]? =some (f m a):=by
 rw [List.getElem?_zipWith,h,h2]
theorem eh {C L:List aj} {A:aj} (i:Nat) (hC:C[i]? =some (eR L).ro) (hm:A∈L):jf C A.holds:=fun w hw=>hw _ (aN hC) A hm
theorem bS {M A:Type} {f g:M→A→List aj} {ms:List M} {asl:List A} {C:List aj} (i:Nat) (hC:C[i]? =some (bf (aR g ms asl))) (h: ∀ m a w,(∀ X∈g m a,X.holds w)→ ∀ X∈f m a,X.holds w):jf C (eR (aR f ms asl)).holds:=fun w hw X hX=>by
 have hb:=hw _ (aN hC)
 obtain ⟨k,m,a,B,D,E⟩:=hU hX
 exact h m a w (fun Y hY=>hb.1 Y (bY B D hY)) X E
/-- a row that is part of another one -/
theorem Hj {C:List aj} {A:OA} {n k sz:Nat} {es:List (List Value)} (hR:jf C (rd A n sz es).holds) (hk:k≤n):jf C (rd A k sz (es.take k)).holds:=fun w hw=>by
 obtain ⟨D,E,F⟩:=hR w hw
 refine ⟨by rw [List.length_take,D]; omega,fun x hx=>E x (List.mem_of_mem_take hx),fun hp=>?_⟩
 have G:0<k:=Nat.pos_of_mul_pos_right hp
 have hs:0<sz:=Nat.pos_of_mul_pos_left hp
 obtain ⟨ad,hA,B⟩:=F (Nat.mul_pos om hs)
 refine ⟨ad,hA,fun i e j v he hv=>B i e j v ?_ hv⟩
 rw [List.getElem?_take] at he
 split at he
 ·exact he
 ·cases he
section
variable {E:dM} {ops:Array Oper} {Q:cd} {rest:List Oper} {D:List Deferred} {L:List (Nat×Value)} {C:List aj}
variable {d:Nat} {ty:TypeId} {ps:String} {af:Array Edge} {g:Option (Nat×Bool)}
/-- an element of a slice that is the head of a row -/
theorem Mm (k:Nat) {x ix:Operand} {A:OA} {n n' c sz e t:Nat} {es:List (List Value)} {j:Int} (h:bF E.n ops L d g x ix=some (.slice A n' c,.int .i64 j)) (hR:jf C (rd A n sz es).holds)
 (ht:tE E.P t=some (e,sz)) (hz:0<sz) (hj:j=(k:Int)) (hk:k<n') (hn:n'≤n):SE E ops ⟨some d,.indexAddr t x ix,ty,ps,af,g⟩ D L C (.pointer (jG A (k*sz))) d:=IA k h (Hj hR hn) ht hz hj hk
end
theorem St.tie {S:BS} {w0 w:World} {C:List aj} {A:aj} {L L':List aj} (h:St S w0 (A::bf L::C) w) (e:L++[A]=L'):St S w0 (bf L'::C) w:=by
 subst e
 have B:St S w0 (bf L::A::C) w:=h.perm (List.Perm.swap _ _ _)
 have D:St S w0 (L++(A::C)) w:=B.iy
 have E:St S w0 ((L++[A])++C) w:=by simpa using D
 exact E.tied
theorem St.Jn {S:BS} {w0 w:World} {C:List aj} (h:St S w0 C w):St S w0 (bf []::C) w:=St.tied (C1:=[]) h
section
variable {E:dM} {Q:cd} {D:List Deferred} {L:List (Nat×Value)} {C:List aj}
theorem nt {c:Code} (h:WJ E c Q D L (bf []::C)):WJ E c Q D L C:=fun a w hf hs=>h a w hf hs.Jn
theorem FY {ops:Array Oper} {rest:List Oper} (h:RJ E ops Q rest D L (bf []::C)):RJ E ops Q rest D L C:=fun a w hf hs=>h a w hf hs.Jn
theorem z6 {K:Act→World→Prop} {C1:List aj} {A:aj} {X X':List aj} (i j:Nat) (hn:decide (j::i::(List.range C.length).filter fun k=>k != i&&k != j).Nodup=true) (hC:jC C (j::i::(List.range C.length).filter fun k=>k != i&&k != j)=A::bf X::C1) (e:X++[A]=X')
 (h:KJ E K D L (bf X'::C1)):KJ E K D L C:=fun a w hf hs=>h a w hf ((St.jC _ hn hC hs).tie e)
theorem Mj {ops:Array Oper} {rest:List Oper} {C1:List aj} {A:aj} {X X':List aj} (i j:Nat) (hn:decide (j::i::(List.range C.length).filter fun k=>k != i&&k != j).Nodup=true) (hC:jC C (j::i::(List.range C.length).filter fun k=>k != i&&k != j)=A::bf X::C1) (e:X++[A]=X')
 (h:RJ E ops Q rest D L (bf X'::C1)):RJ E ops Q rest D L C:=fun a w hf hs=>h a w hf ((St.jC _ hn hC hs).tie e)
end
end
section
open Go.RowKit
abbrev cW:ab→Value:=fun s=>vA (ab.cells s)
abbrev c5:aw→Value:=fun s=>vA (aw.cells s)
abbrev TM:=List (Int×ab)
abbrev FM:=List (aw×Int)
def eV {α:Type} (m:α) (b:Nat):List Value:=[Value.map (some b)]
def og (m:TM) (b:Nat):List aj:=[fJ iV b (bo cW m)]
def k8 (m:FM) (b:Nat):List aj:=[fJ c5 b (bo iV m)]
theorem r9 {M A:Type} {f:M→A→List aj}: ∀ (m:M) (a:A) (w:World),(∀ X∈f m a,X.holds w)→ ∀ X∈f m a,X.holds w:=fun _ _ _ h=>h
/-- untied -/
theorem G1 {E:dM} {ops:Array Oper} {Q:cd} {rest:List Oper} {D:List Deferred} {L:List (Nat×Value)} {C X C1:List aj} (i:Nat) (hn:decide (i::(List.range C.length).filter fun k=>k != i).Nodup=true) (hC:jC C (i::(List.range C.length).filter fun k=>k != i)=bf X::C1)
 (h:RJ E ops Q rest D L (X++C1)):RJ E ops Q rest D L C:=fun a w hf hs=>h a w hf (St.iy (St.jC _ hn hC hs))
end
section
def bT (ln:cj) (rd:eJ) (e:List Int) (tms:List TM):bp:=⟨rd.Start,rd.gk,e,tms,ln.dx,ln.er,(rd.ay.n:Int)⟩
def IK (o:Int×ab):List Value:=[.int .i64 o.1,.agg (ab.cells o.2).toArray]
structure BZ (w:bp):Prop where
 n:w.n≤6
 times:w.qJ.length=w.n
 now:0≤w.Start∧w.Start≤w.gk∧w.gk≤86400000
 least: ∀ x∈w.mN,1≤x∧x≤500000000
 IV: ∀ t∈w.qJ,∀ p∈t,(0≤p.1∧p.1≤10)∧0≤p.2.Lo∧p.2.Lo≤p.2.Hi∧p.2.Hi≤86400000
theorem BZ.opt {w:bp} (h:BZ w) {b:Nat} {o:Int×ab} (ho:o∈gh w b):(-1≤o.1∧o.1≤10)∧0≤o.2.Lo∧o.2.Lo≤o.2.Hi∧o.2.Hi≤86400000:=by
 unfold gh pq at ho
 rcases List.mem_cons.1 ho with rfl|ho
 ·have:=h.now; simp only; omega
 ·cases ht:w.qJ[b]? with
  |none=>simp [ht] at ho
  |some t=>
   rw [ht] at ho
   have:=h.IV t (aN ht) o ho
   omega
theorem BZ.bP {w:bp} (h:BZ w) (b:Nat):0≤bP w b∧bP w b≤500000000:=by
 unfold Go.Proofs.YtadjgjnicdcjbaaGreatDoor.bP
 cases ht:w.mN[b]? with
 |none=>simp
 |some x=>have:=h.least x (aN ht); simp only [Option.getD_some]; omega
theorem rN (s:Int):(0≤(eA s).right∧0≤(eA s).eP)∧(eA s).right+(eA s).eP=1:=by unfold eA; split<;>simp
theorem Fp {w:bp} (h:BZ w): ∀ (b:Nat) p,p∈fwd w b→(0≤p.2∧p.2≤86400000)∧(0≤p.1.right∧0≤p.1.eP)∧p.1.right+p.1.eP=(b:Int):=by
 intro b
 induction b with
 |zero=>
  intro p hp
  simp only [fwd,bD] at hp
  subst hp
  have:=h.now; simp only; omega
 |succ b ih=>
  intro q hq
  obtain ⟨p,hp,o,ho,e⟩:=ep.1 hq
  have A:=ih p hp
  have B:=h.opt ho
  have C:=h.bP b
  have D:=h.now
  have E:=rN o.1
  unfold iO at e
  split at e
  ·simp only [Option.some.injEq] at e
   subst e
   simp only [dm]
   omega
  ·cases e
theorem KL {w:bp} (h:BZ w): ∀ (k:Nat) p,p∈bwd w k→(-(500000000*(k:Int))≤p.2∧p.2≤86400000)∧(0≤p.1.right∧0≤p.1.eP)∧p.1.right+p.1.eP≤(k:Int):=by
 intro k
 induction k with
 |zero=>
  intro p hp
  simp only [bwd,bD] at hp
  subst hp
  have:=h.now; simp only; omega
 |succ k ih=>
  intro q hq
  simp only [bwd,cO,List.mem_flatMap,List.mem_filterMap] at hq
  rcases hq with rfl|⟨p,hp,o,ho,e⟩
  ·have:=h.now; simp only; omega
  ·have A:=ih p hp
   have B:=h.opt ho
   have C:=h.bP (w.n-(k+1))
   have D:=h.now
   have E:=rN o.1
   unfold lh at e
   split at e
   ·simp only [Option.some.injEq] at e
    subst e
    simp only [dm]
    omega
   ·cases e
theorem Dd {w:bp} (h:BZ w) {b:Nat} {p:aw×Int} (hp:p∈back w b):(-3000000000≤p.2∧p.2≤86400000)∧(0≤p.1.right∧0≤p.1.eP)∧p.1.right+p.1.eP≤6:=by
 have:=KL h _ _ hp
 have:=h.n
 omega
theorem sS {w:bp} {b:Nat} {t:TM} (ht:w.qJ[b]? =some t) {o:Int×ab}:o∈gh w b↔o=(-1,⟨w.Start,w.gk⟩)∨o∈t:=by
 unfold gh pq; rw [ht]; simp
theorem jK {K β:Type} [DecidableEq K] {l:List (K×β)} {x:K} {y:β} (hn:(l.map (·.1)).Nodup) (hm:(x,y)∈l) {o:K×β} (h:o∈l):o∈bR l x∨o=(x,y):=by
 by_cases e:o.1=x
 ·right
  obtain ⟨k,v⟩:=o
  simp only at e
  subst e
  have B:=(ia hn).1 h
  have A:=(ia hn).1 hm
  rw [B] at A
  cases A; rfl
 ·exact .inl (ir.2 ⟨h,e⟩)
theorem BR {K β:Type} [DecidableEq K] {t l ys:List (K×β)} {x:K} {y:β} (hn:(l.map (·.1)).Nodup) (hm:(x,y)∈l) (h: ∀ o∈t,o∈l∨o∈ys): ∀ o∈t,o∈bR l x∨o∈ys++[(x,y)]:=fun o ho=>by
 rcases h o ho with h|h
 ·rcases jK hn hm h with h|h
  ·exact .inl h
  ·exact .inr (by simp [h])
 ·exact .inr (by simp [h])
theorem jW {K β:Type} [DecidableEq K] {t l:List (K×β)} {x:K} (h: ∀ o∈l,o∈t): ∀ o∈bR l x,o∈t:=fun o ho=>h o (ir.1 ho).1
theorem Fu {w:bp} {m left:List (aw×Int)} (h: ∀ p∈m,p∈left∨lg w p.1=false) (h0:left=[]):iA w m=false:=by
 unfold iA
 rw [List.any_eq_false]
 intro p hp
 rcases h p hp with q|q
 ·rw [h0] at q; cases q
 ·simp [q]
theorem Gu {w:bp} {m:List (aw×Int)} {p:aw×Int} (hp:p∈m) (h:lg w p.1=true):iA w m=true:=List.any_eq_true.2 ⟨p,hp,h⟩
theorem DH {w:bp} {m left:List (aw×Int)} {t:aw} {v:Int} (hn:(left.map (·.1)).Nodup) (hm:(t,v)∈left) (h: ∀ p∈m,p∈left∨lg w p.1=false) (hf:lg w t=false): ∀ p∈m,p∈bR left t∨lg w p.1=false:=fun p hp=>by
 rcases h p hp with q|q
 ·rcases jK hn hm q with q|q
  ·exact .inl q
  ·right; rw [q]; exact hf
 ·exact .inr q
/-- what the maps of a watch are -/
structure sI (w:bp) (fs:List (List (aw×Int))):Prop where
 len:fs.length=w.n+1
 min: ∀ (b:Nat) m,fs[b]? =some m→pc m (fwd w b)
 keys: ∀ (b:Nat) m,fs[b]? =some m→(m.map (·.1)).Nodup
structure pT (w:bp) (bs:List (List (aw×Int))):Prop where
 len:bs.length=w.n+1
 max: ∀ (b:Nat) m,bs[b]? =some m→qR m (back w b)
 keys: ∀ (b:Nat) m,bs[b]? =some m→(m.map (·.1)).Nodup
theorem sI.mem {w:bp} {fs:List (List (aw×Int))} (h:sI w fs) {b:Nat} {m:List (aw×Int)} (hm:fs[b]? =some m) {p:aw×Int} (hp:p∈m):p∈fwd w b:=(h.min b m hm).1 _ _ ((dU (h.keys b m hm)).1 hp)
theorem pT.mem {w:bp} {fs:List (List (aw×Int))} (h:pT w fs) {b:Nat} {m:List (aw×Int)} (hm:fs[b]? =some m) {p:aw×Int} (hp:p∈m):p∈back w b:=(h.max b m hm).1 _ _ ((dU (h.keys b m hm)).1 hp)
theorem Cc {w:bp} {b:Nat} {t l ys:List (Int×ab)} (ht:w.qJ[b]? =some t) (h: ∀ o∈t,o∈l∨o∈ys) (h0:l=[]) (hs:(-1,(⟨w.Start,w.gk⟩:ab))∈ys): ∀ o∈gh w b,o∈ys:=fun o ho=>by
 rcases (sS ht).1 ho with rfl|ho
 ·exact hs
 ·rcases h o ho with q|q
  ·rw [h0] at q; cases q
  ·exact q
end
section
/-- by these options all is yielded -/
def jD (w:bp) (b:Nat) (mf mb:List (aw×Int)) (os ys:List (Int×ab)):Prop:= ∀ o∈os,∀ p∈mf,∀ u∈mb,∀ q,jY w b p u o=some q→q∈ys
def kH (w:bp) (b:Nat) (mf mb:List (aw×Int)) (o:Int×ab) (left:List (aw×Int)) (ys:List (Int×ab)):Prop:= ∀ p∈mf,p∈left∨ ∀ u∈mb,∀ q,jY w b p u o=some q→q∈ys
def ks (w:bp) (b:Nat) (mb:List (aw×Int)) (o:Int×ab) (p:aw×Int) (left:List (aw×Int)) (ys:List (Int×ab)):Prop:= ∀ u∈mb,u∈left∨ ∀ q,jY w b p u o=some q→q∈ys
variable {w:bp} {b:Nat} {mf mb left:List (aw×Int)} {o x:Int×ab} {os ys:List (Int×ab)} {p u:aw×Int}
theorem jD.nil:jD w b mf mb [] ys:=fun o ho=>by cases ho
theorem jD.app (h:jD w b mf mb os ys):jD w b mf mb os (ys++[x]):=fun o ho p hp u hu q e=>List.mem_append_left _ (h o ho p hp u hu q e)
theorem kH.app (h:kH w b mf mb o left ys):kH w b mf mb o left (ys++[x]):=fun p hp=>(h p hp).imp id fun h u hu q e=>List.mem_append_left _ (h u hu q e)
theorem kH.start:kH w b mf mb o mf ys:=fun p hp=> .inl hp
theorem ks.start:ks w b mb o p mb ys:=fun p hp=> .inl hp
theorem ks.skip {t:aw} {v:Int} (hn:(left.map (·.1)).Nodup) (hm:(t,v)∈left) (h:ks w b mb o p left ys) (he:jY w b p (t,v) o=none):ks w b mb o p (bR left t) ys:=fun u hu=>by
 rcases h u hu with q|q
 ·rcases jK hn hm q with q|q
  ·exact .inl q
  ·right; intro z hz; rw [q,he] at hz; cases hz
 ·exact .inr q
theorem ks.NB {t:aw} {v:Int} (hn:(left.map (·.1)).Nodup) (hm:(t,v)∈left) (h:ks w b mb o p left ys) (he:jY w b p (t,v) o=some x):ks w b mb o p (bR left t) (ys++[x]):=fun u hu=>by
 rcases h u hu with q|q
 ·rcases jK hn hm q with q|q
  ·exact .inl q
  ·right; intro z hz; rw [q,he] at hz; cases hz; simp
 ·right; intro z hz; exact List.mem_append_left _ (q z hz)
theorem kH.next {t:aw} {v:Int} {l2:List (aw×Int)} (hn:(left.map (·.1)).Nodup) (hm:(t,v)∈left) (h:kH w b mf mb o left ys) (hq:ks w b mb o (t,v) l2 ys) (h0:l2=[]):kH w b mf mb o (bR left t) ys:=fun p hp=>by
 rcases h p hp with q|q
 ·rcases jK hn hm q with q|q
  ·exact .inl q
  ·right; intro u hu z hz; subst q
   rcases hq u hu with q|q
   ·rw [h0] at q; cases q
   ·exact q z hz
 ·exact .inr q
theorem jD.next (h:jD w b mf mb os ys) (hp:kH w b mf mb o left ys) (h0:left=[]):jD w b mf mb (os++[o]) ys:=fun o' ho p hp' u hu q e=>by
 rcases List.mem_append.1 ho with ho|ho
 ·exact h o' ho p hp' u hu q e
 ·simp only [bD] at ho; subst ho
  rcases hp p hp' with z|z
  ·rw [h0] at z; cases z
  ·exact z u hu q e
theorem jD.fin (h:jD w b mf mb os ys) (ho: ∀ o∈gh w b,o∈os): ∀ q∈mS w b mf mb,q∈ys:=fun q hq=>by
 obtain ⟨o,A,p,B,u,C,e⟩:=fB.1 hq
 exact h o (ho o A) p B u C q e
theorem Cw (h:max (p.2+bP w b) o.2.Lo≤min u.2 o.2.Hi) (h2:lg w (dm (dm p.1 u.1) (eA o.1))=true):jY w b p u o=some (o.1,⟨max (p.2+bP w b) o.2.Lo,min u.2 o.2.Hi⟩):=by
 unfold jY gW s3; rw [if_pos ⟨h,h2⟩]
theorem D1 (h: ¬ max (p.2+bP w b) o.2.Lo≤min u.2 o.2.Hi):jY w b p u o=none:=by
 unfold jY gW; rw [if_neg (fun q=>h q.1)]
theorem BQ (h2:lg w (dm (dm p.1 u.1) (eA o.1))=false):jY w b p u o=none:=by
 unfold jY s3; rw [if_neg (fun q=>by rw [h2] at q; exact absurd q.2 dc)]
theorem kS {v:Int} (h:w.mN[b]? =some v):bP w b=v:=by unfold bP; rw [h]; rfl
theorem wR {t q:aw} {v z y:Int} (hy:w.mN[b]? =some y) (h:max (v+y) o.2.Lo≤min z o.2.Hi) (h2:lg w (dm (dm t q) (eA o.1))=true):jY w b (t,v) (q,z) o=some (o.1,⟨max (v+y) o.2.Lo,min z o.2.Hi⟩):=by
 have e:=kS hy
 subst e
 exact Cw h h2
theorem B5 {t q:aw} {v z y:Int} (hy:w.mN[b]? =some y) (h: ¬ max (v+y) o.2.Lo≤min z o.2.Hi):jY w b (t,v) (q,z) o=none:=by
 have e:=kS hy
 subst e
 exact D1 h
theorem lv {m:List (aw×Int)} {k:aw} {y:Int} (h:(m.map (·.1)).Nodup):((dB m k y).map (·.1)).Nodup:=by
 unfold dB
 by_cases hx:(m.lookup k).isSome
 ·rw [if_pos hx,List.map_map]
  have e:m.map ((fun p=>p.1)∘fun p=>if p.1=k then (k,y) else p)=m.map (·.1):=by
   apply List.map_congr_left
   intro p _
   simp only [Function.comp]
   split
   ·rename_i e; exact e.symm
   ·rfl
  rw [e]; exact h
 ·rw [if_neg hx,List.map_append,List.nodup_append]
  refine ⟨h,sm,?_⟩
  intro a ha c hc
  simp only [List.map_cons,List.map_nil,bD] at hc
  rw [hc]
  obtain ⟨p,hp,rfl⟩:=List.mem_map.1 ha
  have hn:m.lookup k=none:=by cases h0:m.lookup k with
   |none=>rfl
   |some v=>exact absurd (by rw [h0]; rfl) hx
  exact gS.1 hn p hp
theorem xP {m:List (aw×Int)} {q:aw×Int} (h:(m.map (·.1)).Nodup):((mo m q).map (·.1)).Nodup:=by
 unfold mo; split
 ·exact lv h
 ·split
  ·exact lv h
  ·exact h
theorem wq {m:List (aw×Int)} {q:aw×Int} (h:(m.map (·.1)).Nodup):((lT m q).map (·.1)).Nodup:=by
 unfold lT; split
 ·exact lv h
 ·split
  ·exact lv h
  ·exact h
/-- a map of the first times, on its way -/
structure rW (w:bp) (b:Nat) (m:List (aw×Int)):Prop where
 snd:qN m (fwd w (b+1))
 keys:(m.map (·.1)).Nodup
structure q_ (w:bp) (b:Nat) (m:List (aw×Int)):Prop where
 snd:qN m (back w b)
 keys:(m.map (·.1)).Nodup
 zero: ∃ v,m.lookup ⟨0,0⟩=some v∧w.gk≤v
theorem Df (h:max (p.2+bP w b) o.2.Lo≤min o.2.Hi w.gk):iO w b p o=some (dm p.1 (eA o.1),max (p.2+bP w b) o.2.Lo):=by unfold iO; rw [if_pos h]
theorem Hf (h: ¬ max (p.2+bP w b) o.2.Lo≤min o.2.Hi w.gk):iO w b p o=none:=by unfold iO; rw [if_neg h]
theorem Eo (h:o.2.Lo≤min p.2 o.2.Hi):lh w b p o=some (dm p.1 (eA o.1),min p.2 o.2.Hi-bP w b):=by unfold lh; rw [if_pos h]
theorem GD (h: ¬ o.2.Lo≤min p.2 o.2.Hi):lh w b p o=none:=by unfold lh; rw [if_neg h]
theorem rW.start:rW w b []:=⟨fun t v h=>by simp at h,List.nodup_nil⟩
theorem rW.add {m:List (aw×Int)} {q:aw×Int} (h:rW w b m) (hp:p∈fwd w b) (ho:o∈gh w b) (he:iO w b p o=some q):rW w b (mo m q):=⟨Be h.snd (ep.2 ⟨p,hp,o,ho,he⟩),xP h.keys⟩
theorem q_.start (hb:b<w.n):q_ w b [(⟨0,0⟩,w.gk)]:=⟨fun t v h=>by
 obtain ⟨rfl,rfl⟩:=mi.1 h
 exact (lX hb).2 (.inl U),sm,w.gk,mi.2 ⟨U,U⟩,Int.le_refl _⟩
theorem q_.add {m:List (aw×Int)} {q:aw×Int} (hb:b<w.n) (h:q_ w b m) (hp:p∈back w (b+1)) (ho:o∈gh w b) (he:lh w b p o=some q):q_ w b (lT m q):=⟨Bz h.snd ((lX hb).2 (.inr ⟨p,hp,o,ho,he⟩)),wq h.keys,by
 obtain ⟨v,A,C⟩:=h.zero
 obtain ⟨v',B,D⟩:=nC (q:=q) _ _ A
 exact ⟨v',B,om⟩⟩
theorem gH.none_ {m:List (aw×Int)} (h:gH w b m p os) (he:iO w b p o=none):gH w b m p (os++[o]):=h.add (sy.refl _) fun q hq=>by rw [he] at hq; cases hq
theorem gH.EB {m:List (aw×Int)} {q:aw×Int} (h:gH w b m p os) (he:iO w b p o=some q):gH w b (mo m q) p (os++[o]):=h.add qH fun q' hq=>by rw [he] at hq; cases hq; exact Bu
theorem gu.none_ {m:List (aw×Int)} (h:gu w b m p os) (he:lh w b p o=none):gu w b m p (os++[o]):=h.add (rY.refl _) fun q hq=>by rw [he] at hq; cases hq
theorem gu.EB {m:List (aw×Int)} {q:aw×Int} (h:gu w b m p os) (he:lh w b p o=some q):gu w b (lT m q) p (os++[o]):=h.add nC fun q' hq=>by rw [he] at hq; cases hq; exact Bs
/-- what of a map of the beam before is used already -/
def ij (w:bp) (b:Nat) (mb m left:List (aw×Int)):Prop:= ∀ p∈mb,p∈left∨gH w b m p (gh w b)
def gZ (w:bp) (b:Nat) (mb m left:List (aw×Int)):Prop:= ∀ p∈mb,p∈left∨gu w b m p (gh w b)
theorem ij.start {m:List (aw×Int)}:ij w b mb m mb:=fun p hp=> .inl hp
theorem gZ.start {m:List (aw×Int)}:gZ w b mb m mb:=fun p hp=> .inl hp
theorem ij.lower {m m':List (aw×Int)} (h:ij w b mb m left) (hl:sy m m'):ij w b mb m' left:=fun p hp=>(h p hp).imp id fun h=>h.lower hl
theorem gZ.upper {m m':List (aw×Int)} (h:gZ w b mb m left) (hl:rY m m'):gZ w b mb m' left:=fun p hp=>(h p hp).imp id fun h=>h.upper hl
theorem ij.next {m:List (aw×Int)} {t:aw} {v:Int} (hn:(left.map (·.1)).Nodup) (hm:(t,v)∈left) (h:ij w b mb m left) (hd:gH w b m (t,v) os) (ho: ∀ o∈gh w b,o∈os):ij w b mb m (bR left t):=fun p hp=>by
 rcases h p hp with q|q
 ·rcases jK hn hm q with q|q
  ·exact .inl q
  ·right; rw [q]; exact hd.sub ho
 ·exact .inr q
theorem gZ.next {m:List (aw×Int)} {t:aw} {v:Int} (hn:(left.map (·.1)).Nodup) (hm:(t,v)∈left) (h:gZ w b mb m left) (hd:gu w b m (t,v) os) (ho: ∀ o∈gh w b,o∈os):gZ w b mb m (bR left t):=fun p hp=>by
 rcases h p hp with q|q
 ·rcases jK hn hm q with q|q
  ·exact .inl q
  ·right; rw [q]; exact hd.sub ho
 ·exact .inr q
theorem ij.fin {m:List (aw×Int)} (h:ij w b mb m left) (h0:left=[]): ∀ p∈mb,gH w b m p (gh w b):=fun p hp=>by
 rcases h p hp with q|q
 ·rw [h0] at q; cases q
 ·exact q
theorem gZ.fin {m:List (aw×Int)} (h:gZ w b mb m left) (h0:left=[]): ∀ p∈mb,gu w b m p (gh w b):=fun p hp=>by
 rcases h p hp with q|q
 ·rw [h0] at q; cases q
 ·exact q
end
section
def ky (a b:ab):ab:=⟨a.Lo+b.Lo,a.Hi+b.Hi⟩
def cZ:ab:=⟨0,0⟩
def iJ (a:ab) (l:List ab):ab:=l.foldl ky a
def ld (z:ab):Prop:=(-1000000000≤z.Lo∧z.Lo≤1000000000)∧ -1000000000≤z.Hi∧z.Hi≤1000000000
theorem uq {a:ab} {l:List ab} {i:Nat} {z:ab} (h:l[i]? =some z):iJ a (l.take (i+1))=ky (iJ a (l.take i)) z:=by
 rw [List.take_add_one,h]; unfold iJ; simp
theorem JJ {a:ab} {l:List ab} (ha:ld a) (hl: ∀ z∈l,ld z): ∀ i:Nat,(-1000000000-1000000000*(i:Int)≤(iJ a (l.take i)).Lo∧(iJ a (l.take i)).Lo≤1000000000+1000000000*(i:Int))∧ -1000000000-1000000000*(i:Int)≤(iJ a (l.take i)).Hi∧(iJ a (l.take i)).Hi≤1000000000+1000000000*(i:Int):=by
 intro i
 induction i with
 |zero=>unfold ld at ha; simp [iJ]; omega
 |succ i ih=>
  cases h:l[i]? with
  |none=>rw [List.take_add_one,h]; simp only [Option.toList_none,List.append_nil]; omega
  |some z=>
   have hz:=hl z (aN h)
   unfold ld at hz
   rw [uq h]
   simp only [ky]
   omega
theorem C8 {a:ab} {l:List ab} {i:Nat} (h:l.length≤i):iJ a (l.take i)=iJ a l:=by rw [List.take_of_length_le h]
theorem kR {a z:ab}:vA (ab.cells (iJ a [z]))=vA (ab.cells (ky a z)):=rfl
theorem wB {a y z:ab}:vA (ab.cells (iJ a [y,z]))=vA (ab.cells (ky (ky a y) z)):=rfl
/-- how long the run is from one mark, over so many stretches; by how much it falls -/
def eO (ts:List ao) (f:Nat):Nat→ab
 |0=>cZ
 |k+1=>match ts[f+k]? with
  |some x=>ky (eO ts f k) x.l3
  |none=>eO ts f k
def fq (ts:List ao) (f:Nat):Nat→ab
 |0=>cZ
 |k+1=>match ts[f+k]? with
  |some x=>ky (fq ts f k) x.nJ
  |none=>fq ts f k
theorem oV {ts:List ao} {f k:Nat} {x:ao} (h:ts[f+k]? =some x):eO ts f (k+1)=ky (eO ts f k) x.l3:=by simp [eO,h]
theorem oZ {ts:List ao} {f k:Nat} {x:ao} (h:ts[f+k]? =some x):fq ts f (k+1)=ky (fq ts f k) x.nJ:=by simp [fq,h]
theorem uY {ts:List ao} (ht: ∀ x∈ts,cn x) (f:Nat): ∀ k:Nat,(0≤(eO ts f k).Lo∧(eO ts f k).Lo≤(eO ts f k).Hi)∧(eO ts f k).Hi≤30000*(k:Int):=by
 intro k
 induction k with
 |zero=>simp [eO,cZ]
 |succ k ih=>
  simp only [eO]
  cases h:ts[f+k]? with
  |none=>simp only; omega
  |some x=>
   have hx:=(ht x (aN h)).2.1
   simp only [gn] at hx
   simp only [ky]
   omega
theorem GZ {ts:List ao} (ht: ∀ x∈ts,cn x) (f:Nat): ∀ k:Nat,(0≤(fq ts f k).Lo∧(fq ts f k).Lo≤(fq ts f k).Hi)∧(fq ts f k).Hi≤5000*(k:Int):=by
 intro k
 induction k with
 |zero=>simp [fq,cZ]
 |succ k ih=>
  simp only [fq]
  cases h:ts[f+k]? with
  |none=>simp only; omega
  |some x=>
   have hx:=(ht x (aN h)).2.2.1
   simp only [gn] at hx
   simp only [ky]
   omega
theorem nI {ts:List ao} (ht: ∀ x∈ts,cn x) {f k:Nat} (hk:k≤13):ld (eO ts f k):=by
 have:=uY ht f k; unfold ld; omega
theorem rZ {ts:List ao} (ht: ∀ x∈ts,cn x) {f k:Nat} (hk:k≤13):ld (fq ts f k):=by
 have:=GZ ht f k; unfold ld; omega
theorem qh {x:ao} (h:cn x):ld x.l3:=by have:=h.2.1; simp only [gn] at this; unfold ld; omega
theorem qk {x:ao} (h:cn x):ld x.nJ:=by have:=h.2.2.1; simp only [gn] at this; unfold ld; omega
theorem tF {ts:List ao} (h: ¬ (if cv ts=true then (0:Int) else 10)=0):cv ts=false∧(if cv ts=true then (0:Int) else 10)=10:=by
 cases ht:cv ts with
 |true=>rw [ht] at h; exact absurd rfl h
 |false=>exact ⟨rfl,rfl⟩
theorem yp {ts:List ao} (h:(if cv ts=true then (0:Int) else 10)=0):cv ts=true:=by
 cases ht:cv ts with
 |true=>rfl
 |false=>rw [ht] at h; exact absurd h dc
/-- what the iterator of marks yields -/
def o_ (ts:List ao) (f:Nat):List (List Value):=(List.range (ts.length-f+1)).map fun (k:Nat)=>[.agg (eO ts f k).cells.toArray,.agg (fq ts f k).cells.toArray]
theorem pI {ts:List ao} {f:Nat}:(o_ ts f).length=ts.length-f+1:=by simp [o_]
theorem tH {ts:List ao} {f k:Nat} (h:k≤ts.length-f):(o_ ts f)[k]? =some [.agg (eO ts f k).cells.toArray,.agg (fq ts f k).cells.toArray]:=by
 simp [o_,List.getElem?_range (show k<ts.length-f+1 by omega)]
theorem BL {ts:List ao} {f k:Nat} {x:List Value} (h:(o_ ts f)[k]? =some x):k≤ts.length-f∧x=[.agg (eO ts f k).cells.toArray,.agg (fq ts f k).cells.toArray]:=by
 have hi:k<ts.length-f+1:=by
  have:=(List.getElem?_eq_some_iff.1 h).1
  simpa [o_] using this
 rw [tH om] at h
 exact ⟨om,(Option.some.inj h).symm⟩
theorem yU {ts:List ao} {f:Nat}: ∀ x∈o_ ts f,x.length=2:=fun x hx=>by
 obtain ⟨k,_,rfl⟩:=List.mem_map.1 hx; rfl
end
section
def eI (ts:List ao) (s:cx):Prop:=(0≤s.bB∧s.bB<(ts.length:Int))∧ ∃ x,ts[s.bB.toNat]? =some x∧gn s.o7 0 (x.l3.Lo-1)
noncomputable instance (ts:List ao) (s:cx):Decidable (eI ts s):=Classical.propDecidable _
theorem Dq {ts:List ao} {s:cx} {x:ao} (h:0≤s.bB∧s.bB<(ts.length:Int)) (hx:ts[s.bB.toNat]? =some x):eI ts s↔gn s.o7 0 (x.l3.Lo-1):=
 ⟨fun A=>by obtain ⟨y,hy,B⟩:=A.2; rw [hx] at hy; cases hy; exact B,fun A=>⟨h,x,hx,A⟩⟩
theorem Ec {ts:List ao} {s:cx} (h: ¬ (0≤s.bB∧s.bB<(ts.length:Int))): ¬ eI ts s:=fun A=>h A.1
theorem vD {ts:List ao} {s:cx} (ht: ∀ x∈ts,cn x) (h:eI ts s):(0≤s.o7.Lo∧s.o7.Lo≤s.o7.Hi)∧s.o7.Hi≤30000:=by
 obtain ⟨x,hx,A⟩:=h.2
 have:=(ht x (aN hx)).2.1
 simp only [gn] at A this
 omega
theorem zy {ts:List ao} {a:cx}:vB (decide (∀ s∈[a],eI ts s))=vB (decide (eI ts a)):=congrArg _ (decide_eq_decide.2 sm)
theorem yI {ts:List ao} {a b:cx}:vB (decide (∀ s∈[a,b],eI ts s))=vB (decide (eI ts a∧eI ts b)):=congrArg _ (decide_eq_decide.2 sm)
def nQ (z:ab):ab:=⟨-z.Hi,-z.Lo⟩
def Gj (ts:List ao) (s:cx):ab:=ky (eO ts 0 s.bB.toNat) s.o7
noncomputable def Bf (ts:List ao) (s:cx):Int:=if cv ts=true then (if eI ts s then 0 else 12) else 10
noncomputable def Kz (ts:List ao) (s:cx):ab:=if Bf ts s=0 then Gj ts s else cZ
theorem Jj {ts:List ao} {s:cx} (h:cv ts=false):Bf ts s=10∧Kz ts s=cZ:=by
 have e:Bf ts s=10:=by unfold Bf; rw [h]; rfl
 exact ⟨e,by unfold Kz; rw [e]; rfl⟩
theorem I8 {ts:List ao} {s:cx} (h:cv ts=true) (h2: ¬ eI ts s):Bf ts s=12∧Kz ts s=cZ:=by
 have e:Bf ts s=12:=by unfold Bf; rw [if_pos h,if_neg h2]
 exact ⟨e,by unfold Kz; rw [e]; rfl⟩
theorem ID {ts:List ao} {s:cx} (h:cv ts=true) (h2:eI ts s):Bf ts s=0∧Kz ts s=Gj ts s:=by
 have e:Bf ts s=0:=by unfold Bf; rw [if_pos h,if_pos h2]
 exact ⟨e,if_pos e⟩
theorem AS {ts:List ao} {s:cx} (h:cv ts=true):Bf ts s=0↔eI ts s:=by
 unfold Bf; rw [if_pos h]; split<;>simp [*]
def vG (ts:List ao) (a b:cx):ab:=eO ts (min a.bB b.bB).toNat (max a.bB b.bB-min a.bB b.bB).toNat
def kG (ts:List ao) (a b:cx):ab:=ky (ky (if b.bB<a.bB then nQ (vG ts a b) else vG ts a b) b.o7) (nQ a.o7)
noncomputable def kB (ts:List ao) (a b:cx):Int:=if cv ts=true then (if eI ts a∧eI ts b then 0 else 12) else 10
noncomputable def pV (ts:List ao) (a b:cx):ab:=if kB ts a b=0 then kG ts a b else cZ
theorem CI {ts:List ao} {a b:cx} (h:cv ts=false):kB ts a b=10∧pV ts a b=cZ:=by
 have e:kB ts a b=10:=by unfold kB; rw [h]; rfl
 exact ⟨e,by unfold pV; rw [e]; rfl⟩
theorem BG {ts:List ao} {a b:cx} (h:cv ts=true) (h2: ¬ (eI ts a∧eI ts b)):kB ts a b=12∧pV ts a b=cZ:=by
 have e:kB ts a b=12:=by unfold kB; rw [if_pos h,if_neg h2]
 exact ⟨e,by unfold pV; rw [e]; rfl⟩
theorem sf {ts:List ao} {a b:cx} (h:cv ts=true) (h2:eI ts a∧eI ts b):kB ts a b=0∧pV ts a b=kG ts a b:=by
 have e:kB ts a b=0:=by unfold kB; rw [if_pos h,if_pos h2]
 exact ⟨e,if_pos e⟩
theorem vi {z:ab} (h:ld z):ld (nQ z):=by unfold ld nQ at *; simp only; omega
theorem zk {ts:List ao} {s:cx} (ht: ∀ x∈ts,cn x) (h:eI ts s):ld s.o7:=by have:=vD ht h; unfold ld; omega
theorem I3 {ts:List ao} {a b:cx} (ht: ∀ x∈ts,cn x) (hl:ts.length≤12) (ha:eI ts a) (hb:eI ts b):(0≤(vG ts a b).Lo∧(vG ts a b).Lo≤(vG ts a b).Hi)∧(vG ts a b).Hi≤360000:=by
 have h:=uY ht (min a.bB b.bB).toNat (max a.bB b.bB-min a.bB b.bB).toNat
 have A:=ha.1
 have B:=hb.1
 unfold vG
 omega
theorem DG {ts:List ao} {a b:cx} (ht: ∀ x∈ts,cn x) (hl:ts.length≤12) (ha:eI ts a) (hb:eI ts b):(-400000≤(kG ts a b).Lo∧(kG ts a b).Lo≤(kG ts a b).Hi)∧(kG ts a b).Hi≤400000:=by
 have h:=I3 ht hl ha hb
 have A:=vD ht ha
 have B:=vD ht hb
 unfold kG ky nQ
 split<;>simp only <;>omega
theorem LY {ts:List ao} {s:cx} (ht: ∀ x∈ts,cn x) (hl:ts.length≤12) (h:eI ts s):(0≤(Gj ts s).Lo∧(Gj ts s).Lo≤(Gj ts s).Hi)∧(Gj ts s).Hi≤400000:=by
 have A:=uY ht 0 s.bB.toNat
 have B:=vD ht h
 have C:=h.1
 unfold Gj ky
 simp only; omega
theorem CN {α:Type} {p:Nat→α→Bool} {l:List α}:((l.zipIdx.filter fun q=>p q.2 q.1).map fun q=>(q.2:Int))=[]↔ ∀ (i:Nat) x,l[i]? =some x→p i x=false:=by
 rw [List.map_eq_nil_iff,List.filter_eq_nil_iff]
 constructor
 ·intro h i x hx
  have:=h (x,i) (by rw [List.mem_zipIdx_iff_getElem?]; simpa using hx)
  simpa using this
 ·rintro h ⟨x,i⟩ hm
  rw [List.mem_zipIdx_iff_getElem?] at hm
  simpa using h i x (by simpa using hm)
/-- the places of a list at which something is so -/
def o1 {α:Type} (p:Nat→α→Bool) (l:List α) (n:Nat):List Int:=(((l.take n).zipIdx.filter fun q=>p q.2 q.1).map fun q=>(q.2:Int))
theorem F5 {α:Type} {p:Nat→α→Bool} {l:List α} {i:Nat} {x:α} (hx:l[i]? =some x) (h:p i x=true):o1 p l (i+1)=o1 p l i++[(i:Int)]:=by
 have hi:=(List.getElem?_eq_some_iff.1 hx).1
 unfold o1
 rw [List.take_add_one,hx,List.zipIdx_append,List.filter_append,List.map_append]
 simp [Nat.min_eq_left (Nat.le_of_lt hi),h]
theorem HP {α:Type} {p:Nat→α→Bool} {l:List α} {i:Nat} {x:α} (hx:l[i]? =some x) (h:p i x=false):o1 p l (i+1)=o1 p l i:=by
 have hi:=(List.getElem?_eq_some_iff.1 hx).1
 unfold o1
 rw [List.take_add_one,hx,List.zipIdx_append,List.filter_append,List.map_append]
 simp [Nat.min_eq_left (Nat.le_of_lt hi),h]
theorem xB {α:Type} {p:Nat→α→Bool} {l:List α} {n:Nat}:(o1 p l n).length≤n:=by
 unfold o1
 rw [List.length_map]
 refine Nat.le_trans (List.length_filter_le _ _) ?_
 rw [List.length_zipIdx,List.length_take]; omega
def Fv {α:Type} (p:Nat→α→Bool) (l:List α):List Int:=o1 p l l.length
theorem Ik {α:Type} {p:Nat→α→Bool} {l:List α} {n:Nat} (h:n=l.length):o1 p l n=Fv p l:=by rw [h]; rfl
theorem Bv {α:Type} {p:Nat→α→Bool} {l:List α}:(Fv p l).length=0↔ ∀ (i:Nat) x,l[i]? =some x→p i x=false:=by
 unfold Fv o1
 rw [List.length_eq_zero_iff,List.take_length]
 exact CN
end
section
theorem t_ (p:Int→Bool) (n:Nat): ∃ r:Int,r=((List.range n).findIdx fun (k:Nat)=>p (k:Int):Nat):=⟨_,rfl⟩
noncomputable def fW (p:Int→Bool) (n:Nat):Int:=Classical.choose (t_ p n)
theorem oH (p:Int→Bool) (n:Nat):fW p n=((List.range n).findIdx fun (k:Nat)=>p (k:Int):Nat):=Classical.choose_spec (t_ p n)
theorem kW {p:Int→Bool} {n:Nat}:0≤fW p n∧fW p n≤n:=by
 rw [oH]
 have:=List.findIdx_le_length (xs:=List.range n) (p:=fun (k:Nat)=>p (k:Int))
 rw [List.length_range] at this
 omega
theorem qq {p:Int→Bool} {n:Nat} {x:Int} (h0:0≤x) (h:x<fW p n):p x=false:=by
 have hb:=kW (p:=p) (n:=n)
 rw [oH] at h
 have B:x.toNat<(List.range n).findIdx fun (k:Nat)=>p (k:Int):=by omega
 have A:=List.not_of_lt_findIdx B
 simp only [List.getElem_range] at A
 rw [show (x.toNat:Int)=x by omega] at A
 simpa using A
theorem tR {p:Int→Bool} {n:Nat} (h:fW p n<n):p (fW p n)=true:=by
 rw [oH] at h ⊢
 have A:((List.range n).findIdx fun (k:Nat)=>p (k:Int))<(List.range n).length:=by rw [List.length_range]; omega
 have:=List.findIdx_getElem (w:=A)
 simpa using this
theorem uh {p:Int→Bool} {n:Nat} {r:Int} (h0:0≤r) (hn:r<n) (hr:p r=true) (hb: ∀ x,0≤x→x<r→p x=false):fW p n=r:=by
 have A:=kW (p:=p) (n:=n)
 rcases Int.lt_trichotomy (fW p n) r with h|h|h
 ·have:=hb _ A.1 h
  have e:=tR (p:=p) (n:=n) om
  rw [e] at this; cases this
 ·exact h
 ·have:=qq h0 h
  rw [hr] at this; cases this
end
section
def uP (n by_:Int):Int:=(n+by_-1)/by_
/-- by how much a sync may be off -/
def vK (c:aA) (at_:Int) (x:cP):Int:=uP (c.eL*max (at_-x.At) (x.At-at_)) 1000000
def kg (c:aA) (at_:Int) (s:ab) (x:cP):ab:=⟨max s.Lo (x.ff.Lo-vK c at_ x),min s.Hi (x.ff.Hi+vK c at_ x)⟩
def eY (c:aA) (at_:Int) (k:Nat):ab:=(c.br.take k).foldl (kg c at_) ⟨-1099511627776,1099511627776⟩
def gP (c:aA) (at_:Int):ab:=c.br.foldl (kg c at_) ⟨-1099511627776,1099511627776⟩
theorem jS {c:aA} {at_:Int} {k:Nat} {x:cP} (h:c.br[k]? =some x):eY c at_ (k+1)=kg c at_ (eY c at_ k) x:=by
 unfold eY; rw [List.take_add_one,h,List.foldl_append]; rfl
theorem mJ {c:aA} {at_:Int} {k:Nat} (h:c.br.length≤k):eY c at_ k=gP c at_:=by unfold eY gP; rw [List.take_of_length_le h]
def jh (c:aA) (i:Nat):Int:=if i=0 then-1 else ((c.br[i-1]?).map (·.At)).getD 0
def fZ (c:aA) (i:Nat) (x:cP):Prop:=(jh c i<x.At∧x.At≤86400000)∧ -10000≤x.ff.Lo∧x.ff.Lo≤x.ff.Hi∧x.ff.Hi≤10000
def ve (c:aA) (x o:cP):Prop:=x.ff.Lo-o.ff.Hi≤uP (c.eL*(x.At-o.At)) 1000000∧o.ff.Lo-x.ff.Hi≤uP (c.eL*(x.At-o.At)) 1000000
structure eU (c:aA):Prop where
 tp:0≤c.eL∧c.eL≤1000
 len:1≤c.br.length∧c.br.length≤5
 sync: ∀ (i:Nat) x,c.br[i]? =some x→fZ c i x
 pair: ∀ (i k:Nat) x o,c.br[i]? =some x→k<i→c.br[k]? =some o→ve c x o
noncomputable instance (c:aA):Decidable (eU c):=Classical.propDecidable _
theorem lq {c:aA} {i:Nat} (h:i=0):jh c i= -1:=if_pos h
theorem lE {c:aA} {i:Nat} {y:cP} (hy:c.br[i]? =some y):jh c (i+1)=y.At:=by unfold jh; rw [if_neg om,Nat.add_sub_cancel,hy]; rfl
/-- the times of the syncs -/
theorem G5 {c:aA} (h: ∀ (i:Nat) x,c.br[i]? =some x→fZ c i x): ∀ (i:Nat) x,c.br[i]? =some x→0≤x.At∧ ∀ (k:Nat) o,k<i→c.br[k]? =some o→o.At<x.At:=by
 intro i
 induction i with
 |zero=>
  intro x hx
  have:=(h 0 x hx).1.1
  rw [lq rfl] at this
  exact ⟨om,fun k o hk=>by omega⟩
 |succ i ih=>
  intro x hx
  have hi:=(List.getElem?_eq_some_iff.1 hx).1
  have hy:c.br[i]? =some (c.br[i]'om):=eC om
  have B:=ih _ hy
  have A:=(h (i+1) x hx).1.1
  rw [lE hy] at A
  refine ⟨om,fun k o hk ho=>?_⟩
  by_cases e:k=i
  ·subst e; rw [hy] at ho; cases ho; exact A
  ·have:=B.2 k o om ho; omega
theorem eU.vj {c:aA} (h:eU c) {i:Nat} {x:cP} (hx:c.br[i]? =some x):(0≤x.At∧x.At≤86400000)∧ -10000≤x.ff.Lo∧x.ff.Lo≤x.ff.Hi∧x.ff.Hi≤10000:=by
 have A:=h.sync i x hx
 exact ⟨⟨(G5 h.sync i x hx).1,A.1.2⟩,A.2⟩
theorem AA {d a b:Int} (hd:0≤d∧d≤1000) (ha:0≤a∧a≤90000000) (hb:0≤b∧b≤90000000):0≤d*max (a-b) (b-a)∧d*max (a-b) (b-a)≤90000000000:=by
 have:=LG (a:=d) (b:=max (a-b) (b-a)) (A:=1000) (B:=90000000) hd.1 hd.2 om om
 omega
theorem vd {c:aA} {at_:Int} {x:cP} (hd:0≤c.eL∧c.eL≤1000) (ha:0≤at_∧at_≤90000000) (hx:0≤x.At∧x.At≤86400000):0≤vK c at_ x∧vK c at_ x≤90001:=by
 have h:=AA hd ha (show 0≤x.At∧x.At≤90000000 by omega)
 unfold vK uP; omega
theorem wX {c:aA} {at_:Int} (h:eU c) (ha:0≤at_∧at_≤90000000): ∀ k:Nat,(-1099511627776≤(eY c at_ k).Lo∧(eY c at_ k).Lo≤10000)∧ -10000≤(eY c at_ k).Hi∧(eY c at_ k).Hi≤1099511627776:=by
 intro k
 induction k with
 |zero=>simp [eY]
 |succ k ih=>
  cases hx:c.br[k]? with
  |none=>unfold eY at ih ⊢; rw [List.take_add_one,hx]; simpa using ih
  |some x=>
   have hb:=h.vj hx
   have ho:=vd h.tp ha hb.1
   rw [jS hx]
   unfold kg
   simp only
   omega
theorem si {c:aA} {at_:Int} (h:eU c) (ha:0≤at_∧at_≤90000000):(-110000≤(gP c at_).Lo∧(gP c at_).Lo≤10000)∧ -10000≤(gP c at_).Hi∧(gP c at_).Hi≤110000:=by
 obtain ⟨n,hn⟩: ∃ n,c.br.length=n+1:=⟨c.br.length-1,by have:=h.len; omega⟩
 have hx:c.br[n]? =some (c.br[n]'om):=eC om
 have hb:=h.vj hx
 have ho:=vd h.tp ha hb.1
 have A:=wX h ha n
 rw [← mJ (k:=n+1) om,jS hx]
 unfold kg
 simp only
 omega
/-- as time goes on, time and what a clock may be ahead, together, never go back -/
theorem ze {c:aA} (h:eU c) {a b:Int} (ha:0≤a) (hab:a≤b) (hb:b≤90000000): ∀ k:Nat,(a+(eY c a k).Lo≤b+(eY c b k).Lo∨(eY c a k).Lo= -1099511627776)∧a+(eY c a k).Hi≤b+(eY c b k).Hi:=by
 have step: ∀ (x:cP),0≤x.At∧x.At≤86400000→ ∀ a b:Int,0≤a→a≤b→b≤90000000→vK c a x≤vK c b x+(b-a)∧vK c b x≤vK c a x+(b-a):=by
  intro x hx a b ha hab hb
  have hd:=h.tp
  have e: ∀ u v:Int,u≤v+1000000*(b-a)→uP u 1000000≤uP v 1000000+(b-a):=by intro u v C; unfold uP; omega
  have m: ∀ p q:Int,p≤q+(b-a)→c.eL*p≤c.eL*q+1000000*(b-a):=by
   intro p q A
   have D:c.eL*p≤c.eL*(q+(b-a)):=Int.mul_le_mul_of_nonneg_left A hd.1
   have E:c.eL*(q+(b-a))=c.eL*q+c.eL*(b-a):=Int.mul_add _ _ _
   have F:c.eL*(b-a)≤1000*(b-a):=Int.mul_le_mul_of_nonneg_right hd.2 om
   omega
  exact ⟨e _ _ (m _ _ om),e _ _ (m _ _ om)⟩
 intro k
 induction k with
 |zero=>simp [eY]; omega
 |succ k ih=>
  cases hx:c.br[k]? with
  |none=>
   have e: ∀ t,eY c t (k+1)=eY c t k:=fun t=>by unfold eY; rw [List.take_add_one,hx]; simp
   rw [e,e]; exact ih
  |some x=>
   have hs:=h.vj hx
   have:=step x hs.1 a b ha hab hb
   have B:=vd (at_:=a) h.tp ⟨ha,om⟩ hs.1
   rw [jS hx,jS hx]
   unfold kg
   simp only
   omega
theorem lG {c:aA} (h:eU c) {a b:Int} (ha:0≤a) (hab:a≤b) (hb:b≤90000000):a+(gP c a).Lo≤b+(gP c b).Lo∧a+(gP c a).Hi≤b+(gP c b).Hi:=by
 have A:=ze h ha hab hb c.br.length
 have B:=si h (at_:=a) ⟨ha,om⟩
 rw [mJ (Nat.le_refl _),mJ (Nat.le_refl _)] at A
 omega
noncomputable def lj (l:aU) (i:Nat):Int:=match l.ag[i]? with
 |some b=>if i=0 then (Gj l.aO b.oT).Lo else (match l.ag[i-1]? with
  |some a=>(kG l.aO a.oT b.oT).Lo
  |none=>0)
 |none=>0
theorem CJ {l:aU} {b:bG} (h:l.ag[0]? =some b):lj l 0=(Gj l.aO b.oT).Lo:=by unfold lj; rw [h]; rfl
theorem D9 {l:aU} {i:Nat} {a b:bG} (hi:0<i) (h:l.ag[i]? =some b) (ha:l.ag[i-1]? =some a):lj l i=(kG l.aO a.oT b.oT).Lo:=by unfold lj; rw [h,ha]; simp only; rw [if_neg om]
def j2 (l:aU) (b:bG):Prop:=eI l.aO b.oT∧0≤b.l_∧b.l_<(l.ak.length:Int)
def iU (l:aU):Prop:=(1≤l.gV∧l.gV≤5000)∧(1≤(l.ak.length:Int)∧(l.ak.length:Int)≤4)∧(1≤(l.ag.length:Int)∧(l.ag.length:Int)≤6)∧(0≤l.ct∧l.ct≤(l.ag.length:Int)-1)∧(0≤l.er∧l.er≤3)∧0≤l.dx∧l.dx≤3
structure lP (l:aU):Prop where
 head:iU l
 clock: ∀ c∈l.ak,eU c
 CP: ∀ b∈l.ag,j2 l b
 NI: ∀ i,i<l.ag.length→1≤lj l i
noncomputable instance (l:aU):Decidable (lP l):=Classical.propDecidable _
noncomputable def dN (l:aU):Int:=if cv l.aO=true then (if lP l then 0 else 50) else 10
theorem BW {l:aU} (h:cv l.aO=false):dN l=10:=by unfold dN; rw [h]; rfl
theorem m_ {l:aU} (h:cv l.aO=true) (h2: ¬ lP l):dN l=50:=by unfold dN; rw [if_pos h,if_neg h2]
theorem xR {l:aU} (h:cv l.aO=true) (h2:lP l):dN l=0:=by unfold dN; rw [if_pos h,if_pos h2]
theorem kT {l:aU} (h:dN l=0):cv l.aO=true∧lP l:=by
 unfold dN at h
 split at h
 ·split at h
  ·exact ⟨asm,asm⟩
  ·omega
 ·omega
theorem IJ {l:aU} (ht:cv l.aO=true) (hb: ∀ b∈l.ag,j2 l b) (i:Nat): -400000≤lj l i∧lj l i≤400000:=by
 have A:=m1 ht
 have hl:=oS ht
 unfold lj
 cases h:l.ag[i]? with
 |none=>simp
 |some b=>
  have B:=(hb b (aN h)).1
  simp only
  split
  ·have:=LY A hl B; omega
  ·cases h2:l.ag[i-1]? with
   |none=>simp
   |some a=>
    have C:=(hb a (aN h2)).1
    have:=DG A hl C B
    simp only; omega
def pO (l:aU) (s:aK):aA:=((l.ag[s.fP.toNat]?).bind fun b=>l.ak[b.l_.toNat]?).getD ⟨0,[]⟩
def iW (c:aA) (r t:Int):Bool:=decide (r≤t+(gP c t).Hi)
def iR (c:aA) (r t:Int):Bool:=decide (r<t+(gP c t).Lo)
noncomputable def pE (c:aA) (r:Int):ab:=⟨fW (iW c r) 86400001,fW (iR c r) 86400001-1⟩
noncomputable def dW (l:aU) (s:aK):ab:=pE (pO l s) s.Read
noncomputable def lJ (l:aU) (i:Nat):Int:=uP (1000*lj l i) l.gV
end
section
open Go.RowKit
def vR (n:Int):Int:=IntKind.i64.wrap n
theorem vh {n:Int} (h:oJ n):vR n=n:=lD h
theorem LL (n:Int): -9223372036854775808≤vR n∧vR n≤9223372036854775807:=by
 unfold vR
 rw [IntKind.wrap_i64]
 omega
section
variable {P:Program} {t:TypeId} {x y:Operand} {a b:Int}
theorem Jp:fM P .add t x y (.int .i64 a) (.int .i64 b) (.int .i64 (vR (a+b))):=fun w=>by simp [eqGuard_add,binOp_add,Op.intArith,vR]
theorem DK:fM P .sub t x y (.int .i64 a) (.int .i64 b) (.int .i64 (vR (a-b))):=fun w=>by simp [eqGuard_sub,binOp_sub,Op.intArith,vR]
theorem I7:fM P .mul t x y (.int .i64 a) (.int .i64 b) (.int .i64 (vR (a*b))):=fun w=>by simp [eqGuard_mul,binOp_mul,Op.intArith,vR]
end
/-- divided, and rounded up, as it comes out -/
def KW (n by_:Int):Int:=(vR (vR (n+by_)-1)).tdiv by_
theorem I9 {a b:Int} (ha: -9223372036854775808≤a∧a≤9223372036854775807) (hb:2≤b):oJ (a.tdiv b):=by
 have A:a.tdiv b=a/b+if a % b≠0∧a<0 then 1 else 0:=by
  rcases Int.lt_or_le a 0 with h|h
  ·rw [Int.tdiv_eq_ediv]
   have:b.sign=1:=Int.sign_eq_one_of_pos om
   rw [this]
   by_cases hd:b∣a
   ·have:a % b=0:=Int.emod_eq_zero_of_dvd hd
    simp [hd,this]
   ·have:a % b≠0:=fun e=>hd (Int.dvd_of_emod_eq_zero e)
    have hn: ¬ 0≤a:=by omega
    simp [hd,this,h,hn]
  ·rw [Int.tdiv_eq_ediv_of_nonneg h]
   have: ¬ a<0:=by omega
   simp [this]
 have B:a/b*b+a % b=a:=by rw [Int.mul_comm]; exact Int.mul_ediv_add_emod a b
 have C:0≤a % b:=Int.emod_nonneg _ om
 have D:a % b<b:=Int.emod_lt_of_pos _ om
 have E: -9223372036854775808≤a/b∧a/b≤4611686018427387904:=by
  constructor
  ·refine Int.le_ediv_of_mul_le om ?_
   have:(-9223372036854775808:Int)*b≤ -9223372036854775808*1:=Int.mul_le_mul_of_nonpos_left om om
   omega
  ·refine Int.ediv_le_of_le_mul om ?_
   have:(4611686018427387904:Int)*2≤4611686018427387904*b:=Int.mul_le_mul_of_nonneg_left hb om
   omega
 rw [A]
 unfold oJ
 split<;>omega
theorem Ju {n by_:Int} (h0:0≤n) (h1:n≤1000000000000000000) (hb:1≤by_∧by_≤1000000000000):KW n by_=(n+by_-1)/by_:=by
 unfold KW
 rw [vh (show oJ (n+by_) from ⟨om,om⟩),vh (show oJ (n+by_-1) from ⟨om,om⟩),Int.tdiv_eq_ediv_of_nonneg om]
end
section
def jN (c:aA) (i:Nat) (x:cP) (k:Nat):Prop:=fZ c i x∧ ∀ (j:Nat) o,j<k→c.br[j]? =some o→ve c x o
def oL (c:aA) (n:Nat):Prop:= ∀ (i:Nat) x,i<n→c.br[i]? =some x→jN c i x i
noncomputable instance (c:aA) (i:Nat) (x:cP) (k:Nat):Decidable (jN c i x k):=Classical.propDecidable _
instance (c:aA) (i:Nat) (x:cP):Decidable (fZ c i x):=by unfold fZ; infer_instance
theorem zn {c:aA} {i:Nat} {x:cP}:jN c i x 0↔fZ c i x:=⟨fun h=>h.1,fun h=>⟨h,fun j o hj=>by omega⟩⟩
theorem o3 {c:aA} {i k:Nat} {x o:cP} (h:c.br[k]? =some o):jN c i x (k+1)↔jN c i x k∧ve c x o:=by
 constructor
 ·intro hr
  exact ⟨⟨hr.1,fun j o' hj ho=>hr.2 j o' om ho⟩,hr.2 k o om h⟩
 ·rintro ⟨hr,hp⟩
  refine ⟨hr.1,fun j o' hj ho=>?_⟩
  by_cases e:j=k
  ·subst e; rw [h] at ho; cases ho; exact hp
  ·exact hr.2 j o' om ho
theorem BE {c:aA}:oL c 0:=fun i x hi=>by omega
theorem BB {c:aA} {i:Nat} {x:cP} (h:oL c i) (hx:c.br[i]? =some x) (hr:jN c i x i):oL c (i+1):=fun j y hj hy=>by
 by_cases e:j=i
 ·subst e; rw [hx] at hy; cases hy; exact hr
 ·exact h j y om hy
theorem Er {c:aA} {i:Nat} {x:cP} (hx:c.br[i]? =some x) (h: ¬ jN c i x i): ¬ eU c:=fun hc=>h ⟨hc.sync i x hx,fun j o hj ho=>hc.pair i j x o hx hj ho⟩
theorem CK {c:aA} (h1:0≤c.eL∧c.eL≤1000) (h2:1≤c.br.length∧c.br.length≤5) (h:oL c c.br.length):eU c:=
 ⟨h1,h2,fun i x hx=>(h i x (List.getElem?_eq_some_iff.1 hx).1 hx).1,fun i k x o hx hk ho=>(h i x (List.getElem?_eq_some_iff.1 hx).1 hx).2 k o hk ho⟩
/-- syncs so far -/
theorem p7 {c:aA} {n:Nat} (h: ∀ (i:Nat) x,i<n→c.br[i]? =some x→fZ c i x): ∀ (i:Nat) x,i<n→c.br[i]? =some x→0≤x.At∧ ∀ (k:Nat) o,k<i→c.br[k]? =some o→o.At<x.At:=by
 intro i
 induction i with
 |zero=>
  intro x hn hx
  have:=(h 0 x hn hx).1.1
  rw [lq rfl] at this
  exact ⟨om,fun k o hk=>by omega⟩
 |succ i ih=>
  intro x hn hx
  have hi:=(List.getElem?_eq_some_iff.1 hx).1
  have hy:c.br[i]? =some (c.br[i]'om):=eC om
  have B:=ih _ om hy
  have A:=(h (i+1) x hn hx).1.1
  rw [lE hy] at A
  refine ⟨om,fun k o hk ho=>?_⟩
  by_cases e:k=i
  ·subst e; rw [hy] at ho; cases ho; exact A
  ·have:=B.2 k o om ho; omega
theorem JD {c:aA} {i:Nat} (hi:i≤c.br.length) (h: ∀ (j:Nat) y,j<i→c.br[j]? =some y→fZ c j y): -1≤jh c i∧jh c i≤86400000:=by
 cases i with
 |zero=>rw [lq rfl]; omega
 |succ i=>
  have hy:c.br[i]? =some (c.br[i]'om):=eC om
  have A:=(p7 (n:=i+1) h i _ om hy).1
  have B:=(h i _ om hy).1.2
  rw [lE hy]; omega
theorem Kh {c:aA} {i:Nat} (hi:i≤c.br.length) (h:oL c i): -1≤jh c i∧jh c i≤86400000:=JD hi fun j y hj hy=>(h j y hj hy).1
theorem CM {c:aA} {i k:Nat} {x o:cP} (hs: ∀ (j:Nat) y,j<i→c.br[j]? =some y→fZ c j y) (hx:c.br[i]? =some x) (hok:fZ c i x) (hk:k<i) (ho:c.br[k]? =some o):
 (0≤o.At∧o.At<x.At∧x.At≤86400000)∧(-10000≤x.ff.Lo∧x.ff.Lo≤x.ff.Hi∧x.ff.Hi≤10000)∧ -10000≤o.ff.Lo∧o.ff.Lo≤o.ff.Hi∧o.ff.Hi≤10000:=by
 have h: ∀ (j:Nat) y,j<i+1→c.br[j]? =some y→fZ c j y:=fun j y hj hy=>by
  by_cases e:j=i
  ·subst e; rw [hx] at hy; cases hy; exact hok
  ·exact hs j y om hy
 have A:=(p7 h i x om hx).2 k o hk ho
 have B:=(p7 h k o om ho).1
 exact ⟨⟨B,A,hok.1.2⟩,hok.2,(h k o om ho).2⟩
theorem G9 {d a b:Int} (hd:0≤d∧d≤1000) (h:0≤b∧b<a∧a≤86400000):KW (vR (d*vR (a-b))) 1000000=uP (d*(a-b)) 1000000:=by
 have C:0≤d*(a-b)∧d*(a-b)≤90000000000:=by
  have:=LG (a:=d) (b:=a-b) (A:=1000) (B:=90000000) hd.1 hd.2 om om
  omega
 rw [vh (show oJ (a-b) from ⟨om,om⟩),vh (show oJ (d*(a-b)) from ⟨om,om⟩),Ju C.1 om om]
 rfl
/-- what is asked of a line, however wrong it is -/
structure fh (l:aU) (asl:List RA):Prop where
 wJ:l.aO.length≤1000000
 side: ∀ x∈l.aO,0≤x.jy∧x.jy≤255
 wI:l.ak.length≤1000000
 pQ:asl.length=l.ak.length
 v8:l.ag.length≤1000000
 LQ: ∀ (k:Nat) m (a:RA),l.ak[k]? =some m→asl[k]? =some a→m.br.length≤a.2∧m.br.length≤1000000
noncomputable instance (l:aU):Decidable (iU l):=by unfold iU; infer_instance
noncomputable instance (l:aU) (b:bG):Decidable (j2 l b):=Classical.propDecidable _
theorem B0 {l:aU} (h:iU l) (h2: ∀ c∈l.ak,eU c) (h3: ∀ b∈l.ag,j2 l b) (h4: ∀ i,i<l.ag.length→1≤lj l i):lP l:=⟨h,h2,h3,h4⟩
theorem zp {l:aU}:((!(l.ak.any fun m=> !decide (eU m)))=true)↔ ∀ c∈l.ak,eU c:=by simp
theorem Bo {l:aU}:((!(l.ag.any fun b=> !decide (j2 l b)))=true)↔ ∀ b∈l.ag,j2 l b:=by simp
theorem n7 {c:aA} (h:eU c) {r x:Int} (h0:0≤x) (h1:x<86400001):
 (x<fW (iW c r) 86400001→iW c r x=false)∧(fW (iW c r) 86400001≤x→iW c r x=true)∧(x<fW (iR c r) 86400001→iR c r x=false)∧(fW (iR c r) 86400001≤x→iR c r x=true):=by
 have up: ∀ (q:Int→Bool),(∀ a b,0≤a→a≤b→b<86400001→q a=true→q b=true)→fW q 86400001≤x→q x=true:=fun q hq hx=>by
  have hb:=kW (p:=q) (n:=86400001)
  exact hq _ _ hb.1 hx h1 (tR om)
 refine ⟨qq h0,up _ fun a b ha A hb hq=>?_,qq h0,up _ fun a b ha A hb hq=>?_⟩
 ·have:=lG h ha A om
  simp only [iW,decide_eq_true_eq] at hq ⊢; omega
 ·have:=lG h ha A om
  simp only [iR,decide_eq_true_eq] at hq ⊢; omega
theorem yk {l:aU} {s:aK} {b:bG} {c:aA} (hb:l.ag[s.fP.toNat]? =some b) (hc:l.ak[b.l_.toNat]? =some c):pO l s=c:=by
 unfold pO; rw [hb]; simp only [Option.bind_some]; rw [hc]; rfl
end
section
def lW (sg:List aK) (i:Nat):aK:=if i=0 then ⟨-1,0⟩ else (sg[i-1]?).getD ⟨-1,0⟩
theorem mK {sg:List aK} {i:Nat} {s:aK} (h:sg[i]? =some s):lW sg (i+1)=s:=by unfold lW; rw [if_neg om,Nat.add_sub_cancel,h]; rfl
def mT (l:aU) (s:aK):Prop:=(0≤s.fP∧s.fP≤(l.ag.length:Int)-1)∧0≤s.Read∧s.Read≤86400000
def kO (l:aU) (sg:List aK) (i:Nat) (s:aK):Prop:=mT l s∧ ¬ s.fP<(lW sg i).fP∧ ¬ (s.fP=(lW sg i).fP∧s.Read≤(lW sg i).Read)
def qb (l:aU) (sg:List aK) (i:Nat):Prop:= ∀ (j:Nat) s,j<i→sg[j]? =some s→kO l sg j s
structure f_ (l:aU) (r:cK):Prop where
 time:0≤r.Start∧r.Start≤r.gk∧r.gk≤86400000
 len:r.ay.length≤10
 sig: ∀ (i:Nat) s,r.ay[i]? =some s→kO l r.ay i s
noncomputable instance (l:aU) (r:cK):Decidable (f_ l r):=Classical.propDecidable _
theorem Bc {l:aU} {sg:List aK}:qb l sg 0:=fun j s hj=>absurd hj (Nat.not_lt_zero _)
theorem n5 {l:aU} {sg:List aK} {i:Nat} {s:aK} (h:qb l sg i) (hs:sg[i]? =some s) (ho:kO l sg i s):qb l sg (i+1):=fun j z hj hz=>by
 rcases Nat.lt_or_ge j i with q|q
 ·exact h j z q hz
 ·obtain rfl:j=i:=by omega
  rw [hs] at hz; cases hz; exact ho
theorem DB {l:aU} {r:cK} {i:Nat} (h1:0≤r.Start∧r.Start≤r.gk∧r.gk≤86400000) (h2:r.ay.length≤10) (h:qb l r.ay i) (hi:r.ay.length≤i):f_ l r:=
 ⟨h1,h2,fun j s hs=>h j s (by have:=(List.getElem?_eq_some_iff.1 hs).1; omega) hs⟩
noncomputable def kN (l:aU) (sg:List aK) (b k:Nat):Option (Int×ab):=(sg[k]?).bind fun s=>if s.fP=(b:Int)∧(dW l s).Lo≤(dW l s).Hi then some ((k:Int),dW l s) else none
noncomputable def iN (l:aU) (sg:List aK) (i b:Nat):TM:=(List.range i).filterMap (kN l sg b)
noncomputable def c0 (l:aU) (sg:List aK) (i:Nat):List TM:=(List.range l.ag.length).map (iN l sg i)
noncomputable def eF (l:aU) (n:Nat):List Int:=(List.range n).map (lJ l)
theorem xG {l:aU} {n:Nat}:eF l (n+1)=eF l n++[lJ l n]:=by simp [eF,List.range_succ]
theorem eg {l:aU} {n:Nat}:(eF l n).length=n:=by simp [eF]
theorem gO {l:aU} {sg:List aK} {i:Nat}:(c0 l sg i).length=l.ag.length:=by simp [c0]
theorem lV {l:aU} {sg:List aK} {i b:Nat} (h:b<l.ag.length):(c0 l sg i)[b]? =some (iN l sg i b):=by simp [c0,h]
theorem my {l:aU} {sg:List aK} {b k:Nat} {q:Int×ab}:kN l sg b k=some q↔ ∃ s,sg[k]? =some s∧(s.fP=(b:Int)∧(dW l s).Lo≤(dW l s).Hi)∧q=((k:Int),dW l s):=by
 unfold kN
 cases h:sg[k]? with
 |none=>simp
 |some s=>
  simp only [Option.bind_some,Option.some.injEq]
  by_cases e:s.fP=(b:Int)∧(dW l s).Lo≤(dW l s).Hi
  ·rw [if_pos e]
   constructor
   ·intro h; cases h; exact ⟨s,rfl,e,rfl⟩
   ·rintro ⟨s',rfl,_,rfl⟩; rfl
  ·rw [if_neg e]
   constructor
   ·intro h; cases h
   ·rintro ⟨s',rfl,e',_⟩; exact absurd e' e
theorem oR {l:aU} {sg:List aK} {i b:Nat} {q:Int×ab}:q∈iN l sg i b↔ ∃ k,k<i∧ ∃ s,sg[k]? =some s∧(s.fP=(b:Int)∧(dW l s).Lo≤(dW l s).Hi)∧q=((k:Int),dW l s):=by
 unfold iN
 simp only [List.mem_filterMap,List.mem_range,my]
theorem iX {l:aU} {sg:List aK} {i b:Nat}:iN l sg (i+1) b=iN l sg i b++(kN l sg b i).toList:=by
 unfold iN
 rw [List.range_succ,List.filterMap_append]
 congr 1
theorem zx {l:aU} {sg:List aK}:c0 l sg 0=List.replicate l.ag.length []:=by
 unfold c0
 rw [List.eq_replicate_iff]
 refine ⟨sm,fun t ht=>?_⟩
 obtain ⟨b,_,rfl⟩:=List.mem_map.1 ht
 rfl
theorem rO {l:aU} {sg:List aK} {i:Nat} {s:aK} (hs:sg[i]? =some s) (h: ¬ (dW l s).Lo≤(dW l s).Hi):c0 l sg (i+1)=c0 l sg i:=by
 unfold c0
 apply List.map_congr_left
 intro b _
 rw [iX]
 have:kN l sg b i=none:=by
  cases e:kN l sg b i with
  |none=>rfl
  |some q=>obtain ⟨s',A,⟨_,B⟩,_⟩:=my.1 e; rw [hs] at A; cases A; exact absurd B h
 rw [this]; simp
theorem tv {l:aU} {sg:List aK} {i:Nat} {s:aK} (hs:sg[i]? =some s) (hb:0≤s.fP∧s.fP≤(l.ag.length:Int)-1) (h:(dW l s).Lo≤(dW l s).Hi) {x:TM} (hx:(c0 l sg i)[s.fP.toNat]? =some x):
 (c0 l sg i).set s.fP.toNat (dB x (i:Int) (dW l s))=c0 l sg (i+1):=by
 have A:s.fP.toNat<l.ag.length:=by omega
 rw [lV A] at hx
 cases hx
 have B:dB (iN l sg i s.fP.toNat) (i:Int) (dW l s)=iN l sg (i+1) s.fP.toNat:=by
  have hn:(iN l sg i s.fP.toNat).lookup (i:Int)=none:=gS.2 fun p hp e=>by
   obtain ⟨k,hk,_,_,_,rfl⟩:=oR.1 hp
   simp only at e; omega
  have ho:kN l sg s.fP.toNat i=some ((i:Int),dW l s):=my.2 ⟨s,hs,⟨om,h⟩,rfl⟩
  rw [iX,ho]
  unfold dB; rw [hn]; rfl
 rw [B]
 apply List.ext_getElem?
 intro b
 rw [List.getElem?_set]
 by_cases e:s.fP.toNat=b
 ·rw [if_pos e,gO,← e,if_pos A,lV A]
 ·rw [if_neg e]
  by_cases hb':b<l.ag.length
  ·rw [lV hb',lV hb',iX]
   have:kN l sg b i=none:=by
    cases e2:kN l sg b i with
    |none=>rfl
    |some q=>obtain ⟨s',C,⟨D,_⟩,_⟩:=my.1 e2; rw [hs] at C; cases C; exact absurd om e
   rw [this]; simp
  ·rw [List.getElem?_eq_none (by rw [gO]; omega),List.getElem?_eq_none (by rw [gO]; omega)]
noncomputable def cq (l:aU) (r:cK):bp:=⟨r.Start,r.gk,eF l l.ag.length,c0 l r.ay r.ay.length,l.dx,l.er,(r.ay.length:Int)⟩
theorem DZ {l:aU} (ht:cv l.aO=true) (h:lP l) {i:Nat} (hi:i<l.ag.length):1≤lJ l i∧lJ l i≤500000000:=by
 have A:=IJ ht h.CP i
 have B:=h.NI i hi
 have C:=h.head.1
 unfold lJ uP
 refine ⟨(Int.le_ediv_iff_mul_le om).2 om,?_⟩
 have:(1000*lj l i+l.gV-1)/l.gV≤1000*lj l i+l.gV-1:=Int.ediv_le_self _ om
 omega
theorem Hx (l:aU) (s:aK):0≤(dW l s).Lo∧(dW l s).Hi≤86400000:=by
 have A:=kW (p:=iW (pO l s) s.Read) (n:=86400001)
 have B:=kW (p:=iR (pO l s) s.Read) (n:=86400001)
 unfold dW pE
 simp only
 omega
theorem nx {l:aU} {r:cK} (ht:cv l.aO=true) (h:lP l) (hr:f_ l r):BZ (cq l r):=by
 have hh:=h.head
 unfold iU at hh
 refine ⟨?_,by simp [cq,gO,bp.n,eg],hr.time,fun x hx=>?_,fun t A p hp=>?_⟩
 ·show (eF l l.ag.length).length≤6
  rw [eg]; omega
 ·obtain ⟨i,hi,rfl⟩:=List.mem_map.1 hx
  exact DZ ht h (List.mem_range.1 hi)
 ·obtain ⟨b,hb,rfl⟩:=List.mem_map.1 A
  obtain ⟨k,hk,s,hs,⟨_,B⟩,rfl⟩:=oR.1 hp
  have C:=Hx l s
  have D:=hr.len
  simp only
  omega
noncomputable def ed (l:aU) (r:cK) (me:Int):Int:=if dN l=0 then (if f_ l r then (if me=0 then (if iv (cq l r)=[] then 8 else 0) else me) else 51) else dN l
theorem wP {l:aU} {r:cK} {me:Int} (h: ¬ dN l=0):ed l r me=dN l:=if_neg h
theorem hP {l:aU} {r:cK} {me:Int} (h:dN l=0) (h2: ¬ f_ l r):ed l r me=51:=by unfold ed; rw [if_pos h,if_neg h2]
theorem ng {l:aU} {r:cK} {me:Int} (h:dN l=0) (h2:f_ l r) (h3: ¬ me=0):ed l r me=me:=by unfold ed; rw [if_pos h,if_pos h2,if_neg h3]
theorem oM {l:aU} {r:cK} {me:Int} (h:dN l=0) (h2:f_ l r) (h3:me=0) (h4:iv (cq l r)=[]):ed l r me=8:=by unfold ed; rw [if_pos h,if_pos h2,if_pos h3,if_pos h4]
theorem km {l:aU} {r:cK} {me:Int} (h:dN l=0) (h2:f_ l r) (h3:me=0) (h4: ¬ iv (cq l r)=[]):ed l r me=0:=by unfold ed; rw [if_pos h,if_pos h2,if_pos h3,if_neg h4]
theorem jM {l:aU} {r:cK} {me:Int} (h:ed l r me=0):dN l=0∧f_ l r∧me=0∧ ¬ iv (cq l r)=[]:=by
 unfold ed at h
 split at h
 ·split at h
  ·split at h
   ·split at h
    ·omega
    ·exact ⟨asm,asm,asm,asm⟩
   ·omega
  ·omega
 ·omega
end
section
def rX (l:List Int):Int:=(l.drop 1).foldl min (l.headD 0)
def yA (l:List Int):Int:=(l.drop 1).foldl max (l.headD 0)
theorem xd: ∀ (l:List Int) (a:Int),(l.foldl min a=a∨l.foldl min a∈l)∧l.foldl min a≤a∧ ∀ x∈l,l.foldl min a≤x
 |[],a=>⟨.inl rfl,sm,sm⟩
 |y::l,a=>by
  obtain ⟨A,C,B⟩:=xd l (min a y)
  simp only [List.foldl_cons]
  refine ⟨?_,om,?_⟩
  ·rcases A with A|A
   ·rw [A]
    rcases Int.le_total a y with q|q
    ·left; omega
    ·right; rw [show min a y=y by omega]; simp
   ·right; exact cL _ A
  ·intro x hx
   rcases List.mem_cons.1 hx with rfl|hx
   ·omega
   ·exact B x hx
theorem v_: ∀ (l:List Int) (a:Int),(l.foldl max a=a∨l.foldl max a∈l)∧a≤l.foldl max a∧ ∀ x∈l,x≤l.foldl max a
 |[],a=>⟨.inl rfl,sm,sm⟩
 |y::l,a=>by
  obtain ⟨A,C,B⟩:=v_ l (max a y)
  simp only [List.foldl_cons]
  refine ⟨?_,om,?_⟩
  ·rcases A with A|A
   ·rw [A]
    rcases Int.le_total a y with q|q
    ·right; rw [show max a y=y by omega]; simp
    ·left; omega
   ·right; exact cL _ A
  ·intro x hx
   rcases List.mem_cons.1 hx with rfl|hx
   ·omega
   ·exact B x hx
theorem AT {l:List Int} (h:l≠[]):rX l∈l∧ ∀ x∈l,rX l≤x:=by
 cases l with
 |nil=>exact absurd rfl h
 |cons y ys=>
  obtain ⟨A,B,C⟩:=xd ys y
  refine ⟨?_,fun x hx=>?_⟩
  ·rcases A with A|A
   ·simp [rX,A]
   ·exact cL _ (by simpa [rX] using A)
  ·rcases List.mem_cons.1 hx with rfl|hx
   ·simpa [rX] using B
   ·simpa [rX] using C x hx
theorem Il {l:List Int} (h:l≠[]):yA l∈l∧ ∀ x∈l,x≤yA l:=by
 cases l with
 |nil=>exact absurd rfl h
 |cons y ys=>
  obtain ⟨A,B,C⟩:=v_ ys y
  refine ⟨?_,fun x hx=>?_⟩
  ·rcases A with A|A
   ·simp [yA,A]
   ·exact cL _ (by simpa [yA] using A)
  ·rcases List.mem_cons.1 hx with rfl|hx
   ·simpa [yA] using B
   ·simpa [yA] using C x hx
noncomputable def jk (l:aU) (r:cK):List Int:=if ed l r 0=0 then iv (cq l r) else []
theorem jJ {l:aU} {r:cK} (h:ed l r 0=0):jk l r=iv (cq l r):=if_pos h
theorem qC {l:aU} {r:cK} (h: ¬ ed l r 0=0):jk l r=[]:=if_neg h
theorem qj {l:aU} {r:cK} (h:ed l r 0=0):jk l r≠[]:=by rw [jJ h]; exact (jM h).2.2.2
noncomputable def zd (l:aU) (r:cK):Int:=if ed l r 0=0 then (if l.ct<rX (jk l r) then 2 else if yA (jk l r)≤l.ct then 0 else 1) else 0
noncomputable def iF (l:aU) (b:Int):Int:=if 0≤b∧b≤(l.ag.length:Int)-1 then 0 else 2
theorem Dg {l:aU} {b:Int} (h:0≤b∧b≤(l.ag.length:Int)-1):iF l b=0:=if_pos h
theorem zc {l:aU} {b:Int} (h:iF l b=0):0≤b∧b≤(l.ag.length:Int)-1:=by
 unfold iF at h
 split at h
 ·assumption
 ·omega
noncomputable def kF (l:aU) (r:cK) (b:Nat):ab:=Ak (kx (cq l r) b)
noncomputable def dY (l:aU) (r:cK) (b:Int):Int:=if ed l r (iF l b)=0 then (if kF l r b.toNat=lI then 6 else 0) else ed l r (iF l b)
noncomputable def dZ (l:aU) (r:cK) (b:Int):ab:=if dY l r b=0 then kF l r b.toNat else cZ
theorem mL {l:aU} {r:cK} {b:Int} (h: ¬ ed l r (iF l b)=0):dY l r b=ed l r (iF l b)∧dZ l r b=cZ:=by
 have e:dY l r b=ed l r (iF l b):=if_neg h
 exact ⟨e,by unfold dZ; rw [if_neg (by rw [e]; exact h)]⟩
theorem wc {l:aU} {r:cK} {b:Nat} (h:ed l r (iF l b)=0) (h2:kF l r b=lI):dY l r b=6∧dZ l r b=cZ:=by
 have e:dY l r b=6:=by unfold dY; rw [if_pos h,Int.toNat_natCast,if_pos h2]
 exact ⟨e,by unfold dZ; rw [if_neg (by rw [e]; omega)]⟩
theorem qO {l:aU} {r:cK} {b:Nat} (h:ed l r (iF l b)=0) (h2: ¬ kF l r b=lI):dY l r b=0∧dZ l r b=kF l r b:=by
 have e:dY l r b=0:=by unfold dY; rw [if_pos h,Int.toNat_natCast,if_neg h2]
 exact ⟨e,by unfold dZ; rw [if_pos e,Int.toNat_natCast]⟩
theorem EH {w:bp} (h:BZ w) {b:Nat} {q:Int×ab} (hq:q∈kx w b):0≤q.2.Lo∧q.2.Lo≤q.2.Hi∧q.2.Hi≤86400000:=by
 have A:=mD hq
 obtain ⟨o,ho,p,hp,u,hu,e⟩:=fB.1 hq
 obtain ⟨_,_,rfl⟩:=gM.1 e
 have B:=h.opt ho
 simp only [gW] at A ⊢
 omega
theorem wa {l:aU} {r:cK} {b:Int} (h:dY l r b=0):0≤(dZ l r b).Lo∧(dZ l r b).Lo≤(dZ l r b).Hi∧(dZ l r b).Hi≤86400000:=by
 have ho:ed l r (iF l b)=0:=by
  by_cases e:ed l r (iF l b)=0
  ·exact e
  ·rw [(mL e).1] at h; exact absurd h e
 obtain ⟨B,C,_⟩:=jM ho
 obtain ⟨ht,A⟩:=kT B
 have hw:=nx ht A C
 have hv:dZ l r b=kF l r b.toNat:=by unfold dZ; rw [if_pos h]
 have hn:kF l r b.toNat≠lI:=fun e=>by unfold dY at h; rw [if_pos ho,if_pos e] at h; omega
 have hh:=yq (l:=kx (cq l r) b.toNat) fun q hq=>mD hq
 rw [hv]
 unfold kF at hn ⊢
 rcases hh with ⟨_,e⟩|hh
 ·exact absurd e hn
 ·obtain ⟨x,hx,ex⟩:=hh.lo
  obtain ⟨y,hy,ey⟩:=hh.hi
  have:=EH hw hx
  have:=EH hw hy
  have:=hh.le
  omega
noncomputable def yG (l:aU) (r:cK):ab:=if dY l r l.ct=0 then ⟨(dZ l r l.ct).Lo-r.Start,(dZ l r l.ct).Hi-r.Start⟩ else cZ
theorem zG {l:aU} {r:cK} (h:dY l r l.ct=0):yG l r=⟨(dZ l r l.ct).Lo-r.Start,(dZ l r l.ct).Hi-r.Start⟩:=if_pos h
theorem Ki {l:aU} {r:cK} (h: ¬ dY l r l.ct=0):yG l r=cZ:=if_neg h
theorem qF {l:aU} {r:cK} {b:Int} (h:dY l r b=0):f_ l r:=by
 by_cases e:ed l r (iF l b)=0
 ·exact (jM e).2.1
 ·rw [(mL e).1] at h; exact absurd h e
theorem uH {k:List (Int×ab)} {h:ab} {q:Int×ab} {z:ab} (hh:j1 k h) (hq:q.2.Lo≤q.2.Hi) (hz:kI h q.2=z):j1 (k++[q]) z:=by subst hz; exact uE hh hq
end
section
set_option maxRecDepth 20000
def KT:ao:=⟨1,⟨10000,10200⟩,⟨0,100⟩,⟨0,0⟩,0,0⟩
def ta:aA:=⟨100,[⟨0,⟨0,2⟩⟩,⟨100000,⟨5,6⟩⟩]⟩
def Kv (o:Int):bG:=⟨⟨0,⟨o,o⟩⟩,0⟩
def k9 (f:Int):aU:=⟨[KT],2000,[ta],[Kv 1000,Kv 4000,Kv 9000],1,f,1⟩
def j3:cK:=⟨10000,20000,[⟨0,10600⟩,⟨0,11000⟩,⟨1,12600⟩]⟩
theorem wW:cv [KT]=true:=by decide
theorem sH:eU ta:=by
 have hi: ∀ (i:Nat) (x:cP),ta.br[i]? =some x→i=0∧x=⟨0,⟨0,2⟩⟩∨i=1∧x=⟨100000,⟨5,6⟩⟩:=fun i x h=>by
  match i with
  |0=>left; simp [ta] at h; exact ⟨rfl,h.symm⟩
  |1=>right; simp [ta] at h; exact ⟨rfl,h.symm⟩
  |n+2=>simp [ta] at h
 refine ⟨dc,dc,fun i x hx=>?_,fun i k x o hx hk ho=>?_⟩
 ·rcases hi i x hx with ⟨rfl,rfl⟩|⟨rfl,rfl⟩<;>(unfold fZ; decide)
 ·rcases hi i x hx with ⟨rfl,rfl⟩|⟨rfl,rfl⟩
  ·omega
  ·rcases hi k o ho with ⟨rfl,rfl⟩|⟨rfl,rfl⟩
   ·unfold ve; decide
   ·omega
theorem u_ {o:Int} (h:0≤o∧o<10000):eI [KT] ⟨0,⟨o,o⟩⟩:=⟨sm,KT,rfl,by show o≤o∧0≤o∧o≤10000-1; omega⟩
theorem Hz {f:Int} (hf:0≤f∧f≤3):lP (k9 f):=by
 refine ⟨?_,fun c hc=>?_,fun b hb=>?_,fun i hi=>?_⟩
 ·unfold iU; simp [k9]; omega
 ·simp [k9] at hc; subst hc; exact sH
 ·simp [k9] at hb
  rcases hb with rfl|rfl|rfl
  ·exact ⟨u_ om,by simp [Kv,k9]⟩
  ·exact ⟨u_ om,by simp [Kv,k9]⟩
  ·exact ⟨u_ om,by simp [Kv,k9]⟩
 ·have A:i<3:=hi
  have:i=0∨i=1∨i=2:=by omega
  rcases this with rfl|rfl|rfl
  ·show (1:Int)≤lj (k9 0) 0; decide
  ·show (1:Int)≤lj (k9 0) 1; decide
  ·show (1:Int)≤lj (k9 0) 2; decide
def g_:aU:=k9 1
theorem Fb:dN g_=0:=xR wW (Hz om)
theorem uS {r x:Int} (h0:0<x) (h1:x≤86400000) (hy:iW ta r x=true) (hn:iW ta r (x-1)=false):fW (iW ta r) 86400001=x:=
 uh om om hy fun z hz A=>by
  cases e:iW ta r z with
  |false=>rfl
  |true=>
   unfold iW at e hn
   have:=(lG sH hz (show z≤x-1 by omega) om).2
   have B:=of_decide_eq_true e
   have C:=of_decide_eq_false hn
   omega
theorem uL {r x:Int} (h0:0<x) (h1:x≤86400000) (hy:iR ta r x=true) (hn:iR ta r (x-1)=false):fW (iR ta r) 86400001=x:=
 uh om om hy fun z hz A=>by
  cases e:iR ta r z with
  |false=>rfl
  |true=>
   unfold iR at e hn
   have:=(lG sH hz (show z≤x-1 by omega) om).1
   have B:=of_decide_eq_true e
   have C:=of_decide_eq_false hn
   omega
theorem Mq:pE ta 10600=⟨10596,10602⟩:=by unfold pE; rw [uS (x:=10596) om om dc dc,uL (x:=10603) om om dc dc]; rfl
theorem KH:pE ta 11000=⟨10996,11002⟩:=by unfold pE; rw [uS (x:=10996) om om dc dc,uL (x:=11003) om om dc dc]; rfl
theorem Ma:pE ta 12600=⟨12596,12602⟩:=by unfold pE; rw [uS (x:=12596) om om dc dc,uL (x:=12603) om om dc dc]; rfl
def KO (f:Int):bp:=⟨10000,20000,[500,1500,2500],[[(0,⟨10596,10602⟩),(1,⟨10996,11002⟩)],[(2,⟨12596,12602⟩)],[]],1,f,3⟩
theorem LF (f:Int):dW (k9 f) ⟨0,10600⟩=⟨10596,10602⟩:=Mq
theorem KS (f:Int):dW (k9 f) ⟨0,11000⟩=⟨10996,11002⟩:=KH
theorem KX (f:Int):dW (k9 f) ⟨1,12600⟩=⟨12596,12602⟩:=Ma
theorem ES (f:Int):c0 (k9 f) j3.ay 3=[[(0,⟨10596,10602⟩),(1,⟨10996,11002⟩)],[(2,⟨12596,12602⟩)],[]]:=by
 have o: ∀ b:Nat,iN (k9 f) j3.ay 3 b=(kN (k9 f) j3.ay b 0).toList++((kN (k9 f) j3.ay b 1).toList++(kN (k9 f) j3.ay b 2).toList):=fun b=>by
  rw [iX,iX,iX]; simp [iN]
 have A: ∀ b:Nat,kN (k9 f) j3.ay b 0=if (0:Int)=(b:Int) then some (0,⟨10596,10602⟩) else none:=fun b=>by
  show (if (0:Int)=(b:Int)∧(dW (k9 f) ⟨0,10600⟩).Lo≤(dW (k9 f) ⟨0,10600⟩).Hi then some ((0:Int),dW (k9 f) ⟨0,10600⟩) else none)=_
  rw [LF]; by_cases h:(0:Int)=(b:Int)
  ·rw [if_pos h,if_pos ⟨h,dc⟩]<;>rfl
  ·rw [if_neg h,if_neg fun q=>h q.1]
 have B: ∀ b:Nat,kN (k9 f) j3.ay b 1=if (0:Int)=(b:Int) then some (1,⟨10996,11002⟩) else none:=fun b=>by
  show (if (0:Int)=(b:Int)∧(dW (k9 f) ⟨0,11000⟩).Lo≤(dW (k9 f) ⟨0,11000⟩).Hi then some ((1:Int),dW (k9 f) ⟨0,11000⟩) else none)=_
  rw [KS]; by_cases h:(0:Int)=(b:Int)
  ·rw [if_pos h,if_pos ⟨h,dc⟩]<;>rfl
  ·rw [if_neg h,if_neg fun q=>h q.1]
 have C: ∀ b:Nat,kN (k9 f) j3.ay b 2=if (1:Int)=(b:Int) then some (2,⟨12596,12602⟩) else none:=fun b=>by
  show (if (1:Int)=(b:Int)∧(dW (k9 f) ⟨1,12600⟩).Lo≤(dW (k9 f) ⟨1,12600⟩).Hi then some ((2:Int),dW (k9 f) ⟨1,12600⟩) else none)=_
  rw [KX]; by_cases h:(1:Int)=(b:Int)
  ·rw [if_pos h,if_pos ⟨h,dc⟩]<;>rfl
  ·rw [if_neg h,if_neg fun q=>h q.1]
 show [iN (k9 f) j3.ay 3 0,iN (k9 f) j3.ay 3 1,iN (k9 f) j3.ay 3 2]=_
 rw [o,o,o,A,A,A,B,B,B,C,C,C]
 rfl
theorem wM (f:Int):cq (k9 f) j3=KO f:=by
 unfold cq KO
 rw [show j3.ay.length=3 from rfl,ES]
 rfl
theorem Hn (f:Int):f_ (k9 f) j3:=by
 refine ⟨dc,dc,fun i s hs=>?_⟩
 match i with
 |0=>simp [j3] at hs; subst hs; unfold kO mT; simp [k9,lW]
 |1=>simp [j3] at hs; subst hs; unfold kO mT; simp [k9,lW,j3]
 |2=>simp [j3] at hs; subst hs; unfold kO mT; simp [k9,lW,j3]
 |n+3=>simp [j3] at hs
theorem DL:iv (cq g_ j3)=[2,3]:=by rw [show cq g_ j3=KO 1 from wM 1]; decide
theorem EV:ed g_ j3 0=0:=km Fb (Hn 1) rfl (by rw [DL]; decide)
theorem Ee {b:Nat} (hb:b<3):ed g_ j3 (iF g_ b)=0:=by rw [Dg (by show 0≤(b:Int)∧(b:Int)≤3-1; omega)]; exact EV
theorem G_ {b:Nat} {z:ab} (hb:b<3) (hz:Ak (kx (KO 1) b)=z) (hn:z≠lI):dY g_ j3 b=0∧dZ g_ j3 b=z:=by
 have e:kF g_ j3 b=z:=by unfold kF; rw [show cq g_ j3=KO 1 from wM 1]; exact hz
 have h:=qO (Ee hb) (by rw [e]; exact hn)
 exact ⟨h.1,h.2.trans e⟩
theorem sJ:dY g_ j3 1=0∧dZ g_ j3 1=⟨12596,12602⟩:=G_ (b:=1) om dc dc
theorem zf:dY g_ j3 g_.ct=0∧yG g_ j3=⟨2596,2602⟩:=by
 refine ⟨sJ.1,?_⟩
 rw [zG (l:=g_) (r:=j3) sJ.1]
 rw [show dZ g_ j3 g_.ct=⟨12596,12602⟩ from sJ.2]
 rfl
theorem Lm (f:Int) {a:OA} {c:Nat} (hc:2≤c):fh (k9 f) [(a,c)]:=by
 refine ⟨by simp [k9],?_,by simp [k9],U,by simp [k9],fun k m a' hm ha=>?_⟩
 ·intro x hx; simp [k9] at hx; subst hx; simp [KT]
 ·match k with
  |0=>simp [k9] at hm ha; subst hm; subst ha; simp [ta]; exact hc
  |n+1=>simp at ha
end
section
def yD (l:aU):Prop:=(20<(l.aO.length:Int)∨8<(l.ak.length:Int)∨10<(l.ag.length:Int))∨ ∃ c∈l.ak,10<(c.br.length:Int)
noncomputable instance (l:aU):Decidable (yD l):=Classical.propDecidable _
/-- what is asked of a line that comes in -/
structure G4 (l:aU) (az:List RA):Prop where
 wJ:l.aO.length≤9223372036854775807
 side: ∀ x∈l.aO,0≤x.jy∧x.jy≤255
 wI:l.ak.length≤9223372036854775807
 pQ:az.length=l.ak.length
 v8:l.ag.length≤9223372036854775807
 LQ: ∀ (k:Nat) m (a:RA),l.ak[k]? =some m→az[k]? =some a→m.br.length≤a.2∧m.br.length≤9223372036854775807
end
section
def ja (m:List av) (a:cb):List aj:=rd a.1.1 m.length 7 (List.zipWith av.cells m a.2)::aR av.jx m a.2
structure Ja (h:List av) (a:cb):Prop where
 len:h.length≤1000000
 pQ:a.2.length=h.length
 sig: ∀ d∈h,d.cH.ay.length≤1000000
structure dG (r:bQ) (az:List RA) (ha:List cb):Prop where
 line:fh r.ai az
 gT:r.aI.length≤1000000
 draw:r.bu.length≤12
 g9:r.aq.length≤1000000
 has:ha.length=r.aq.length
 mU: ∀ (k:Nat) h (a:cb),r.aq[k]? =some h→ha[k]? =some a→Ja h a
structure Mw (r:bQ) (az:List RA) (ha:List cb):Prop where
 line:G4 r.ai az
 gT:r.aI.length≤9223372036854775807
 draw:r.bu.length≤9223372036854775807
 g9:r.aq.length≤9223372036854775807
 has:ha.length=r.aq.length
 mU: ∀ (k:Nat) h (a:cb),r.aq[k]? =some h→ha[k]? =some a→h.length≤9223372036854775807∧a.2.length=h.length∧ ∀ d∈h,d.cH.ay.length≤9223372036854775807
def Bg (h:List av):Prop:=8<(h.length:Int)∨ ∃ d∈h,15<(d.cH.ay.length:Int)
def Ji (r:bQ):Prop:=(yD r.ai∨8<(r.aI.length:Int)∨8<(r.bu.length:Int)∨5<(r.aq.length:Int))∨ ∃ h∈r.aq,Bg h
noncomputable instance (r:bQ):Decidable (Ji r):=Classical.propDecidable _
def mm (r:cK):Prop:=r.Start=0∧r.gk=0∧(r.ay.length:Int)=0
instance (r:cK):Decidable (mm r):=by unfold mm; infer_instance
def hO (s:ab):Prop:=1≤s.Lo∧s.Lo≤s.Hi∧s.Hi≤600000
instance (s:ab):Decidable (hO s):=by unfold hO; infer_instance
def g3 (l:aU) (d:av):Prop:=if d.Out=true then d.eK=false∧d.Time=cZ∧mm d.cH else if d.eK=true then hO d.Time∧mm d.cH else dY l d.cH l.ct=0∧d.Time=cZ
noncomputable instance (l:aU) (d:av):Decidable (g3 l d):=Classical.propDecidable _
noncomputable def cy (l:aU) (d:av):ab:=if d.Out=true∨d.eK=true then d.Time else yG l d.cH
/-- which kind a descent is of -/
def lL (d:av):Int:=if d.Out=true then 0 else if d.eK=true then 1 else 2
theorem Gz {w:bp} (h:BZ w): ∀ (b:Nat) (p:aw×Int),p∈fwd w b→w.Start≤p.2:=by
 have hl: ∀ b,0≤bP w b:=fun b=>by
  unfold bP
  cases e:w.mN[b]? with
  |none=>simp
  |some x=>have:=h.least x (aN e); simp; omega
 intro b
 induction b with
 |zero=>intro p hp; simp only [fwd,bD] at hp; subst hp; exact Int.le_refl _
 |succ b ih=>
  intro q hq
  obtain ⟨p,hp,o,ho,e⟩:=ep.1 hq
  unfold iO at e
  split at e
  ·simp only [Option.some.injEq] at e
   subst e
   have:=ih p hp
   have:=hl b
   simp only; omega
  ·cases e
theorem Hp {l:aU} {r:cK} {b:Int} (h:dY l r b=0):r.Start≤(dZ l r b).Lo:=by
 have ho:ed l r (iF l b)=0:=by
  by_cases e:ed l r (iF l b)=0
  ·exact e
  ·rw [(mL e).1] at h; exact absurd h e
 obtain ⟨B,C,_⟩:=jM ho
 obtain ⟨ht,A⟩:=kT B
 have hw:=nx ht A C
 have hv:dZ l r b=kF l r b.toNat:=by unfold dZ; rw [if_pos h]
 have hn:kF l r b.toNat≠lI:=fun e=>by unfold dY at h; rw [if_pos ho,if_pos e] at h; omega
 have hh:=yq (l:=kx (cq l r) b.toNat) fun q hq=>mD hq
 rw [hv]
 unfold kF at hn ⊢
 rcases hh with ⟨_,e⟩|hh
 ·exact absurd e hn
 ·obtain ⟨x,hx,ex⟩:=hh.lo
  obtain ⟨o,ho,p,hp,u,hu,e⟩:=fB.1 hx
  obtain ⟨_,_,rfl⟩:=gM.1 e
  have D:r.Start≤p.2:=Gz hw _ p hp
  have E:0≤bP (cq l r) b.toNat:=by
   unfold bP
   cases e:(cq l r).mN[b.toNat]? with
   |none=>simp
   |some x=>have:=hw.least x (aN e); simp; omega
  simp only [gW] at ex
  omega
theorem zT {l:aU} {d:av} (h:g3 l d):0≤(cy l d).Lo∧(cy l d).Lo≤(cy l d).Hi∧(cy l d).Hi≤86400000:=by
 unfold g3 at h
 unfold cy
 split at h
 ·rename_i q; rw [if_pos (Or.inl q),h.2.1]; simp [cZ]
 ·rename_i q
  split at h
  ·rename_i A
   rw [if_pos (Or.inr A)]
   obtain ⟨⟨B,C,D⟩,_⟩:=h
   omega
  ·rename_i A
   rw [if_neg (fun z=>z.elim q A),zG h.1]
   have B:=wa h.1
   have C:=(qF h.1).time
   have D:=Hp h.1
   simp only
   omega
theorem GQ {l:aU} {d:av} (h:d.Out=true):cy l d=d.Time:=if_pos (Or.inl h)
theorem Ap {l:aU} {d:av} (h:d.Out=false∧d.eK=true):cy l d=d.Time:=if_pos (Or.inr h.2)
theorem uQ {l:aU} {d:av} (h:d.Out=false∧d.eK=false):cy l d=yG l d.cH:=if_neg (by simp [h])
theorem xK {l:aU} {d:av} (h:d.Out=true):g3 l d=(d.eK=false∧d.Time=cZ∧mm d.cH):=if_pos h
theorem xQ {l:aU} {d:av} (h:d.Out=false∧d.eK=true):g3 l d=(hO d.Time∧mm d.cH):=by unfold g3; rw [if_neg (by simp [h]),if_pos h.2]
theorem wQ {l:aU} {d:av} (h:d.Out=false∧d.eK=false):g3 l d=(dY l d.cH l.ct=0∧d.Time=cZ):=by unfold g3; rw [if_neg (by simp [h]),if_neg (by simp [h])]
structure eQ (r:bQ):Prop where
 num:1≤(r.aI.length:Int)∧(r.aI.length:Int)≤5
 zI:0≤r.gf∧r.gf≤5
 nh:1≤(r.aq.length:Int)∧(r.aq.length:Int)≤3
 ids: ∀ (i:Nat) x,r.aI[i]? =some x→(0≤x∧x≤9999)∧ ∀ y,0<i→r.aI[i-1]? =some y→y<x
 draw:r.bu.Perm ((List.range r.aI.length).map fun (k:Nat)=>(k:Int))
 mU: ∀ h∈r.aq,h.length=r.aI.length∧ ∀ d∈h,g3 r.ai d
noncomputable instance (r:bQ):Decidable (eQ r):=Classical.propDecidable _
noncomputable def cc (r:bQ):Int:=if dN r.ai=0 then (if eQ r then 0 else 60) else dN r.ai
end
section
theorem kZ {α β:Type} {f g:α→Option β}: ∀ {l:List α},(∀ x∈l,f x=g x)→l.filterMap f=l.filterMap g
 |[],_=>rfl
 |x::l,h=>by simp only [List.filterMap_cons,h x bU,kZ (l:=l) (fun y hy=>h y (cL _ hy))]
abbrev fp:=List (Int×ab)
/-- the sum of a sled in some heats, the first ones -/
noncomputable def eo (l:aU) (hs:List (List av)) (i:Nat):Nat→Option ab
 |0=>some ⟨0,0⟩
 |k+1=>match eo l hs i k,(hs[k]?).bind (·[i]?) with
  |some s,some d=>if d.Out=true then none else some ⟨s.Lo+(cy l d).Lo/10,s.Hi+(cy l d).Hi/10⟩
  |_,_=>none
noncomputable def c3 (l:aU) (hs:List (List av)) (n h i:Nat):fp:=(List.range n).filterMap fun q=>(eo l hs q (if q<i then h+1 else h)).map fun s=>((q:Int),s)
noncomputable def dn (r:bQ) (k:Nat):fp:=(List.range r.aI.length).filterMap fun q=>(eo r.ai r.aq q k).map fun s=>((q:Int),s)
noncomputable def ax (r:bQ):fp:=dn r r.aq.length
section
variable {l:aU} {hs:List (List av)} {n h i q:Nat} {s:ab} {d:av}
theorem vX:c3 l hs n h 0=(List.range n).filterMap fun q=>(eo l hs q h).map fun s=>((q:Int),s):=by
 unfold c3
 apply kZ
 intro q _
 rw [if_neg (Nat.not_lt_zero _)]
theorem GR:c3 l hs n h n=c3 l hs n (h+1) 0:=by
 rw [vX]
 unfold c3
 apply kZ
 intro q hq
 rw [if_pos (List.mem_range.1 hq)]
theorem Bw {x:List av} (hx:hs[h]? =some x) (hd:x[i]? =some d) (ho:d.Out=true):eo l hs i (h+1)=none:=by
 unfold eo
 rw [hx]
 simp only [Option.bind_some,hd]
 cases eo l hs i h with
 |none=>rfl
 |some s=>simp [ho]
theorem yR (h0:eo l hs i h=none):eo l hs i (h+1)=none:=by unfold eo; rw [h0]
theorem zz {x:List av} (hx:hs[h]? =some x) (hd:x[i]? =some d) (ho: ¬ d.Out=true) (hs0:eo l hs i h=some s):eo l hs i (h+1)=some ⟨s.Lo+(cy l d).Lo/10,s.Hi+(cy l d).Hi/10⟩:=by
 unfold eo
 rw [hx,hs0]
 simp only [Option.bind_some,hd,if_neg ho]
end
section
variable {l:aU} {hs:List (List av)} {n h i q:Nat} {s t:ab}
theorem Kp {K β:Type} [DecidableEq K] {L Y:List (K×β)} {t:K}:(L++Y).lookup t=match L.lookup t with |some v=>some v|none=>Y.lookup t:=by
 induction L with
 |nil=>rfl
 |cons p L ih=>
  obtain ⟨k,u⟩:=p
  by_cases e:t==k
  ·simp [List.lookup,e]
  ·have:(t==k)=false:=by simpa using e
   simp only [List.cons_append,List.lookup,this,ih]
theorem nZ {f:Nat→Option ab}: ∀ (n i:Nat),((List.range n).filterMap fun q=>(f q).map fun s=>((q:Int),s)).lookup (i:Int)=if i<n then f i else none
 |0,i=>by simp
 |n+1,i=>by
  rw [List.range_succ,List.filterMap_append,Kp,nZ n i]
  by_cases c:i<n
  ·rw [if_pos c,if_pos om]
   cases e:f i with
   |some s=>rfl
   |none=>
    simp only
    cases e2:f n with
    |none=>simp [e2]
    |some u=>
     have:((i:Int)==(n:Int))=false:=by simp only [beq_eq_false_iff_ne,ne_eq]; omega
     simp [e2,List.lookup,this]
  ·rw [if_neg c]
   simp only
   by_cases A:i=n
   ·subst A
    rw [if_pos om]
    cases e2:f i with
    |none=>simp [e2]
    |some u=>simp [e2]
   ·rw [if_neg om]
    have:((i:Int)==(n:Int))=false:=by simp only [beq_eq_false_iff_ne,ne_eq]; omega
    cases e2:f n with
    |none=>simp [e2]
    |some u=>simp [e2,List.lookup,this]
theorem sX:(c3 l hs n h i).lookup (q:Int)=if q<n then eo l hs q (if q<i then h+1 else h) else none:=nZ n q
theorem Kc {f g:Nat→Option ab} {n i:Nat} (hi:i<n) {s:ab} (hf:(f i).isSome=true) (hg:g i=some s) (hfg: ∀ q,q≠i→f q=g q):dB ((List.range n).filterMap fun q=>(f q).map fun s=>((q:Int),s)) (i:Int) s=(List.range n).filterMap fun q=>(g q).map fun s=>((q:Int),s):=by
 unfold dB
 rw [if_pos (by rw [nZ,if_pos hi]; exact hf),List.map_filterMap]
 apply kZ
 intro q _
 by_cases e:q=i
 ·subst e
  obtain ⟨u,hu⟩:=Option.isSome_iff_exists.1 hf
  rw [hu,hg]; simp
 ·rw [hfg q e]
  cases g q with
  |none=>rfl
  |some u=>
   have: ¬ ((q:Int)=(i:Int)):=by omega
   simp [this]
theorem Kg {f g:Nat→Option ab} {n i:Nat} (hg:g i=none) (hfg: ∀ q,q≠i→f q=g q):bR ((List.range n).filterMap fun q=>(f q).map fun s=>((q:Int),s)) (i:Int)=(List.range n).filterMap fun q=>(g q).map fun s=>((q:Int),s):=by
 unfold bR
 rw [List.filter_filterMap]
 apply kZ
 intro q _
 by_cases e:q=i
 ·subst e
  rw [hg]
  cases f q with
  |none=>rfl
  |some u=>simp
 ·rw [hfg q e]
  cases g q with
  |none=>rfl
  |some u=>
   have: ¬ ((q:Int)=(i:Int)):=by omega
   simp [this]
theorem HD (hi:i<n) (h0:(eo l hs i h).isSome=true) (h1:eo l hs i (h+1)=some s):dB (c3 l hs n h i) (i:Int) s=c3 l hs n h (i+1):=by
 unfold c3
 refine Kc hi (by rw [if_neg (Nat.lt_irrefl i)]; exact h0) (by rw [if_pos (Nat.lt_succ_self i)]; exact h1) fun q hq=>?_
 by_cases c:q<i
 ·rw [if_pos c,if_pos om]
 ·rw [if_neg c,if_neg om]
theorem Aq (h1:eo l hs i (h+1)=none):bR (c3 l hs n h i) (i:Int)=c3 l hs n h (i+1):=by
 unfold c3
 refine Kg (by rw [if_pos (Nat.lt_succ_self i)]; exact h1) fun q hq=>?_
 by_cases c:q<i
 ·rw [if_pos c,if_pos om]
 ·rw [if_neg c,if_neg om]
end
def j7 (m:fp) (i:Int):fp:=m.filter fun p=> !decide (p.1=i)
def gd (m:fp) (i n:Int):Nat:=(j7 m i).countP fun p=>decide (p.2.Hi<n)
def jd (m:fp) (i n:Int):Nat:=(j7 m i).countP fun p=>decide (p.2.Lo<n)
def g7 (m:fp) (i:Int) (own:ab):List Int:=own.Lo::((j7 m i).flatMap fun p=>[p.2.Lo+1,p.2.Hi+1]).filter fun n=>decide (own.Lo≤n∧n≤own.Hi)
def o4 (m:fp) (i:Int) (own:ab) (k:Int):Prop:= ∃ n∈g7 m i own,(gd m i n:Int)+1≤k∧k≤(jd m i n:Int)+1
noncomputable instance (m:fp) (i:Int) (own:ab) (k:Int):Decidable (o4 m i own k):=Classical.propDecidable _
noncomputable def cR (m:fp) (i:Int) (own:ab):List Int:=((List.range m.length).map fun (k:Nat)=>(k:Int)+1).filter fun k=>decide (o4 m i own k)
section
variable {m:fp} {i:Int} {own:ab}
/-- what a point stands for -/
theorem DU {x:Int} (h1:own.Lo≤x) (h2:x≤own.Hi): ∃ n∈g7 m i own,n≤x∧gd m i n=gd m i x∧jd m i n=jd m i x:=by
 -- the greatest point that is no greater
 have key: ∀ (d:Nat) (x:Int),own.Lo≤x→x≤own.Hi→(x-own.Lo).toNat=d→ ∃ n∈g7 m i own,n≤x∧gd m i n=gd m i x∧jd m i n=jd m i x:=by
  intro d
  induction d with
  |zero=>
   intro x h1 h2 hd
   have:x=own.Lo:=by omega
   exact ⟨own.Lo,bU ..,om,by rw [this],by rw [this]⟩
  |succ d ih=>
   intro x h1 h2 hd
   by_cases c:x∈g7 m i own
   ·exact ⟨x,c,Int.le_refl _,U,U⟩
   ·obtain ⟨n,hn,D,B,C⟩:=ih (x-1) om om om
    have A: ∀ p∈j7 m i,p.2.Lo+1≠x∧p.2.Hi+1≠x:=fun p hp=>by
     constructor<;>intro e<;>apply c<;>refine cL _ (List.mem_filter.2 ⟨List.mem_flatMap.2 ⟨p,hp,by rw [← e]; simp⟩,g6 ⟨h1,h2⟩⟩)
    refine ⟨n,hn,om,?_,?_⟩
    ·rw [B]
     unfold gd
     apply List.countP_congr
     intro p hp
     have:=(A p hp).2
     rw [decide_eq_true_eq,decide_eq_true_eq]
     omega
    ·rw [C]
     unfold jd
     apply List.countP_congr
     intro p hp
     have:=(A p hp).1
     rw [decide_eq_true_eq,decide_eq_true_eq]
     omega
 exact key _ x h1 h2 U
theorem C6 {n:Int} (ho:own.Lo≤own.Hi) (h:n∈g7 m i own):own.Lo≤n∧n≤own.Hi:=by
 rcases List.mem_cons.1 h with rfl|h
 ·omega
 ·exact of_decide_eq_true (List.mem_filter.1 h).2
/-- a rank comes about at some sum -/
theorem w5 (ho:own.Lo≤own.Hi) {k:Int}:o4 m i own k↔ ∃ x,own.Lo≤x∧x≤own.Hi∧(gd m i x:Int)+1≤k∧k≤(jd m i x:Int)+1:=by
 constructor
 ·rintro ⟨n,hn,A,B⟩
  have:=C6 ho hn
  exact ⟨n,this.1,this.2,A,B⟩
 ·rintro ⟨x,A,B,E,F⟩
  obtain ⟨n,hn,_,C,D⟩:=DU (m:=m) (i:=i) A B
  exact ⟨n,hn,by rw [C]; exact E,by rw [D]; exact F⟩
theorem FN (hi:m.lookup i≠none) {x:Int}:jd m i x+1≤m.length:=by
 unfold jd
 refine Nat.lt_of_le_of_lt List.countP_le_length ?_
 unfold j7
 obtain ⟨v,hv⟩:=Option.ne_none_iff_exists'.1 hi
 have hm: ∃ p∈m,p.1=i:=by
  clear hi
  induction m with
  |nil=>simp at hv
  |cons p m ih=>
   obtain ⟨a,b⟩:=p
   by_cases e:i=a
   ·exact ⟨_,bU ..,e.symm⟩
   ·have:(i==a)=false:=by simpa using e
    simp only [List.lookup,this] at hv
    obtain ⟨p,hp,e⟩:=ih hv
    exact ⟨p,cL _ hp,e⟩
 obtain ⟨p,hp,e⟩:=hm
 refine Nat.lt_of_le_of_ne (List.length_filter_le _ _) fun q=>?_
 have:=(List.filter_eq_self (p:=fun p:Int×ab=> !decide (p.1=i))).1 (List.filter_sublist.eq_of_length q) p hp
 simp [e] at this
theorem Ce (hi:m.lookup i≠none) {k:Int}:k∈cR m i own↔o4 m i own k:=by
 unfold cR
 rw [List.mem_filter,vr,decide_eq_true_eq]
 constructor
 ·rintro ⟨_,h⟩; exact h
 ·intro h
  refine ⟨?_,h⟩
  obtain ⟨n,_,A,B⟩:=h
  have:=FN hi (x:=n)
  exact ⟨(k-1).toNat,List.mem_range.2 om,om⟩
end
end
section
def nD (l:List Int):List (List Value):=l.map fun x=>[vI x]
theorem pL {l:List Int}:(nD l).length=l.length:=by simp [nD]
theorem AV {l:List Int} {k:Nat} {x:Int} (h:l[k]? =some x):(nD l)[k]? =some [vI x]:=by simp [nD,h]
theorem Cf {l:List Int} {k:Nat} {x:List Value} (h:(nD l)[k]? =some x): ∃ y,l[k]? =some y∧x=[vI y]:=by
 simp only [nD,eW,Option.map_eq_some_iff] at h
 obtain ⟨y,hy,rfl⟩:=h
 exact ⟨y,hy,U⟩
theorem yM {l:List Int}: ∀ x∈nD l,x.length=1:=fun x hx=>by
 simp only [nD,vr] at hx
 obtain ⟨y,_,rfl⟩:=hx
 rfl
theorem tf {l:List Int}:l.take (nD l).length=l:=by rw [pL,List.take_of_length_le (Nat.le_refl _)]
theorem jF {l:List Int} {k:Nat} {x:Int} (h:l[k]? =some x):l.take (k+1)=l.take k++[x]:=by
 rw [List.take_add_one,h]; rfl
def cp (l:List Int):List Int:=l.mergeSort fun a b=>decide (a≤b)
theorem eX {l:List Int}:(cp l).Perm l:=List.mergeSort_perm _ _
theorem j9 {l:List Int}:(cp l).Pairwise (· ≤ ·):=by
 have:=List.pairwise_mergeSort (le:=fun (a b:Int)=>decide (a≤b)) (fun a b c A B=>by simp at A B ⊢; omega) (fun a b=>by simp; omega) l
 exact this.imp fun h=>by simpa using h
@[simp] theorem e5 {l:List Int}:(cp l).length=l.length:=eX.length_eq
theorem ni {l m:List Int} (h1:m.Perm l) (h2:m.Pairwise (· ≤ ·)):m=cp l:=oz (h1.trans eX.symm) h2 j9
end
section
open Go.RowKit
def sC (s:ba):List Value:=[vS s.a s.n s.c]
theorem CA: ∀ s,(sC s).length=1:=fun s=>rfl
theorem JY (l:List ba): ∀ v∈(l.map sC).flatten,v.oneCell'=true:=kn (fun s=>rfl) l
def CS (l:List ab) (a:RA):ba:=⟨a.1,l.length,a.2⟩
def BV (l:List ab) (a:RA):List Value:=[vS a.1 l.length a.2]
def Gl (l:List ab) (a:RA):List aj:=[rd a.1 l.length 2 (l.map ab.cells)]
def CR (l:List ab) (a:RA):List aj:=[own a.1 a.2 FO 2 (l.map ab.cells)]
theorem Bb {ls:List (List ab)} {az:List RA}:(List.zipWith CS ls az).map sC=List.zipWith BV ls az:=by
 rw [List.map_zipWith]; rfl
theorem pM: ∀ (m:List ab) (a:RA) (w:World),(∀ X∈CR m a,X.holds w)→ ∀ X∈Gl m a,X.holds w:=fun m a w h X hX=>by
 simp only [Gl,bD] at hX
 subst hX
 have:=oN (h _ (List.mem_singleton.2 rfl))
 simpa using this
theorem yH {l:List (List ab)} {bz:List RA}:(bf (aR CR l bz)).wr=true:=by
 show (aR CR l bz).all (·.wr)=true
 rw [dI]
 intro X hX
 obtain ⟨k,m,a,_,_,h⟩:=hU hX
 simp only [CR,bD] at h
 subst h; rfl
theorem ke {ls:List (List ab)} {az:List RA} (h:az.length=ls.length):(List.zipWith BV ls az).length=ls.length:=by simp [h]
noncomputable def fY (r:bQ) (i:Nat):List (List ab):=(r.aq.take i).map fun h=>h.map (cy r.ai)
noncomputable def cr (r:bQ):List (List ab):=fY r r.aq.length
section
variable {r:bQ} {i:Nat} {h:List av} {tz:List RA} {a:RA}
theorem qX (hh:r.aq[i]? =some h):fY r (i+1)=fY r i++[h.map (cy r.ai)]:=by unfold fY; rw [List.take_add_one,hh,List.map_append]; rfl
theorem kM (hi:i≤r.aq.length):(fY r i).length=i:=by unfold fY; rw [List.length_map,List.length_take]; omega
theorem dy:(cr r).length=r.aq.length:=kM (Nat.le_refl _)
theorem yZ (hh:r.aq[i]? =some h):(cr r)[i]? =some (h.map (cy r.ai)):=by
 unfold cr fY
 rw [List.take_length,eW,hh]; rfl
theorem uB {m:List ab} (hh:r.aq[i]? =some h) (hm:(cr r)[i]? =some m):m=h.map (cy r.ai):=by
 rw [yZ hh] at hm
 exact (Option.some.inj hm).symm
theorem wS (hh:r.aq[i]? =some h) (hl:tz.length=i):List.zipWith CS (fY r (i+1)) (tz++[a])=List.zipWith CS (fY r i) tz++[CS (h.map (cy r.ai)) a]:=by
 have hi:=(List.getElem?_eq_some_iff.1 hh).1
 rw [qX hh,List.zipWith_append (by rw [kM om,hl])]
 rfl
theorem EO (hh:r.aq[i]? =some h) (hl:tz.length=i):aR CR (fY r i) tz++[own a.1 a.2 FO 2 ((h.map (cy r.ai)).map ab.cells)]=aR CR (fY r (i+1)) (tz++[a]):=by
 have hi:=(List.getElem?_eq_some_iff.1 hh).1
 rw [qX hh,j0 (by rw [kM om,hl])]
 simp [aR,CR]
end
theorem tM {lo hi:Int} {l:List Int}:mP lo hi l=true↔ ∀ x∈l,lo≤x∧x≤hi:=by
 unfold mP
 rw [Bool.not_eq_true',List.any_eq_false]
 constructor
 ·intro h x hx; have:=h x hx; simp only [decide_eq_true_eq] at this; omega
 ·intro h x hx; have:=h x hx; simp only [decide_eq_true_eq]; omega
abbrev Kt (n:Nat):List Int:=(List.range n).map fun (k:Nat)=>(k:Int)
theorem ym (n:Nat):(Kt n).Pairwise (· ≤ ·):=by
 unfold Kt
 rw [List.pairwise_map]
 exact List.pairwise_lt_range.imp fun h=>by omega
theorem qW {l:List Int} {n:Nat} (h:l.Perm (Kt n)):cp l=Kt n:=(ni h.symm (ym n)).symm
theorem Ct {l:List Int} {n:Nat} (hl:l.length=n) (h: ∀ j,j<n→ ∀ x,(cp l)[j]? =some x→x=(j:Int)):l.Perm (Kt n):=by
 have e:cp l=Kt n:=by
  apply List.ext_getElem
  ·simp [hl]
  ·intro j A B
   have C:j<n:=by simpa using B
   have:=h j C _ (eC A)
   simpa using this
 rw [← e]; exact eX.symm
def oa (r:bQ) (i:Nat):Prop:= ∀ j,j<i→(∀ x,(cp r.bu)[j]? =some x→x=(j:Int))∧ ∀ x y,r.aI[j]? =some x→0<j→r.aI[j-1]? =some y→y<x
def yS (r:bQ) (h:List av):Prop:=h.length=r.aI.length∧ ∀ d∈h,g3 r.ai d
def jQ (r:bQ) (i:Nat):Prop:= ∀ (j:Nat) h,j<i→r.aq[j]? =some h→yS r h
def nR (l:aU) (h:List av) (k:Nat):Prop:= ∀ (j:Nat) d,j<k→h[j]? =some d→g3 l d
section
variable {r:bQ} {i:Nat}
theorem zD:oa r 0:=fun j hj=>absurd hj (Nat.not_lt_zero _)
theorem sQ {x:Int} (h:oa r i) (hd:(cp r.bu)[i]? =some x) (e:x=(i:Int)) (hs: ∀ x y,r.aI[i]? =some x→0<i→r.aI[i-1]? =some y→y<x):oa r (i+1):=fun j hj=>by
 rcases Nat.lt_or_ge j i with q|q
 ·exact h j q
 ·obtain rfl:j=i:=by omega
  exact ⟨fun y hy=>by rw [hd] at hy; cases hy; exact e,hs⟩
theorem yY:jQ r 0:=fun j h hj=>absurd hj (Nat.not_lt_zero _)
theorem zj {h:List av} (hh:jQ r i) (hx:r.aq[i]? =some h) (ho:yS r h):jQ r (i+1):=fun j y hj hy=>by
 rcases Nat.lt_or_ge j i with q|q
 ·exact hh j y q hy
 ·obtain rfl:j=i:=by omega
  rw [hx] at hy; cases hy; exact ho
theorem xf {l:aU} {h:List av}:nR l h 0:=fun j d hj=>absurd hj (Nat.not_lt_zero _)
theorem wC {l:aU} {h:List av} {d:av} (ht:nR l h i) (hx:h[i]? =some d) (ho:g3 l d):nR l h (i+1):=fun j y hj hy=>by
 rcases Nat.lt_or_ge j i with q|q
 ·exact ht j y q hy
 ·obtain rfl:j=i:=by omega
  rw [hx] at hy; cases hy; exact ho
theorem GW {h:List av} (hl:h.length=r.aI.length) (ht:nR r.ai h i) (hi:h.length≤i):yS r h:=⟨hl,fun d hd=>by
 obtain ⟨j,hj⟩:=List.getElem?_of_mem hd
 exact ht j d (by have:=(List.getElem?_eq_some_iff.1 hj).1; omega) hj⟩
theorem Eg {n:Nat} (hn:n=r.aI.length) (h1:1≤(r.aI.length:Int)∧(r.aI.length:Int)≤5) (h2:r.bu.length=r.aI.length) (h3:0≤r.gf∧r.gf≤5) (h4:1≤(r.aq.length:Int)∧(r.aq.length:Int)≤3) (h5:mP 0 9999 r.aI=true)
 (h6:oa r n) (h7:jQ r i) (hi:r.aq.length≤i):eQ r:=by
 subst hn
 refine ⟨h1,h3,h4,fun k x hx=>⟨tM.1 h5 x (aN hx),fun y hk hy=>?_⟩,Ct h2 fun j hj=>(h6 j hj).1,fun h hh=>?_⟩
 ·exact (h6 k (List.getElem?_eq_some_iff.1 hx).1).2 x y hx hk hy
 ·obtain ⟨j,hj⟩:=List.getElem?_of_mem hh
  exact h7 j h (by have:=(List.getElem?_eq_some_iff.1 hj).1; omega) hj
theorem eQ.Fj (h:eQ r):r.bu.length=r.aI.length:=by have:=h.draw.length_eq; simpa using this
theorem eQ.ins (h:eQ r):mP 0 9999 r.aI=true:=tM.2 fun x hx=>by
 obtain ⟨j,hj⟩:=List.getElem?_of_mem hx
 exact (h.ids j x hj).1
theorem eQ.drawn (h:eQ r) {x:Int} (hx:(cp r.bu)[i]? =some x):x=(i:Int):=by
 rw [qW h.draw] at hx
 have hi:=(List.getElem?_eq_some_iff.1 hx).1
 simp at hi
 rw [eW,List.getElem?_range hi] at hx
 exact (Option.some.inj hx).symm
theorem eQ.uM (h:eQ r):jQ r i:=fun j x _ hx=>h.mU x (aN hx)
theorem tm (h: ¬ dN r.ai=0):cc r=dN r.ai:=if_neg h
theorem iI (h:dN r.ai=0) (hn: ¬ eQ r):cc r=60:=by unfold cc; rw [if_pos h,if_neg hn]
theorem wG (h:dN r.ai=0) (hn:eQ r):cc r=0:=by unfold cc; rw [if_pos h,if_pos hn]
theorem gQ (h:cc r=0):dN r.ai=0∧eQ r:=by
 unfold cc at h
 split at h
 ·split at h
  ·exact ⟨asm,asm⟩
  ·cases h
 ·exact absurd h asm
end
section
variable {r:bQ} {k i n h:Nat} {s:ab} {l:aU} {hs:List (List av)}
theorem uU: ∀ {k:Nat} {s:ab},jQ r k→k≤r.aq.length→eo r.ai r.aq i k=some s→0≤s.Lo∧s.Lo≤s.Hi∧s.Hi≤8640000*(k:Int)
 |0,s,_,_,h=>by
  simp only [eo,Option.some.injEq] at h
  subst h; simp
 |k+1,s,hh,hk,h=>by
  unfold eo at h
  split at h
  ·rename_i u d hu hd
   split at h
   ·cases h
   ·cases h
    have A:=uU (fun j x hj hx=>hh j x om hx) om hu
    obtain ⟨x,hx,hd⟩:=Option.bind_eq_some_iff.1 hd
    have B:=zT ((hh k x om hx).2 d (aN hd))
    simp only
    push_cast
    omega
  ·cases h
theorem HQ:dB (c3 l hs i 0 0) (i:Int) ⟨0,0⟩=c3 l hs (i+1) 0 0:=by
 have A:(c3 l hs i 0 0).lookup (i:Int)=none:=by rw [sX,if_neg (Nat.lt_irrefl i)]
 unfold dB
 rw [A]
 simp only [Option.isSome_none,Bool.false_eq_true,if_false]
 unfold c3
 rw [List.range_succ,List.filterMap_append]
 simp [eo]
theorem Dw (hi:i<n):(c3 l hs n h i).lookup (i:Int)=eo l hs i h:=by rw [sX,if_pos hi,if_neg (Nat.lt_irrefl i)]
theorem Ew {α β:Type} {f:α→β} {tr:List β} {ht:List α} {x:β} {d:α} (e:tr=ht.map f) (hx:tr[i]? =some x) (hd:ht[i]? =some d):x=f d:=by
 rw [e,eW,hd] at hx
 exact (Option.some.inj hx).symm
theorem Ht:c3 r.ai r.aq r.aI.length h 0=dn r h:=vX
end
end
section
def q6 (key:Int→Int) (l:List Int) (x:Int):List Int:=l.takeWhile (fun y=>decide (key y≤key x))++x::l.dropWhile (fun y=>decide (key y≤key x))
def di (key:Int→Int) (l:List Int):List Int:=l.foldl (q6 key) []
def zw (key:Int→Int) (l:List Int):Prop:=l.Pairwise fun a b=>key a≤key b
section
variable {key:Int→Int} {l A B D:List Int} {x u v:Int} {i j:Nat}
theorem BH:(q6 key l x).Perm (x::l):=by
 unfold q6
 refine List.perm_middle.trans ?_
 rw [List.takeWhile_append_dropWhile]
theorem IF (hA: ∀ y∈A,key y≤key x) (hB: ∀ y∈B,key x<key y):(A++B).takeWhile (fun y=>decide (key y≤key x))=A∧(A++B).dropWhile (fun y=>decide (key y≤key x))=B:=by
 induction A with
 |nil=>
  cases B with
  |nil=>simp
  |cons b B=>
   have h:=hB b bU
   have:decide (key b≤key x)=false:=df om
   rw [List.nil_append,List.takeWhile_cons,List.dropWhile_cons,this]
   exact ⟨U,U⟩
 |cons a A ih=>
  have h:=ih fun y hy=>hA y (cL _ hy)
  have:decide (key a≤key x)=true:=g6 (hA a bU)
  simp only [List.cons_append,List.takeWhile,List.dropWhile,this]
  exact ⟨by rw [h.1],h.2⟩
theorem r5 (hA: ∀ y∈A,key y≤key x) (hB: ∀ y∈B,key x<key y):q6 key (A++B) x=A++x::B:=by
 unfold q6
 rw [(IF hA hB).1,(IF hA hB).2]
theorem wu (x:Int): ∀ {l:List Int},zw key l→ ∃ A B,l=A++B∧(∀ y∈A,key y≤key x)∧ ∀ y∈B,key x<key y
 |[],_=>⟨[],[],rfl,(fun y h=>by cases h),fun y h=>by cases h⟩
 |a::l,h=>by
  unfold zw at h
  rw [List.pairwise_cons] at h
  by_cases c:key a≤key x
  ·obtain ⟨A,B,e,hA,hB⟩:=wu x (l:=l) h.2
   refine ⟨a::A,B,by rw [e]; rfl,fun y hy=>?_,hB⟩
   rcases List.mem_cons.1 hy with rfl|hy
   ·exact c
   ·exact hA y hy
  ·refine ⟨[],a::l,rfl,fun y hy=>(by cases hy),fun y hy=>?_⟩
   rcases List.mem_cons.1 hy with rfl|hy
   ·omega
   ·have:=h.1 y hy; omega
theorem HR (h:zw key l):zw key (q6 key l x):=by
 obtain ⟨A,B,rfl,hA,hB⟩:=wu x h
 rw [r5 hA hB]
 unfold zw at h ⊢
 rw [List.pairwise_append] at h ⊢
 refine ⟨h.1,List.pairwise_cons.2 ⟨fun y hy=>by have:=hB y hy; omega,h.2.1⟩,fun y hy z hz=>?_⟩
 rcases List.mem_cons.1 hz with rfl|hz
 ·exact hA y hy
 ·exact h.2.2 y hy z hz
theorem wN:di key (l++[x])=q6 key (di key l) x:=by unfold di; rw [List.foldl_append]; rfl
theorem xJ (h:l[i]? =some x):di key (l.take (i+1))=q6 key (di key (l.take i)) x:=by rw [jF h,wN]
theorem rI: ∀ {l m:List Int},(l.foldl (q6 key) m).Perm (m++l)
 |[],m=>by simp
 |x::l,m=>(rI (l:=l) (m:=q6 key m x)).trans (((BH).append_right l).trans (by
  rw [List.cons_append]
  exact List.perm_middle.symm))
theorem nF:(di key l).Perm l:=by simpa [di] using rI (key:=key) (l:=l) (m:=[])
theorem xC: ∀ {l m:List Int},zw key m→zw key (l.foldl (q6 key) m)
 |[],m,h=>h
 |x::l,m,h=>xC (l:=l) (HR h)
theorem qn:zw key (di key l):=xC List.Pairwise.nil
theorem iD:(di key l).length=l.length:=nF.length_eq
def wi (key:Int→Int) (l:List Int) (i j:Nat) (D:List Int):Prop:= ∃ A B x,l[i]? =some x∧A.length=j∧di key (l.take i)=A++B∧(∀ y∈B,key x<key y)∧D=A++x::(B++l.drop (i+1))
def pn (key:Int→Int) (l:List Int) (i:Nat) (D:List Int):Prop:=D=di key (l.take i)++l.drop i
theorem F4 (h:0<l.length):pn key l 1 l:=by
 cases l with
 |nil=>simp at h
 |cons a l=>simp [pn,di,q6]
theorem FG (hi:l.length≤i) (h:pn key l i D):D=di key l:=by
 subst h; rw [List.take_of_length_le hi,List.drop_of_length_le hi,List.append_nil]
theorem yl (hi:i<l.length) (h:pn key l i D):wi key l i i D:=by
 have hx:l[i]? =some l[i]:=eC hi
 refine ⟨di key (l.take i),[],l[i],hx,by rw [iD,List.length_take]; omega,sm,fun y hy=>(by cases hy),?_⟩
 rw [h,List.nil_append,List.drop_eq_getElem_cons hi]
theorem sn: ∀ {A:List Int},0<A.length→ ∃ A' y,A=A'++[y]:=fun {A} h=>⟨A.dropLast,A.getLast (by intro e; subst e; simp at h),(List.dropLast_concat_getLast _).symm⟩
theorem AU (hj:0<j) (h:wi key l i j D) (hu:D[j]? =some u) (hv:D[j-1]? =some v) (hlt:key u<key v):wi key l i (j-1) ((D.set j v).set (j-1) u):=by
 obtain ⟨A,B,x,hx,hl,he,hB,rfl⟩:=h
 obtain ⟨A',y,rfl⟩:=sn (A:=A) om
 simp only [List.length_append,List.length_cons,List.length_nil] at hl
 subst hl
 have C:(A'++[y]++x::(B++l.drop (i+1)))=A'++y::x::(B++l.drop (i+1)):=by simp
 rw [C] at hu hv ⊢
 rw [List.getElem?_append_right om,show A'.length+(0+1)-A'.length=1 by omega] at hu
 rw [show A'.length+(0+1)-1=A'.length by omega,List.getElem?_append_right (Nat.le_refl _),Nat.sub_self] at hv
 simp at hu hv
 subst hu hv
 refine ⟨A',y::B,x,hx,om,by rw [he]; simp,fun z hz=>?_,?_⟩
 ·rcases List.mem_cons.1 hz with rfl|hz
  ·exact hlt
  ·exact hB z hz
 ·rw [show A'.length+(0+1)-1=A'.length by omega,List.set_append_right _ _ om,List.set_append_right _ _ (Nat.le_refl _),show A'.length+(0+1)-A'.length=1 by omega,Nat.sub_self]
  simp
theorem uk (h:wi key l i j D) (hc: ∀ A,A.length=j→(∃ C,D=A++C)→zw key A→ ∀ x,l[i]? =some x→D[j]? =some x→ ∀ y∈A,key y≤key x):pn key l (i+1) D:=by
 obtain ⟨A,B,x,hx,hl,he,hB,rfl⟩:=h
 unfold pn
 have E:zw key (A++B):=he▸qn
 rw [xJ hx,he,r5 (hc A hl ⟨_,rfl⟩ (by unfold zw at E ⊢; rw [List.pairwise_append] at E; exact E.1) x hx (by rw [List.getElem?_append_right om,← hl]; simp)) hB]
 simp
theorem tD (hj: ¬ 0<j) (h:wi key l i j D):pn key l (i+1) D:=uk h fun A hl _ _ x _ _ y hy=>by
 have:A=[]:=nV om
 subst this; cases hy
theorem uA (hj:0<j) (h:wi key l i j D) (hu:D[j]? =some u) (hv:D[j-1]? =some v) (hlt: ¬ key u<key v):pn key l (i+1) D:=uk h fun A hl hC hA x hx hd y hy=>by
 obtain ⟨C,hC⟩:=hC
 obtain ⟨A',z,rfl⟩:=sn (A:=A) om
 simp only [List.length_append,List.length_cons,List.length_nil] at hl
 rw [hd] at hu; cases hu
 have e:D[j-1]? =some z:=by
  rw [hC,List.append_assoc,List.getElem?_append_right om,show j-1-A'.length=0 by omega]; simp
 rw [e] at hv; cases hv
 unfold zw at hA
 rw [List.pairwise_append] at hA
 rcases List.mem_append.1 hy with hy|hy
 ·have:=hA.2.2 y hy v sm; omega
 ·rw [bD] at hy; subst hy; omega
end
end
section
def oq (k:Nat) (l:List Int):List Int:=(l.take k).reverse++l.drop k
def BC (l:List Int) (k i:Nat) (D:List Int):Prop:=D.length=l.length∧ ∀ p,p<l.length→D[p]? =l[if p<k∧(p<i∨k≤p+i) then k-1-p else p]?
section
variable {l D:List Int} {k i j:Nat} {u v:Int}
theorem iq:(oq k l).length=l.length:=by unfold oq; rw [List.length_append,List.length_reverse,List.length_take,List.length_drop]; omega
theorem Gh:BC l k 0 l:=⟨rfl,fun p hp=>by rw [if_neg om]⟩
theorem E7 (hk:k≤l.length) (hij:i<j) (hj:j+i+1=k) (h:BC l k i D) (hu:D[i]? =some u) (hv:D[j]? =some v):BC l k (i+1) ((D.set i v).set j u):=by
 refine ⟨by rw [List.length_set,List.length_set]; exact h.1,fun p hp=>?_⟩
 have hl:=h.1
 have hi:=h.2 i om
 have A:=h.2 j om
 rw [hu,if_neg om] at hi
 rw [hv,if_neg om] at A
 by_cases B:p=j
 ·subst B
  rw [List.getElem?_set_self (by rw [List.length_set]; omega),if_pos om,show k-1-p=i by omega,hi]
 ·rw [List.getElem?_set_ne (fun e=>B e.symm)]
  by_cases C:p=i
  ·subst C
   rw [List.getElem?_set_self om,if_pos om,show k-1-p=j by omega,A]
  ·rw [List.getElem?_set_ne (fun e=>C e.symm),h.2 p hp]
   by_cases c:p<k∧(p<i∨k≤p+i)
   ·rw [if_pos c,if_pos om]
   ·rw [if_neg c,if_neg om]
theorem GG (hk:k≤l.length) (hi:k≤2*i+1) (h:BC l k i D):D=oq k l:=by
 apply List.ext_getElem?
 intro p
 by_cases hp:p<l.length
 ·rw [h.2 p hp]
  unfold oq
  by_cases c:p<k
  ·rw [List.getElem?_append_left (by rw [List.length_reverse,List.length_take]; omega),List.getElem?_reverse (by rw [List.length_take]; omega),List.length_take,Nat.min_eq_left hk,List.getElem?_take]
   rw [if_pos (show k-1-p<k by omega)]
   by_cases A:p<k∧(p<i∨k≤p+i)
   ·rw [if_pos A]
   ·rw [if_neg A,show k-1-p=p by omega]
  ·rw [if_neg om,List.getElem?_append_right (by rw [List.length_reverse,List.length_take]; omega),List.length_reverse,List.length_take,Nat.min_eq_left hk,List.getElem?_drop,show k+(p-k)=p by omega]
 ·rw [List.getElem?_eq_none (by rw [h.1]; omega),List.getElem?_eq_none (by rw [iq]; omega)]
end
end
section
def ar (m:fp) (i:Int):ab:=(m.lookup i).getD cZ
def qY (r:bQ) (i:Int):Prop:=0≤i∧i≤(r.aI.length:Int)-1
instance (r:bQ) (i:Int):Decidable (qY r i):=by unfold qY; infer_instance
noncomputable def gU (r:bQ) (i:Int):Int:=if cc r=0 then (if qY r i then (if (ax r).lookup i=none then 6 else 0) else 2) else cc r
noncomputable def mY (r:bQ) (i:Int):ab:=if gU r i=0 then ar (ax r) i else cZ
noncomputable def je (r:bQ) (a b:Int):Int:=if cc r=0 then (if qY r a∧qY r b∧a≠b then (if (ax r).lookup a=none∨(ax r).lookup b=none then 6 else 0) else 2) else cc r
def xA (s t:ab):Int:=if s.Hi<t.Lo then 2 else if s.Lo<t.Hi then 1 else 0
def oD (s t:ab):Int:=if s=t∧s.Lo=s.Hi then 2 else if s.Lo≤t.Hi∧t.Lo≤s.Hi then 1 else 0
noncomputable def qc (r:bQ) (a b:Int):Int:=if je r a b=0 then xA (ar (ax r) a) (ar (ax r) b) else 0
noncomputable def mO (r:bQ) (a b:Int):Int:=if je r a b=0 then oD (ar (ax r) a) (ar (ax r) b) else 0
noncomputable def gF (r:bQ) (i:Int):List Int:=if gU r i=0 then cR (ax r) i (ar (ax r) i) else []
noncomputable def js (r:bQ) (h i:Int):Int:=if cc r=0 then (if (0≤h∧h≤(r.aq.length:Int)-1)∧qY r i then (if ((r.aq[h.toNat]?).bind (·[i.toNat]?)).any (·.Out)=true then 6 else 0) else 2) else cc r
noncomputable def fz (r:bQ) (h i:Int):ab:=if js r h i=0 then ((((r.aq[h.toNat]?).bind (·[i.toNat]?)).map (cy r.ai)).getD cZ) else cZ
noncomputable def qw (r:bQ) (h:Nat):List Int:=let l:=di (fun i=>(ar (dn r h) i).Hi) (r.bu.filter fun i=>((dn r h).lookup i).isSome); oq (min r.gf.toNat l.length) l
noncomputable def e8 (r:bQ) (h:Int):Int:=if cc r=0 then (if 0≤h∧h≤(r.aq.length:Int) then 0 else 2) else cc r
noncomputable def e9 (r:bQ) (h:Int):List Int:=if e8 r h=0 then (if h=0 then r.bu else qw r h.toNat) else []
section
variable {r:bQ} {i a b:Int}
theorem pW {m:fp} {i:Int} (h:(m.lookup i).isSome=true): ¬ m.lookup i=none:=fun e=>by rw [e] at h; cases h
theorem p8 {m:fp} {i:Int} (h:(m.lookup i).isSome=false):m.lookup i=none:=by cases e:m.lookup i with |none=>rfl|some v=>rw [e] at h; cases h
theorem tL (h:gU r i=0):cc r=0∧qY r i∧(ax r).lookup i≠none:=by
 unfold gU at h
 split at h
 ·split at h
  ·split at h
   ·cases h
   ·exact ⟨asm,asm,asm⟩
  ·cases h
 ·exact absurd h asm
theorem uo (h:je r a b=0):cc r=0∧(qY r a∧qY r b∧a≠b)∧(ax r).lookup a≠none∧(ax r).lookup b≠none:=by
 unfold je at h
 split at h
 ·split at h
  ·split at h
   ·cases h
   ·rename_i _ _ q
    exact ⟨asm,asm,fun e=>q (.inl e),fun e=>q (.inr e)⟩
  ·cases h
 ·exact absurd h asm
theorem uj {k:Nat} {p:Int×ab} (h:p∈dn r k): ∃ q:Nat,q<r.aI.length∧p.1=(q:Int)∧eo r.ai r.aq q k=some p.2:=by
 unfold dn at h
 obtain ⟨q,hq,e⟩:=List.mem_filterMap.1 h
 obtain ⟨s,hs,rfl⟩:=Option.map_eq_some_iff.1 e
 exact ⟨q,List.mem_range.1 hq,U,hs⟩
theorem AF {k:Nat} (h:cc r=0) (hk:k≤r.aq.length): ∀ p∈dn r k,0≤p.2.Lo∧p.2.Lo≤p.2.Hi∧p.2.Hi≤30000000:=fun p hp=>by
 obtain ⟨q,_,_,hs⟩:=uj hp
 have A:=uU (gQ h).2.uM hk hs
 have B:=(gQ h).2.nh
 omega
theorem lR (h:cc r=0): ∀ p∈ax r,0≤p.2.Lo∧p.2.Lo≤p.2.Hi∧p.2.Hi≤30000000:=AF h (Nat.le_refl _)
theorem qy {k:Nat}:(dn r k).length≤r.aI.length:=by
 unfold dn
 refine Nat.le_trans (List.length_filterMap_le _ _) ?_
 rw [List.length_range]; exact Nat.le_refl _
theorem l8 (h:cc r=0):(ax r).length≤5:=by
 have A:=qy (r:=r) (k:=r.aq.length)
 have B:=(gQ h).2.num
 unfold ax; omega
theorem G6 {s t:ab}:(if decide (s.Hi<t.Lo)=true then (2:Int) else if decide (s.Lo<t.Hi)=true then 1 else 0)=xA s t:=by simp only [decide_eq_true_eq]; rfl
theorem Dy {s t:ab} (h:s=t):(if decide (max s.Lo t.Lo=min s.Hi t.Hi)=true then (2:Int) else if decide (max s.Lo t.Lo≤min s.Hi t.Hi)=true then 1 else 0)=oD s t:=by
 subst h
 simp only [decide_eq_true_eq,oD,Int.max_self,Int.min_self,true_and,and_self]
theorem HT {s t:ab} (hs:s.Lo≤s.Hi) (ht:t.Lo≤t.Hi) (h: ¬ s=t):(if false=true then (2:Int) else if decide (max s.Lo t.Lo≤min s.Hi t.Hi)=true then 1 else 0)=oD s t:=by
 unfold oD
 rw [if_neg dc,if_neg (fun q:s=t∧s.Lo=s.Hi=>h q.1)]
 by_cases c:s.Lo≤t.Hi∧t.Lo≤s.Hi
 ·rw [if_pos c,if_pos (g6 om)]
 ·rw [if_neg c,if_neg (by rw [decide_eq_true_eq]; omega)]
theorem rK (h: ¬ cc r=0):gU r i=cc r:=if_neg h
theorem F1 (h:cc r=0) (hi: ¬ (0≤i∧i≤(r.aI.length:Int)-1)):gU r i=2:=by unfold gU; rw [if_pos h,if_neg (show ¬ qY r i from hi)]
theorem tu (h:cc r=0) (hi:0≤i∧i≤(r.aI.length:Int)-1) (hl:((ax r).lookup i).isSome=false):gU r i=6:=by unfold gU; rw [if_pos h,if_pos (show qY r i from hi),if_pos (p8 hl)]
theorem Gy (h:cc r=0) (hi:0≤i∧i≤(r.aI.length:Int)-1) (hl:((ax r).lookup i).isSome=true):gU r i=0:=by unfold gU; rw [if_pos h,if_pos (show qY r i from hi),if_neg (pW hl)]
theorem Ef (h: ¬ cc r=0):je r a b=cc r:=if_neg h
theorem xo (h:cc r=0) (hi: ¬ ((0≤a∧a≤(r.aI.length:Int)-1)∧(0≤b∧b≤(r.aI.length:Int)-1)∧a≠b)):je r a b=2:=by unfold je; rw [if_pos h,if_neg (show ¬ (qY r a∧qY r b∧a≠b) from hi)]
theorem pS (h:cc r=0) (hi:(0≤a∧a≤(r.aI.length:Int)-1)∧(0≤b∧b≤(r.aI.length:Int)-1)∧a≠b) (hl:((ax r).lookup a).isSome=false∨((ax r).lookup b).isSome=false):je r a b=6:=by
 unfold je; rw [if_pos h,if_pos (show qY r a∧qY r b∧a≠b from hi),if_pos (hl.imp p8 p8)]
theorem GM (h:cc r=0) (hi:(0≤a∧a≤(r.aI.length:Int)-1)∧(0≤b∧b≤(r.aI.length:Int)-1)∧a≠b) (h1:((ax r).lookup a).isSome=true) (h2:((ax r).lookup b).isSome=true):je r a b=0:=by
 unfold je; rw [if_pos h,if_pos (show qY r a∧qY r b∧a≠b from hi),if_neg (fun q=>q.elim (pW h1) (pW h2))]
end
end
end Go.Proofs.YtadjgjnicdcjbaaGreatDoor
