/-
 The statement raceTied_said, part 4 of 8: Short, Grow, Global, RunA, Tab, Run, Comp, Ret, LoopK, MapK, Watch, Passes, Keys, MapR, RangeG, Nest, WMaps, WBounds, PassG, Drop, Spot, First, Line, Wrap, Goes, OpenW, Wheres, ExL6, LineR, Race, RaceS, Vals, RaceO, Ord, Rev.
 Conditions: none.
-/
import Derived.Test.YtdllkkdchkhimaaGreatDoorTz1
import Derived.Test.YtdllkkdchkhimaaGreatDoorTz2
import Derived.Test.YtdllkkdchkhimaaGreatDoorTz3
import Derived.Test.YtdllkkdchkhimaaGreatDoorProg
import Derived.KernelRfl
import Derived.WideKeyRuns
namespace Go.Proofs.YtdllkkdchkhimaaGreatDoor
set_option maxRecDepth 100000
set_option maxHeartbeats 4000000
set_option linter.unusedVariables false
section
open Go.RowKit
/-- an operation that hands v to its slot d -/
structure SE (E:fg) (ops:Array Oper) (o:Oper) (D:List Deferred) (L:List (Nat×Value)) (C:List av) (v:Value) (d:Nat):Prop where
 h:SD E ops o D L C v
 o:o.dst=some d
 n:Nat.blt d E.n=true
theorem rS {E:fg} {ops:Array Oper} {Q:c_} {o:Oper} {rest:List Oper} {D:List Deferred} {L:List (Nat×Value)} {C:List av} {v:Value} {d:Nat}
 (h:SE E ops o D L C v d) (k:RJ E ops Q rest D ((d,v)::L) C):RJ E ops Q (o::rest) D L C:=Re h.h h.o h.n k
theorem dS {E:fg} {ops:Array Oper} {F:List (Nat×Value)→Prop} {o:Oper} {rest:List Oper} {D:List Deferred} {L:List (Nat×Value)} {C:List av} {v:Value} {d:Nat}
 (h:SE E ops o D L C v d) (k:DJ E ops D C F rest ((d,v)::L)):DJ E ops D C F (o::rest) L:=QX h.h h.o h.n k
theorem eS {E:fg} {ops:Array Oper} {D:List Deferred} {C' C1:List av} {F:List (Nat×Value)→Prop} {bs:List Bool} {o:Oper} {l rest:List Oper} {L:List (Nat×Value)} {v:Value} {d:Nat}
 (hl:l=o::rest) (h:SE E ops o D L C' v d) (k:pT E ops D C' C1 F bs rest ((d,v)::L)):pT E ops D C' C1 F (false::bs) l L:=Rb h.h hl h.o h.n k
theorem fS {E:fg} {ops:Array Oper} {D:List Deferred} {C' C1:List av} {F:List (Nat×Value)→Prop} {bs:List Bool} {o:Oper} {l rest:List Oper} {L:List (Nat×Value)} {v:Value} {d:Nat}
 (hl:l=o::rest) (h:SE E ops o D L C1 v d) (k:pT E ops D C' C1 F bs rest ((d,v)::L)):pT E ops D C' C1 F (true::bs) l L:=Rk h.h hl h.o h.n k
def gB (n:Nat) (ops:Array Oper) (L:List (Nat×Value)) (d:Nat) (g:Option (Nat×Bool)):Bool:=jq ops L g&&Nat.blt d n
theorem Ox {n:Nat} {ops:Array Oper} {L:List (Nat×Value)} {d:Nat} {g:Option (Nat×Bool)} (h:gB n ops L d g=true):jq ops L g=true:=by
 unfold gB at h; rw [cP] at h; exact h.1
theorem OV {n:Nat} {ops:Array Oper} {L:List (Nat×Value)} {d:Nat} {g:Option (Nat×Bool)} (h:gB n ops L d g=true):Nat.blt d n=true:=by
 unfold gB at h; rw [cP] at h; exact h.2
def vF (n:Nat) (ops:Array Oper) (L:List (Nat×Value)) (d:Nat) (g:Option (Nat×Bool)) (x:Operand):Option Value:=match gB n ops L d g with
 |true=>ev L x
 |false=>none
def bF (n:Nat) (ops:Array Oper) (L:List (Nat×Value)) (d:Nat) (g:Option (Nat×Bool)) (x y:Operand):Option (Value×Value):=match gB n ops L d g with
 |true=>match ev L x,ev L y with
  |some u,some v=>some (u,v)
  |_,_=>none
 |false=>none
def pF (n:Nat) (ops:Array Oper) (L:List (Nat×Value)) (d:Nat) (g:Option (Nat×Bool)) (c x y:Operand):Option Value:=match gB n ops L d g with
 |true=>match ev L c with
  |some (.bool true)=>ev L x
  |some (.bool false)=>ev L y
  |_=>none
 |false=>none
def xF (n:Nat) (ops:Array Oper) (L:List (Nat×Value)) (d:Nat) (g:Option (Nat×Bool)) (x:Operand) (i:Nat):Option Value:=match vF n ops L d g x with
 |some (.tuple vs)=>vs.toList[i]?
 |_=>none
def uF (n:Nat) (ops:Array Oper) (L:List (Nat×Value)) (d:Nat) (g:Option (Nat×Bool)) (xs ys:List Operand):Option (List Value×List Value):=match gB n ops L d g with
 |true=>match evs L xs,evs L ys with
  |some u,some v=>some (u,v)
  |_,_=>none
 |false=>none
def cF (n:Nat) (ops:Array Oper) (L:List (Nat×Value)) (d:Nat) (g:Option (Nat×Bool)) (fop:Operand) (xs:List Operand):Option (FuncId×List Value):=match gB n ops L d g with
 |true=>match ev L fop,evs L xs with
  |some (.func (.func f) fi ca),some vs=>some (f,fi.toList++vs++ca.toList)
  |_,_=>none
 |false=>none
theorem iJ {n:Nat} {ops:Array Oper} {L:List (Nat×Value)} {d:Nat} {g:Option (Nat×Bool)} {x:Operand} {v:Value} (h:vF n ops L d g x=some v):jq ops L g=true∧Nat.blt d n=true∧ev L x=some v:=by
 unfold vF at h
 split at h
 ·rename_i hb; exact ⟨Ox hb,OV hb,h⟩
 ·cases h
theorem qs {n:Nat} {ops:Array Oper} {L:List (Nat×Value)} {d:Nat} {g:Option (Nat×Bool)} {x y:Operand} {u v:Value} (h:bF n ops L d g x y=some (u,v)):jq ops L g=true∧Nat.blt d n=true∧ev L x=some u∧ev L y=some v:=by
 unfold bF at h
 split at h
 ·rename_i hb
  split at h
  ·rename_i hx hy; cases h; exact ⟨Ox hb,OV hb,hx,hy⟩
  ·cases h
 ·cases h
theorem Qh {n:Nat} {ops:Array Oper} {L:List (Nat×Value)} {d:Nat} {g:Option (Nat×Bool)} {x y:List Operand} {u v:List Value} (h:uF n ops L d g x y=some (u,v)):jq ops L g=true∧Nat.blt d n=true∧evs L x=some u∧evs L y=some v:=by
 unfold uF at h
 split at h
 ·rename_i hb
  split at h
  ·rename_i hx hy; cases h; exact ⟨Ox hb,OV hb,hx,hy⟩
  ·cases h
 ·cases h
section
variable {E:fg} {ops:Array Oper} {Q:c_} {rest:List Oper} {D:List Deferred} {L:List (Nat×Value)} {C:List av}
variable {d:Nat} {ty:TypeId} {ps:String} {af:Array Edge} {g:Option (Nat×Bool)}
theorem SX {o:Oper} {v:Value} (h:SD E ops o D L C v) (ho:o.dst=some d) (hd:Nat.blt d E.n=true):SE E ops o D L C v d:=⟨h,ho,hd⟩
theorem MV {x:Operand} {v:Value} (h:vF E.n ops L d g x=some v):SE E ops ⟨some d,.move x,ty,ps,af,g⟩ D L C v d:=by
 obtain ⟨A,B,F⟩:=iJ h; exact ⟨FC A F,rfl,B⟩
theorem AG {x:Operand} {v:Value} (h:vF E.n ops L d g x=some v):SE E ops ⟨some d,.assign x,ty,ps,af,g⟩ D L C v d:=by
 obtain ⟨A,B,F⟩:=iJ h; exact ⟨yG A F,rfl,B⟩
theorem OX {op:Op} (h:(CP ops L g&&Nat.blt d E.n)=true):SE E ops ⟨some d,op,ty,ps,af,g⟩ D L C undef d:=by
 rw [cP] at h; exact ⟨JJ h.1,rfl,h.2⟩
theorem NT {xt:TypeId} {x:Operand} {b:Bool} (h:vF E.n ops L d g x=some (.bool b)):SE E ops ⟨some d,.unOp .not xt x,ty,ps,af,g⟩ D L C (.bool !b) d:=by
 obtain ⟨A,B,F⟩:=iJ h; exact ⟨JN A F,rfl,B⟩
theorem NG {xt:TypeId} {x:Operand} {n:Int} (h:vF E.n ops L d g x=some (.int .i64 n)) (hb:p9 (-n)):SE E ops ⟨some d,.unOp .neg xt x,ty,ps,af,g⟩ D L C (.int .i64 (-n)) d:=by
 obtain ⟨A,B,F⟩:=iJ h; exact ⟨Qj A F hb,rfl,B⟩
theorem PK {c x y:Operand} {v:Value} (h:pF E.n ops L d g c x y=some v):SE E ops ⟨some d,.pick c x y,ty,ps,af,g⟩ D L C v d:=by
 unfold pF at h
 split at h
 ·rename_i hb
  split at h
  ·rename_i hc; exact ⟨yB (Ox hb) hc h,rfl,OV hb⟩
  ·rename_i hc; exact ⟨yI (Ox hb) hc h,rfl,OV hb⟩
  ·cases h
 ·cases h
theorem EX {x:Operand} {i:Nat} {v:Value} (h:xF E.n ops L d g x i=some v):SE E ops ⟨some d,.extract x i,ty,ps,af,g⟩ D L C v d:=by
 unfold xF at h
 split at h
 ·rename_i vs hv
  obtain ⟨A,B,F⟩:=iJ hv
  exact ⟨wu (vs:=vs.toList) A (by simpa using F) h,U,B⟩
 ·cases h
theorem LN {x:Operand} {t e:TypeId} {A:OA} {n c:Nat} (h:vF E.n ops L d g x=some (.slice A n c)) (ht:E.P.underlying t=some (.slice e)):
 SE E ops ⟨some d,.call {callee:= .builtin .len,args:= #[x],argTypes:= #[t]},ty,ps,af,g⟩ D L C (.int .i64 n) d:=by
 obtain ⟨B,F,G⟩:=iJ h; exact ⟨IY B G ht,rfl,F⟩
theorem BI {op:BinOp} {xt yt:TypeId} {x y:Operand} {u v r:Value} (h:bF E.n ops L d g x y=some (u,v)) (hb:g9 E.P op xt x y u v r):SE E ops ⟨some d,.binOp op xt x y yt,ty,ps,af,g⟩ D L C r d:=by
 obtain ⟨A,B,F,G⟩:=qs h; exact ⟨bZ A F G hb,rfl,B⟩
theorem MN {x y:Operand} {ts:Array TypeId} {a b:Int} {k:IntKind} (h:bF E.n ops L d g x y=some (.int k a,.int k b)):
 SE E ops ⟨some d,.call {callee:= .builtin .min,args:= #[x,y],argTypes:=ts},ty,ps,af,g⟩ D L C (.int k (min a b)) d:=by
 obtain ⟨A,B,F,G⟩:=qs h; exact ⟨Pt A F G,rfl,B⟩
theorem MX {x y:Operand} {ts:Array TypeId} {a b:Int} {k:IntKind} (h:bF E.n ops L d g x y=some (.int k a,.int k b)):
 SE E ops ⟨some d,.call {callee:= .builtin .max,args:= #[x,y],argTypes:=ts},ty,ps,af,g⟩ D L C (.int k (max a b)) d:=by
 obtain ⟨A,B,F,G⟩:=qs h; exact ⟨PC A F G,rfl,B⟩
theorem FA (o':Nat) {x:Operand} {b o s f k:Nat} (h:vF E.n ops L d g x=some (.pointer (some ⟨b,o,none⟩))) (hf:r9 E.P s f=some k) (ho:o+k=o'):
 SE E ops ⟨some d,.fieldAddr s x f,ty,ps,af,g⟩ D L C (.pointer (some ⟨b,o',none⟩)) d:=by
 obtain ⟨A,B,F⟩:=iJ h; exact ⟨OT A F hf ho,rfl,B⟩
theorem nH (k':Nat) {x:Operand} {A:OA} {n sz:Nat} {es:List (List Value)} {k0 s f k:Nat} (h:vF E.n ops L d g x=some (.pointer (lG A k0))) (hR:iU C (rd A n sz es).holds) (hn:0<n*sz)
 (hf:r9 E.P s f=some k) (ho:k0+k=k'):SE E ops ⟨some d,.fieldAddr s x f,ty,ps,af,g⟩ D L C (.pointer (lG A k')) d:=by
 obtain ⟨B,F,G⟩:=iJ h; exact ⟨Kj B G hR hn hf ho,rfl,F⟩
theorem TW (k':Nat) {x:Operand} {A:OA} {ad:Addr} {k0 s f k:Nat} (h:vF E.n ops L d g x=some (.pointer (lG A k0))) (hA:A=some ad)
 (hf:r9 E.P s f=some k) (ho:k0+k=k'):SE E ops ⟨some d,.fieldAddr s x f,ty,ps,af,g⟩ D L C (.pointer (lG A k')) d:=by
 obtain ⟨B,F,G⟩:=iJ h; exact ⟨Iz B G hA hf ho,rfl,F⟩
theorem IA (k:Nat) {x ix:Operand} {A:OA} {n c sz e t:Nat} {es:List (List Value)} {j:Int} (h:bF E.n ops L d g x ix=some (.slice A n c,.int .i64 j)) (hR:iU C (rd A n sz es).holds)
 (ht:tE E.P t=some (e,sz)) (hz:0<sz) (hj:j=(k:Int)) (hk:k<n):SE E ops ⟨some d,.indexAddr t x ix,ty,ps,af,g⟩ D L C (.pointer (lG A (k*sz))) d:=by
 obtain ⟨B,F,G,H⟩:=qs h; exact ⟨QG B G H hR ht hz hj hk,rfl,F⟩
theorem Te (k o':Nat) {x ix:Operand} {b o n c sz e t:Nat} {j:Int} (h:bF E.n ops L d g x ix=some (.slice (some ⟨b,o,none⟩) n c,.int .i64 j))
 (ht:tE E.P t=some (e,sz)) (hj:j=(k:Int)) (hk:k<n) (ho:o+k*sz=o'):SE E ops ⟨some d,.indexAddr t x ix,ty,ps,af,g⟩ D L C (.pointer (some ⟨b,o',none⟩)) d:=by
 obtain ⟨A,B,F,G⟩:=qs h; exact ⟨MC A F G ht hj hk ho,rfl,B⟩
/-- the whole of a block, a part of it, one cell -/
theorem LW (i:Nat) {x:Operand} {b t tt n:Nat} {cs:List Value} (h:vF E.n ops L d g x=some (.pointer (some ⟨b,0,none⟩))) (ht:tK E.P t=some (true,n)) (hC:C[i]? =some (bY b tt cs)) (hn:cs.length=n):
 SE E ops ⟨some d,.load t x,ty,ps,af,g⟩ D L C (.agg cs.toArray) d:=by
 obtain ⟨A,B,F⟩:=iJ h; exact ⟨xL A F ht (pz i hC sm) hn,rfl,B⟩
theorem LP (vs:List Value) (i:Nat) {x:Operand} {b o t tt n:Nat} {cs:List Value} (h:vF E.n ops L d g x=some (.pointer (some ⟨b,o,none⟩))) (ht:tK E.P t=some (true,n)) (hC:C[i]? =some (bY b tt cs)) (hv:(cs.drop o).take vs.length=vs) (hn:vs.length=n):
 SE E ops ⟨some d,.load t x,ty,ps,af,g⟩ D L C (.agg vs.toArray) d:=by
 obtain ⟨A,B,F⟩:=iJ h; exact ⟨xL A F ht (pz i hC hv) hn,rfl,B⟩
theorem U0 (vs:List Value) (i:Nat) {x:Operand} {b o t tt n:Nat} {cs:List Value} (h:vF E.n ops L d g x=some (.pointer (some ⟨b,o,none⟩))) (ht:tK E.P t=some (true,n)) (hC:C[i]? =some (bY b tt cs).ro) (hv:(cs.drop o).take vs.length=vs) (hn:vs.length=n):
 SE E ops ⟨some d,.load t x,ty,ps,af,g⟩ D L C (.agg vs.toArray) d:=by
 obtain ⟨A,B,F⟩:=iJ h; exact ⟨xL A F ht (vu i hC hv) hn,rfl,B⟩
theorem L1 (v:Value) (i:Nat) {x:Operand} {b o t tt n:Nat} {cs:List Value} (h:vF E.n ops L d g x=some (.pointer (some ⟨b,o,none⟩))) (ht:tK E.P t=some (false,n)) (hC:C[i]? =some (bY b tt cs)) (hv:(cs.drop o).take 1=[v]):
 SE E ops ⟨some d,.load t x,ty,ps,af,g⟩ D L C v d:=by
 obtain ⟨A,B,F⟩:=iJ h; exact ⟨tU A F ht (pz i hC hv),rfl,B⟩
theorem HN (v:Value) (i:Nat) {x:Operand} {b o t tt n:Nat} {cs:List Value} (h:vF E.n ops L d g x=some (.pointer (some ⟨b,o,none⟩))) (ht:tK E.P t=some (false,n)) (hC:C[i]? =some (bY b tt cs).ro) (hv:(cs.drop o).take 1=[v]):
 SE E ops ⟨some d,.load t x,ty,ps,af,g⟩ D L C v d:=by
 obtain ⟨A,B,F⟩:=iJ h; exact ⟨tU A F ht (vu i hC hv),rfl,B⟩
theorem Eg (i:Nat) {x:Operand} {b t tt n:Nat} {v:Value} (h:vF E.n ops L d g x=some (.pointer (some ⟨b,0,none⟩))) (ht:tK E.P t=some (false,n)) (hC:C[i]? =some (bY b tt [v])):
 SE E ops ⟨some d,.load t x,ty,ps,af,g⟩ D L C v d:=by
 obtain ⟨A,B,F⟩:=iJ h; exact ⟨tU A F ht (pz i hC rfl),rfl,B⟩
theorem Tc (i:Nat) {x:Operand} {b t tt n:Nat} {v:Value} (h:vF E.n ops L d g x=some (.pointer (some ⟨b,0,none⟩))) (ht:tK E.P t=some (false,n)) (hC:C[i]? =some (bY b tt [v]).ro):
 SE E ops ⟨some d,.load t x,ty,ps,af,g⟩ D L C v d:=by
 obtain ⟨A,B,F⟩:=iJ h; exact ⟨tU A F ht (vu i hC rfl),rfl,B⟩
/-- what is read of a row -/
theorem fY (k o:Nat) (v:Value) {x:Operand} {A:OA} {t m n sz:Nat} {es:List (List Value)} {e:List Value} (h:vF E.n ops L d g x=some (.pointer (lG A m))) {nn:Nat} (ht:tK E.P t=some (false,nn)) (hR:iU C (rd A n sz es).holds) (he:es[k]? =some e) (hm:m=k*sz+o) (hz:0<sz) (hv:(e.drop o).take 1=[v]):
 SE E ops ⟨some d,.load t x,ty,ps,af,g⟩ D L C v d:=by
 obtain ⟨B,F,G⟩:=iJ h; exact ⟨tU B G ht (OG hR he hm hz hv),rfl,F⟩
theorem ot (k o:Nat) (vs:List Value) {x:Operand} {A:OA} {t m n sz:Nat} {es:List (List Value)} {e:List Value} (h:vF E.n ops L d g x=some (.pointer (lG A m))) {nn:Nat} (ht:tK E.P t=some (true,nn)) (hR:iU C (rd A n sz es).holds) (he:es[k]? =some e) (hm:m=k*sz+o) (hz:0<sz) (hv:(e.drop o).take vs.length=vs) (hn:vs.length=nn):
 SE E ops ⟨some d,.load t x,ty,ps,af,g⟩ D L C (.agg vs.toArray) d:=by
 obtain ⟨B,F,G⟩:=iJ h; exact ⟨xL B G ht (OG hR he hm hz hv) hn,rfl,F⟩
theorem CL {fop:Operand} {xs:Array Operand} {ts:Array TypeId} {f:FuncId} {args:List Value} {Cp:List av} {v:Value} (c:eg E.P f args Cp v) (hC:j4 C Cp) (h:cF E.n ops L d g fop xs.toList=some (f,args)):
 SE E ops ⟨some d,.call {callee:= .value fop,args:=xs,argTypes:=ts},ty,ps,af,g⟩ D L C v d:=by
 unfold cF at h
 split at h
 ·rename_i hb
  split at h
  ·rename_i hf hx; cases h; exact ⟨Fg (Ox hb) hf hx rfl c hC,rfl,OV hb⟩
  ·cases h
 ·cases h
theorem FU {fn:Fn} {xs ys:Array Operand} {us vs:List Value} (h:uF E.n ops L d g xs.toList ys.toList=some (us,vs)):SE E ops ⟨some d,.makeFunc fn xs ys,ty,ps,af,g⟩ D L C (.func fn us.toArray vs.toArray) d:=by
 obtain ⟨A,B,F,G⟩:=Qh h; exact ⟨NJ A F G,rfl,B⟩
theorem cX {fop:Operand} {xs:Array Operand} {ts:Array TypeId} {f:FuncId} {args:List Value} {Cp:List av} {α:Type} {V:α→Value} {p:α→Prop} {N:α→List av} (c:lE E.P f args Cp V p N) (hC:j4 C Cp)
 (h:cF E.n ops L d g fop xs.toList=some (f,args)) (k: ∀ x,p x→RJ E ops Q rest D ((d,V x)::L) (N x++C)):
 RJ E ops Q (⟨some d,.call {callee:= .value fop,args:=xs,argTypes:=ts},ty,ps,af,g⟩::rest) D L C:=by
 unfold cF at h
 split at h
 ·rename_i hb
  split at h
  ·rename_i hf hx; cases h; exact Qd (Ox hb) hf hx rfl c hC (OV hb) k
  ·cases h
 ·cases h
/-- a box of a struct, of one cell -/
theorem fR {t:TypeId} {x:Operand} {cs:List Value} (h:vF E.n ops L d g x=some (.agg cs.toArray)) (k: ∀ b,RJ E ops Q rest D ((d,.pointer (some ⟨b,0,none⟩))::L) (bY b t cs::C)):
 RJ E ops Q (⟨some d,.box t x,ty,ps,af,g⟩::rest) D L C:=by
 obtain ⟨A,B,F⟩:=iJ h; exact Om A F rfl B k
theorem uh {t:TypeId} {x:Operand} {v:Value} (h:vF E.n ops L d g x=some v) (hv:v.cells.toList=[v]) (k: ∀ b,RJ E ops Q rest D ((d,.pointer (some ⟨b,0,none⟩))::L) (bY b t [v]::C)):
 RJ E ops Q (⟨some d,.box t x,ty,ps,af,g⟩::rest) D L C:=by
 obtain ⟨A,B,F⟩:=iJ h; exact Om A F hv B k
theorem AL {t:TypeId} {cs:List Value} (h:gB E.n ops L d g=true) (hz:tZ E.P t=some cs) (k: ∀ b,RJ E ops Q rest D ((d,.pointer (some ⟨b,0,none⟩))::L) (bY b t cs::C)):
 RJ E ops Q (⟨some d,.alloc t,ty,ps,af,g⟩::rest) D L C:=Mp (Ox h) hz (OV h) k
/-- a store into the block at the place i of the state -/
def sF (ops:Array Oper) (L:List (Nat×Value)) (g:Option (Nat×Bool)) (x y:Operand):Option (Value×Value):=match jq ops L g with
 |true=>match ev L x,ev L y with
  |some u,some v=>some (u,v)
  |_,_=>none
 |false=>none
theorem D4 {ops:Array Oper} {L:List (Nat×Value)} {g:Option (Nat×Bool)} {x y:Operand} {u v:Value} (h:sF ops L g x y=some (u,v)):jq ops L g=true∧ev L x=some u∧ev L y=some v:=by
 unfold sF at h
 split at h
 ·rename_i hb
  split at h
  ·rename_i hx hy; cases h; exact ⟨hb,hx,hy⟩
  ·cases h
 ·cases h
theorem Sq {t n b o tt:Nat} {x y:Operand} {v:Value} {cs cs':List Value} {C':List av} (i:Nat) (h:sF ops L g x y=some (.pointer (some ⟨b,o,none⟩),v)) (ht:(tK E.P t).map (·.2)=some n) (hC:C[i]? =some (bY b tt cs))
 (hk:(v.cells.toList.length==n&&v.cells.toList.all Value.oneCell'&&Nat.ble (o+n) cs.length)=true) (hcs:cs.take o++v.cells.toList++cs.drop (o+n)=cs') (hC':C.set i (bY b tt cs')=C') (k:RJ E ops Q rest D L C'):
 RJ E ops Q (⟨none,.store t x y,ty,ps,af,g⟩::rest) D L C:=by
 obtain ⟨A,B,F⟩:=D4 h
 simp only [cP,beq_iff_eq] at hk
 exact jg i A B F ht U hk.1.1 hk.1.2 hC hk.2 hcs hC' k
/-- a store of a whole block, by a struct, by one cell -/
theorem NX {t n b tt:Nat} {x y:Operand} {cs cs':List Value} {C':List av} (i:Nat) (h:sF ops L g x y=some (.pointer (some ⟨b,0,none⟩),.agg cs'.toArray)) (ht:(tK E.P t).map (·.2)=some n) (hC:C[i]? =some (bY b tt cs))
 (hk:(Nat.beq cs'.length n&&cs'.all Value.oneCell'&&Nat.beq n cs.length)=true) (hC':C.set i (bY b tt cs')=C') (k:RJ E ops Q rest D L C'):
 RJ E ops Q (⟨none,.store t x y,ty,ps,af,g⟩::rest) D L C:=by
 obtain ⟨AA,J,K⟩:=D4 h
 simp only [cP] at hk
 obtain ⟨⟨A,B⟩,F⟩:=hk
 have H:=Nat.eq_of_beq_eq_true A
 have G:=Nat.eq_of_beq_eq_true F
 exact jg i AA J K ht U H B hC (by rw [Nat.zero_add,G]; exact Nat.ble_self_eq_true _) (by rw [Nat.zero_add,G,List.take_zero,List.drop_length]; show []++cs'++[]=cs'; simp) hC' k
theorem TY {t n b tt:Nat} {x y:Operand} {v u:Value} {C':List av} (i:Nat) (h:sF ops L g x y=some (.pointer (some ⟨b,0,none⟩),v)) (ht:(tK E.P t).map (·.2)=some n) (hC:C[i]? =some (bY b tt [u]))
 (hv:v.cells.toList=[v]) (hk:(Nat.beq n 1&&v.oneCell')=true) (hC':C.set i (bY b tt [v])=C') (k:RJ E ops Q rest D L C'):
 RJ E ops Q (⟨none,.store t x y,ty,ps,af,g⟩::rest) D L C:=by
 obtain ⟨G,H,AA⟩:=D4 h
 rw [cP] at hk
 obtain ⟨A,B⟩:=hk
 have F:=Nat.eq_of_beq_eq_true A
 subst F
 exact jg i G H AA ht hv U (by simp [B]) hC U U hC' k
theorem fQ {t n b tt:Nat} {x y:Operand} {cs cs':List Value} (h:sF ops L g x y=some (.pointer (some ⟨b,0,none⟩),.agg cs'.toArray)) (ht:(tK E.P t).map (·.2)=some n) (hk:(Nat.beq cs'.length n&&cs'.all Value.oneCell'&&Nat.beq n cs.length)=true) (k:RJ E ops Q rest D L (bY b tt cs'::C)):RJ E ops Q (⟨none,.store t x y,ty,ps,af,g⟩::rest) D L (bY b tt cs::C):=NX 0 h ht rfl hk rfl k
theorem Gq {t n b tt:Nat} {x y:Operand} {v u:Value} (h:sF ops L g x y=some (.pointer (some ⟨b,0,none⟩),v)) (ht:(tK E.P t).map (·.2)=some n) (hv:v.cells.toList=[v]) (hk:(Nat.beq n 1&&v.oneCell')=true) (k:RJ E ops Q rest D L (bY b tt [v]::C)):RJ E ops Q (⟨none,.store t x y,ty,ps,af,g⟩::rest) D L (bY b tt [u]::C):=TY 0 h ht rfl hv hk rfl k
theorem tw {t n b tt:Nat} {x y:Operand} {cs cs':List Value} {A0:av} (h:sF ops L g x y=some (.pointer (some ⟨b,0,none⟩),.agg cs'.toArray)) (ht:(tK E.P t).map (·.2)=some n) (hk:(Nat.beq cs'.length n&&cs'.all Value.oneCell'&&Nat.beq n cs.length)=true) (k:RJ E ops Q rest D L (A0::bY b tt cs'::C)):RJ E ops Q (⟨none,.store t x y,ty,ps,af,g⟩::rest) D L (A0::bY b tt cs::C):=NX 1 h ht rfl hk rfl k
theorem Gl {t n b tt:Nat} {x y:Operand} {cs cs':List Value} {A0 A1:av} (h:sF ops L g x y=some (.pointer (some ⟨b,0,none⟩),.agg cs'.toArray)) (ht:(tK E.P t).map (·.2)=some n) (hk:(Nat.beq cs'.length n&&cs'.all Value.oneCell'&&Nat.beq n cs.length)=true) (k:RJ E ops Q rest D L (A0::A1::bY b tt cs'::C)):RJ E ops Q (⟨none,.store t x y,ty,ps,af,g⟩::rest) D L (A0::A1::bY b tt cs::C):=NX 2 h ht rfl hk rfl k
theorem Va (cs':List Value) {t n b o tt:Nat} {x y:Operand} {v:Value} {cs:List Value} {A0 A1:av} (h:sF ops L g x y=some (.pointer (some ⟨b,o,none⟩),v)) (ht:(tK E.P t).map (·.2)=some n) (hk:(v.cells.toList.length==n&&v.cells.toList.all Value.oneCell'&&Nat.ble (o+n) cs.length)=true) (hcs:cs.take o++v.cells.toList++cs.drop (o+n)=cs') (k:RJ E ops Q rest D L (A0::A1::bY b tt cs'::C)):RJ E ops Q (⟨none,.store t x y,ty,ps,af,g⟩::rest) D L (A0::A1::bY b tt cs::C):=Sq 2 h ht rfl hk hcs rfl k
theorem Tf {t n b tt:Nat} {x y:Operand} {cs cs':List Value} {A0 A1 A2:av} (h:sF ops L g x y=some (.pointer (some ⟨b,0,none⟩),.agg cs'.toArray)) (ht:(tK E.P t).map (·.2)=some n) (hk:(Nat.beq cs'.length n&&cs'.all Value.oneCell'&&Nat.beq n cs.length)=true) (k:RJ E ops Q rest D L (A0::A1::A2::bY b tt cs'::C)):RJ E ops Q (⟨none,.store t x y,ty,ps,af,g⟩::rest) D L (A0::A1::A2::bY b tt cs::C):=NX 3 h ht rfl hk rfl k
theorem TR {t n b tt:Nat} {x y:Operand} {v u:Value} {A0 A1 A2:av} (h:sF ops L g x y=some (.pointer (some ⟨b,0,none⟩),v)) (ht:(tK E.P t).map (·.2)=some n) (hv:v.cells.toList=[v]) (hk:(Nat.beq n 1&&v.oneCell')=true) (k:RJ E ops Q rest D L (A0::A1::A2::bY b tt [v]::C)):RJ E ops Q (⟨none,.store t x y,ty,ps,af,g⟩::rest) D L (A0::A1::A2::bY b tt [u]::C):=TY 3 h ht rfl hv hk rfl k
theorem Q7 (cs':List Value) {t n b o tt:Nat} {x y:Operand} {v:Value} {cs:List Value} {A0 A1 A2:av} (h:sF ops L g x y=some (.pointer (some ⟨b,o,none⟩),v)) (ht:(tK E.P t).map (·.2)=some n) (hk:(v.cells.toList.length==n&&v.cells.toList.all Value.oneCell'&&Nat.ble (o+n) cs.length)=true) (hcs:cs.take o++v.cells.toList++cs.drop (o+n)=cs') (k:RJ E ops Q rest D L (A0::A1::A2::bY b tt cs'::C)):RJ E ops Q (⟨none,.store t x y,ty,ps,af,g⟩::rest) D L (A0::A1::A2::bY b tt cs::C):=Sq 3 h ht rfl hk hcs rfl k
theorem Oy {t n b tt:Nat} {x y:Operand} {cs cs':List Value} {A0 A1 A2 A3:av} (h:sF ops L g x y=some (.pointer (some ⟨b,0,none⟩),.agg cs'.toArray)) (ht:(tK E.P t).map (·.2)=some n) (hk:(Nat.beq cs'.length n&&cs'.all Value.oneCell'&&Nat.beq n cs.length)=true) (k:RJ E ops Q rest D L (A0::A1::A2::A3::bY b tt cs'::C)):RJ E ops Q (⟨none,.store t x y,ty,ps,af,g⟩::rest) D L (A0::A1::A2::A3::bY b tt cs::C):=NX 4 h ht rfl hk rfl k
theorem TX (cs':List Value) {t n b o tt:Nat} {x y:Operand} {v:Value} {cs:List Value} {A0 A1 A2 A3:av} (h:sF ops L g x y=some (.pointer (some ⟨b,o,none⟩),v)) (ht:(tK E.P t).map (·.2)=some n) (hk:(v.cells.toList.length==n&&v.cells.toList.all Value.oneCell'&&Nat.ble (o+n) cs.length)=true) (hcs:cs.take o++v.cells.toList++cs.drop (o+n)=cs') (k:RJ E ops Q rest D L (A0::A1::A2::A3::bY b tt cs'::C)):RJ E ops Q (⟨none,.store t x y,ty,ps,af,g⟩::rest) D L (A0::A1::A2::A3::bY b tt cs::C):=Sq 4 h ht rfl hk hcs rfl k
theorem HP {t n b tt:Nat} {x y:Operand} {cs cs':List Value} {A0 A1 A2 A3 A4:av} (h:sF ops L g x y=some (.pointer (some ⟨b,0,none⟩),.agg cs'.toArray)) (ht:(tK E.P t).map (·.2)=some n) (hk:(Nat.beq cs'.length n&&cs'.all Value.oneCell'&&Nat.beq n cs.length)=true) (k:RJ E ops Q rest D L (A0::A1::A2::A3::A4::bY b tt cs'::C)):RJ E ops Q (⟨none,.store t x y,ty,ps,af,g⟩::rest) D L (A0::A1::A2::A3::A4::bY b tt cs::C):=NX 5 h ht rfl hk rfl k
theorem Oc {t n b tt:Nat} {x y:Operand} {cs cs':List Value} {A0 A1 A2 A3 A4 A5:av} (h:sF ops L g x y=some (.pointer (some ⟨b,0,none⟩),.agg cs'.toArray)) (ht:(tK E.P t).map (·.2)=some n) (hk:(Nat.beq cs'.length n&&cs'.all Value.oneCell'&&Nat.beq n cs.length)=true) (k:RJ E ops Q rest D L (A0::A1::A2::A3::A4::A5::bY b tt cs'::C)):RJ E ops Q (⟨none,.store t x y,ty,ps,af,g⟩::rest) D L (A0::A1::A2::A3::A4::A5::bY b tt cs::C):=NX 6 h ht rfl hk rfl k
theorem U8 {t n b tt:Nat} {x y:Operand} {v u:Value} {A0 A1 A2 A3 A4 A5:av} (h:sF ops L g x y=some (.pointer (some ⟨b,0,none⟩),v)) (ht:(tK E.P t).map (·.2)=some n) (hv:v.cells.toList=[v]) (hk:(Nat.beq n 1&&v.oneCell')=true) (k:RJ E ops Q rest D L (A0::A1::A2::A3::A4::A5::bY b tt [v]::C)):RJ E ops Q (⟨none,.store t x y,ty,ps,af,g⟩::rest) D L (A0::A1::A2::A3::A4::A5::bY b tt [u]::C):=TY 6 h ht rfl hv hk rfl k
theorem Tq (cs':List Value) {t n b o tt:Nat} {x y:Operand} {v:Value} {cs:List Value} {A0 A1 A2 A3 A4 A5:av} (h:sF ops L g x y=some (.pointer (some ⟨b,o,none⟩),v)) (ht:(tK E.P t).map (·.2)=some n) (hk:(v.cells.toList.length==n&&v.cells.toList.all Value.oneCell'&&Nat.ble (o+n) cs.length)=true) (hcs:cs.take o++v.cells.toList++cs.drop (o+n)=cs') (k:RJ E ops Q rest D L (A0::A1::A2::A3::A4::A5::bY b tt cs'::C)):RJ E ops Q (⟨none,.store t x y,ty,ps,af,g⟩::rest) D L (A0::A1::A2::A3::A4::A5::bY b tt cs::C):=Sq 6 h ht rfl hk hcs rfl k
theorem Vd {t n b tt:Nat} {x y:Operand} {cs cs':List Value} {A0 A1 A2 A3 A4 A5 A6 A7:av} (h:sF ops L g x y=some (.pointer (some ⟨b,0,none⟩),.agg cs'.toArray)) (ht:(tK E.P t).map (·.2)=some n) (hk:(Nat.beq cs'.length n&&cs'.all Value.oneCell'&&Nat.beq n cs.length)=true) (k:RJ E ops Q rest D L (A0::A1::A2::A3::A4::A5::A6::A7::bY b tt cs'::C)):RJ E ops Q (⟨none,.store t x y,ty,ps,af,g⟩::rest) D L (A0::A1::A2::A3::A4::A5::A6::A7::bY b tt cs::C):=NX 8 h ht rfl hk rfl k
theorem UH (cs':List Value) {t n b o tt:Nat} {x y:Operand} {v:Value} {cs:List Value} {A0 A1 A2 A3 A4 A5 A6 A7 A8 A9:av} (h:sF ops L g x y=some (.pointer (some ⟨b,o,none⟩),v)) (ht:(tK E.P t).map (·.2)=some n) (hk:(v.cells.toList.length==n&&v.cells.toList.all Value.oneCell'&&Nat.ble (o+n) cs.length)=true) (hcs:cs.take o++v.cells.toList++cs.drop (o+n)=cs') (k:RJ E ops Q rest D L (A0::A1::A2::A3::A4::A5::A6::A7::A8::A9::bY b tt cs'::C)):RJ E ops Q (⟨none,.store t x y,ty,ps,af,g⟩::rest) D L (A0::A1::A2::A3::A4::A5::A6::A7::A8::A9::bY b tt cs::C):=Sq 10 h ht rfl hk hcs rfl k
theorem UG {t n b tt:Nat} {x y:Operand} {cs cs':List Value} {A0 A1 A2 A3 A4 A5 A6 A7 A8 A9 A10:av} (h:sF ops L g x y=some (.pointer (some ⟨b,0,none⟩),.agg cs'.toArray)) (ht:(tK E.P t).map (·.2)=some n) (hk:(Nat.beq cs'.length n&&cs'.all Value.oneCell'&&Nat.beq n cs.length)=true) (k:RJ E ops Q rest D L (A0::A1::A2::A3::A4::A5::A6::A7::A8::A9::A10::bY b tt cs'::C)):RJ E ops Q (⟨none,.store t x y,ty,ps,af,g⟩::rest) D L (A0::A1::A2::A3::A4::A5::A6::A7::A8::A9::A10::bY b tt cs::C):=NX 11 h ht rfl hk rfl k
end
section
variable {E:fg} {y:Code} {Q:c_} {D:List Deferred} {L:List (Nat×Value)} {C:List av}
theorem WS {id:Nat} {ops:Array Oper} (h: ∀ K:Act→World→Prop,(∀ D L C,WJ E y Q D L C→KJ E K D L C)→RJ E ops (Exit.then K Q) ops.toList D L C):WJ E (.seq (.region id ops false) y) Q D L C:=al fun K hK=>ao (h K hK)
theorem RK {ops:Array Oper} {K:Act→World→Prop} {Q':c_} (hK: ∀ D L C,WJ E y Q D L C→KJ E K D L C) (k:WJ E y Q D L C):RJ E ops (Exit.then K Q') [] D L C:=aG (aW (hK _ _ _ k))
theorem KK {K:Act→World→Prop} {Q':c_} (hK: ∀ D L C,WJ E y Q D L C→KJ E K D L C) (k:WJ E y Q D L C):KJ E (Exit.then K Q' .normal) D L C:=aW (hK _ _ _ k)
theorem WK {K:Act→World→Prop} {Q':c_} (hK: ∀ D L C,WJ E y Q D L C→KJ E K D L C) (k:WJ E y Q D L C):WJ E .skip (Exit.then K Q') D L C:=cp (aW (hK _ _ _ k))
end
theorem DT {p:Prop} [Decidable p] (h:decide p=true):p:=of_decide_eq_true h
theorem DF {p:Prop} [Decidable p] (h:decide p=false): ¬ p:=of_decide_eq_false h
theorem XT {p:Prop} [Decidable p] (h:(!decide p)=true): ¬ p:=by simpa using h
theorem XF {p:Prop} [Decidable p] (h:(!decide p)=false):p:=by simpa using h
/-- what a function hands back: one result, two, three, that lie in slots -/
theorem Q1 {E:fg} {fn:Func} {K:Act→World→Prop} {L:List (Nat×Value)} {C:List av} {t:Nat} {u v:Value} (hQ: ∀ D L C,LJ E fn (Bp E.w0 v) D L C→KJ E K D L C) (hS:E.S=sQ) (hr:fn.results.toList=[.tmp t]) (hl:L.lookup t=some u) (e:u=v):KJ E K [] L C:=
 hQ _ _ _ (gV (vs:=[u]) (by rw [hr]; exact ⟨hl,trivial⟩) fun w hs=>Eo e (by rw [hS] at hs; exact hs))
theorem Q2 {E:fg} {fn:Func} {K:Act→World→Prop} {L:List (Nat×Value)} {C:List av} {t s:Nat} {u x v:Value} (hQ: ∀ D L C,LJ E fn (Bp E.w0 v) D L C→KJ E K D L C) (hS:E.S=sQ) (hr:fn.results.toList=[.tmp t,.tmp s]) (hl:L.lookup t=some u) (hm:L.lookup s=some x) (e:vT [u,x]=v):KJ E K [] L C:=
 hQ _ _ _ (gV (vs:=[u,x]) (by rw [hr]; exact ⟨hl,hm,trivial⟩) fun w hs=>Eo e (by rw [hS] at hs; exact hs))
theorem N1 {E:fg} {ops:Array Oper} {D:List Deferred} {C' C1:List av} {F:List (Nat×Value)→List av→Prop} {tb rem:List Nat} {n:Nat} {L:List (Nat×Value)} {C:List av} (i:Nat)
 (h:Ch E ops D C' C1 F tb n (rem.filter (· != i)) i L C) (hm:rem.filter (fun i=>rem.all fun j=> !im (pR ops) j i)=[i]:=by kernel_rfl):TN E ops D C' C1 F tb (n+1) rem L C:=iR [i] hm (eJ h kI)
theorem NO {E:fg} {ops:Array Oper} {D:List Deferred} {C' C1:List av} {F:List (Nat×Value)→List av→Prop} {tb rem:List Nat} {n i:Nat} {L:List (Nat×Value)} {C:List av} {o:Oper} (ho:ops[i]? =some o) (ht:tb.contains i=false) (rem':List Nat)
 (h: ∀ K:Act→World→Prop,(∀ L' C'',(∀ w,St E.S E.w0 C'' w→St E.S E.w0 C' w)→TN E ops D C' C1 F tb n rem' L' C''→KJ E K D L' C'')→RJ E ops (NQ K) [o] D L C) (hr:rem=rem':=by kernel_rfl):Ch E ops D C' C1 F tb n rem i L C:=UB ho hr ht h
theorem RD {E:fg} {ops:Array Oper} {K:Act→World→Prop} {D:List Deferred} {L:List (Nat×Value)} {C C':List av} {X:List (Nat×Value)→List av→Prop} (hT: ∀ L' C'',(∀ w,St E.S E.w0 C'' w→St E.S E.w0 C' w)→X L' C''→KJ E K D L' C'')
 (k:Nat) (h2:C.drop k=C') (h:X L C):RJ E ops (NQ K) [] D L C:=aG (hT _ _ (fun w hs=>h2▸hs.take (List.drop_sublist k C)) h)
theorem aV {L L':List (Nat×Value)} (h:L'.map (fun p=>L.lookup p.1)=L'.map (fun p=>some p.2)):dB L L':=by
 induction L' with
 |nil=>exact dB.nil _
 |cons p t ih=>
  simp only [List.map_cons,List.cons.injEq] at h
  exact dB.cons h.1 (ih h.2)
theorem NZ {C:List av} {A A' B B' D D':av} (i j k:Nat) (h1:C[i]? =some A') (e1:A'.holds=A.holds) (h2:C[j]? =some B') (e2:B'.holds=B.holds) (h3:C[k]? =some D') (e3:D'.holds=D.holds):j4 C [A,B,D]:=fG i h1 e1 (fG j h2 e2 (fG k h3 e3 aK))
theorem bV {E:fg} {c:Operand} {x y:Code} {b:Bool} {Q:c_} {D:List Deferred} {L:List (Nat×Value)} {C:List av} (hc:ev L c=some (.bool b)) (h2:b=false→WJ E y Q D L C) (h1:b=true→WJ E x Q D L C):WJ E (.cond c x y) Q D L C:=cO hc h1 h2
theorem ck {E:fg} {ops:Array Oper} {Q:c_} {rest:List Oper} {D:List Deferred} {L:List (Nat×Value)} {C:List av} {t:Nat} {b:Bool} (h:L.lookup t=some (.bool b)) (h2:b=false→RJ E ops Q rest D ((t,.bool false)::L) C) (h1:b=true→RJ E ops Q rest D ((t,.bool true)::L) C):RJ E ops Q rest D L C:=ct h h1 h2
theorem iw {E:fg} {ops:Array Oper} {Q:c_} {rest:List Oper} {D:List Deferred} {L:List (Nat×Value)} {C:List av} {t:Nat} {b:Bool} {os:List Oper} (h:L.lookup t=some (.bool b)) (h2:b=false→DJ E ops D C (fun L2=>RJ E ops Q rest D L2 C) os ((t,.bool false)::L)) (h1:b=true→DJ E ops D C (fun L2=>RJ E ops Q rest D L2 C) os ((t,.bool true)::L)):DJ E ops D C (fun L2=>RJ E ops Q rest D L2 C) os L:=gJ h h1 h2
theorem cW {L:List (Nat×Value)}: ∀ (k:Nat) {L2:List (Nat×Value)} (q:dB L (L2.drop k)) (h:(L2.take k).map (fun p=>L.lookup p.1)=(L2.take k).map (fun p=>some p.2):=by rfl),dB L L2
 |0,_,q,_=>q
 |_+1,[],_,_=>dB.nil _
 |k+1,p::L2,q,h=>by
  obtain ⟨A,B⟩:=List.cons.inj (show L.lookup p.1::(L2.take k).map (fun p=>L.lookup p.1)=some p.2::(L2.take k).map (fun p=>some p.2) from h)
  exact dB.cons (t:=p.1) (v:=p.2) A (cW k q B)
theorem oX {E:fg} {ops:Array Oper} {Q:c_} {rest:List Oper} {D:List Deferred} {L:List (Nat×Value)} {C:List av} {d:Nat} {ty:TypeId} {ps:String} {af:Array Edge} {g:Option (Nat×Bool)} {op:Op} (k:RJ E ops Q rest D ((d,undef)::L) C) (h:(CP ops L g&&Nat.blt d E.n)=true:=by rfl):RJ E ops Q (⟨some d,op,ty,ps,af,g⟩::rest) D L C:=rS (OX h) k
theorem dX {E:fg} {ops:Array Oper} {F:List (Nat×Value)→Prop} {rest:List Oper} {D:List Deferred} {L:List (Nat×Value)} {C:List av} {d:Nat} {ty:TypeId} {ps:String} {af:Array Edge} {g:Option (Nat×Bool)} {op:Op} (k:DJ E ops D C F rest ((d,undef)::L)) (h:(CP ops L g&&Nat.blt d E.n)=true:=by rfl):DJ E ops D C F (⟨some d,op,ty,ps,af,g⟩::rest) L:=dS (OX h) k
end
section
open Go.RowKit
/-- what of a slice is left from k on -/
def zT (A:OA) (c k sz:Nat):OA:=if c=k then A else A.map (·.add (k*sz))
section
variable {E:fg} {ops:Array Oper} {Q:c_} {rest:List Oper} {D:List Deferred} {L:List (Nat×Value)} {C:List av}
variable {d:Nat} {ty:TypeId} {ps:String} {af:Array Edge} {g:Option (Nat×Bool)}
theorem E7 {P:Program} {t e sz:Nat} (h:tE P t=some (e,sz)) (w:World):P.underlying t=some (.slice e)∧(sizeOf e).run P w= .ok sz w:=by
 unfold tE at h
 split at h
 ·rename_i e' hu
  split at h
  ·rename_i i hi
   cases h
   exact ⟨hu,by simp [sizeOf,typeInfo,hi]⟩
  ·cases h
 ·cases h
theorem vt {P:Program} {t e:Nat} (h:P.underlying t=some (.slice e)):P.underlying t=some (.slice (P.elem t)):=by
 rw [h]; simp [Program.elem,h]
theorem Fe {P:Program} {t e:Nat} (h:P.underlying t=some (.slice e)):P.elem t=e:=by simp [Program.elem,h]
/-- s[k:] -/
theorem U3 (k:Nat) {x lo:Operand} {t e sz n c:Nat} {A:OA} {j:Int} (h:bF E.n ops L d g x lo=some (.slice A n c,.int .i64 j)) (ht:tE E.P t=some (e,sz)) (hj:j=(k:Int)) (hk:k≤n):
 SE E ops ⟨some d,.slice t x (some lo) none none,ty,ps,af,g⟩ D L C (.slice (zT A c k sz) (n-k) (c-k)) d:=by
 obtain ⟨G,H,AA,J⟩:=qs h
 subst hj
 refine ⟨dE G sm fun a w B hs=>?_,U,H⟩
 obtain ⟨hu,hz⟩:=E7 ht w
 have hr:=run_slice_l (P:=E.P) w t A n c (vt hu) .i64 (k:Int) om om
 rw [Fe hu,hz] at hr
 simp only [Result.andThen,Int.toNat_natCast,sliced] at hr
 have F:=run_sliceAt_slice (P:=E.P) w t (.slice A n c) (some (.int .i64 (k:Int))) none none (vt hu)
 simp [execOp,B.ev AA,B.ev J,F,hr,zT]
/-- s[:k] -/
theorem UN (k:Nat) {x hi:Operand} {t e sz n c:Nat} {A:OA} {j:Int} (h:bF E.n ops L d g x hi=some (.slice A n c,.int .i64 j)) (ht:tE E.P t=some (e,sz)) (hj:j=(k:Int)) (hk:k≤c):
 SE E ops ⟨some d,.slice t x none (some hi) none,ty,ps,af,g⟩ D L C (.slice A k c) d:=by
 obtain ⟨H,AA,J,K⟩:=qs h
 subst hj
 refine ⟨dE H sm fun a w B hs=>?_,U,AA⟩
 obtain ⟨hu,hz⟩:=E7 ht w
 have hr:=run_slice_h (P:=E.P) w t A n c (vt hu) .i64 (k:Int) om om
 rw [Fe hu,hz] at hr
 have G:(if c=0 then A else A.map (·.add (0*sz)))=A:=by
  split
  ·rfl
  ·cases A with
   |none=>rfl
   |some ad=>simp [Addr.add]
 simp only [Result.andThen,Int.toNat_natCast,sliced,G,Nat.sub_zero] at hr
 have F:=run_sliceAt_slice (P:=E.P) w t (.slice A n c) none (some (.int .i64 (k:Int))) none (vt hu)
 simp [execOp,B.ev J,B.ev K,F,hr]
/-- an element of a row whose place is known -/
theorem U7 (k:Nat) {x ix:Operand} {A:OA} {ad:Addr} {n c sz e t:Nat} {j:Int} (h:bF E.n ops L d g x ix=some (.slice A n c,.int .i64 j)) (hA:A=some ad) (ht:tE E.P t=some (e,sz)) (hj:j=(k:Int)) (hk:k<n):
 SE E ops ⟨some d,.indexAddr t x ix,ty,ps,af,g⟩ D L C (.pointer (lG A (k*sz))) d:=by
 obtain ⟨F,G,H,AA⟩:=qs h
 refine ⟨dE F sm fun a w B hs=>?_,U,G⟩
 subst hA hj
 simp [execOp,B.ev H,B.ev AA,lG,qm ht hk]
end
theorem FZ {w:World} {a:OA} {c e sz:Nat} {es:List (List Value)} (h:(own a c e sz es).holds w):es.length≤c:=by
 rcases h.2.2 with ⟨A,B⟩|⟨g,cap,cur,hv,_,_,C,_⟩
 ·omega
 ·injection hv with _ _ hc; omega
end
section
open Go.RowKit
/-- an array's length, its elements' type and their size -/
def aE (P:Program) (t:TypeId):Option (Nat×TypeId×Nat):=
 match P.underlying t with
 |some (.array n e)=>match P.info? e with
  |some i=>some (n,e,i.size)
  |none=>none
 |_=>none
theorem EP {P:Program} {t n e sz:Nat} (h:aE P t=some (n,e,sz)) (w:World):P.underlying t=some (.array n e)∧(sizeOf e).run P w= .ok sz w:=by
 unfold aE at h
 split at h
 ·rename_i n' e' hu
  split at h
  ·rename_i i hi
   cases h
   exact ⟨hu,by simp [sizeOf,typeInfo,hi]⟩
  ·cases h
 ·cases h
theorem vj {P:Program} {t n e sz:Nat} (h:aE P t=some (n,e,sz)) (a:Addr) (w:World):
 (Instr.sliceAt t (.pointer (some a)) none none none).run P w= .ok (.slice (some a) n n) w:=by
 obtain ⟨hu,hz⟩:=EP h w
 have A:a.add 0=a:=by simp [Addr.add]
 simp [Instr.sliceAt,underlying,hu,Instr.sureAddr,Instr.sliceBounds,hz,A]
theorem vn {P:Program} {t n e sz:Nat} (h:aE P t=some (n,e,sz)) (a:Addr) {k:Nat} (hk:k<n) (w:World):
 (Instr.indexAt t (.pointer (some a)) (.int .i64 (k:Int))).run P w= .ok (.pointer (some (a.add (k*sz)))) w:=by
 obtain ⟨hu,hz⟩:=EP h w
 have A: ¬ n≤k:=by omega
 simp [Instr.indexAt,underlying,hu,Instr.sureAddr,asIntOf,hz,A]
 try exact fun h=>absurd h A
 try omega
section
variable {E:fg} {ops:Array Oper} {Q:c_} {rest:List Oper} {D:List Deferred} {L:List (Nat×Value)} {C:List av}
variable {dst:Option Nat} {ty:TypeId} {ps:String} {af:Array Edge} {g:Option (Nat×Bool)}
theorem C_ {x:Operand} {a:Addr} {t n e sz:Nat} (hg:jq ops L g=true) (hx:ev L x=some (.pointer (some a))) (ht:aE E.P t=some (n,e,sz)):
 SD E ops ⟨dst,.slice t x none none none,ty,ps,af,g⟩ D L C (.slice (some a) n n):=
 dE hg sm fun b w A hs=>by
  simp [execOp,A.ev hx,vj ht]
theorem Em {x ix:Operand} {a:Addr} {t n e sz k:Nat} {j:Int} (hg:jq ops L g=true) (hx:ev L x=some (.pointer (some a))) (hi:ev L ix=some (.int .i64 j)) (ht:aE E.P t=some (n,e,sz)) (hj:j=(k:Int)) (hk:k<n):
 SD E ops ⟨dst,.indexAddr t x ix,ty,ps,af,g⟩ D L C (.pointer (lG (some a) (k*sz))):=
 dE hg sm fun b w A hs=>by
  subst hj
  simp [execOp,A.ev hx,A.ev hi,lG,vn ht a hk]
end
end
section
open Go.RowKit
/-- a table of facts on the program's types -/
structure CY where
 tk:List (Nat×Bool×Nat)
 fo:List (Nat×List (Option Nat))
 sl:List Nat
def QD {α:Type}:List (Nat×α)→Nat→Option α
 |[],_=>none
 |(k,v)::l,t=>match Nat.beq k t with
  |true=>some v
  |false=>QD l t
theorem zP {α:Type}: ∀ {l:List (Nat×α)} {t:Nat} {v:α},QD l t=some v→(t,v)∈l
 |[],t,v,h=>by simp [QD] at h
 |(k,u)::l,t,v,h=>by
  unfold QD at h
  split at h
  ·rename_i hb
   cases h
   rw [Nat.eq_of_beq_eq_true hb]; exact cj
  ·exact cT _ (zP h)
def LQ:List Nat→Nat→Bool
 |[],_=>false
 |k::l,t=>match Nat.beq k t with
  |true=>true
  |false=>LQ l t
theorem AW: ∀ {l:List Nat} {t:Nat},LQ l t=true→t∈l
 |[],t,h=>by simp [LQ] at h
 |k::l,t,h=>by
  unfold LQ at h
  split at h
  ·rename_i hb
   rw [Nat.eq_of_beq_eq_true hb]; exact cj
  ·exact cT _ (AW h)
def CY.JH (T:CY) (t:Nat):Option (Bool×Nat):=QD T.tk t
def CY.foF (T:CY) (s f:Nat):Option Nat:=match QD T.fo s with
 |some l=>match l[f]? with
  |some (some k)=>some k
  |_=>none
 |none=>none
structure k9 (P:Program) (T:CY):Prop where
 tk: ∀ p∈T.tk,tK P p.1=some p.2
 fo: ∀ p∈T.fo,∀ f k,p.2[f]? =some (some k)→r9 P p.1 f=some k
 sl: ∀ t∈T.sl,∃ e,P.underlying t=some (.slice e)
theorem k9.JH {P:Program} {T:CY} (h:k9 P T) {t:Nat} {r:Bool×Nat} (e:T.JH t=some r):tK P t=some r:=h.tk _ (zP e)
theorem k9.foF {P:Program} {T:CY} (h:k9 P T) {s f k:Nat} (e:T.foF s f=some k):r9 P s f=some k:=by
 unfold CY.foF at e
 split at e
 ·rename_i l hl
  split at e
  ·rename_i k' hk
   cases e
   exact h.fo _ (zP hl) f k hk
  ·cases e
 ·cases e
def S9 (P:Program) (T:CY):Bool:=(T.tk.all fun p=>decide (tK P p.1=some p.2))&&(T.fo.all fun p=>(List.range p.2.length).all fun f=>match p.2[f]? with
 |some (some k)=>decide (r9 P p.1 f=some k)
 |_=>true)&&T.sl.all fun t=>match P.underlying t with
 |some (.slice _)=>true
 |_=>false
theorem O5 {P:Program} {T:CY} (h:S9 P T=true):k9 P T:=by
 unfold S9 at h
 rw [cP,cP] at h
 obtain ⟨⟨B,C⟩,D⟩:=h
 refine ⟨fun p hp=>by simpa using List.all_eq_true.1 B p hp,fun p hp f k hk=>?_,fun t ht=>?_⟩
 ·have A:=List.all_eq_true.1 (List.all_eq_true.1 C p hp) f (List.mem_range.2 (List.getElem?_eq_some_iff.1 hk).1)
  rw [hk] at A
  simpa using A
 ·have A:=List.all_eq_true.1 D t ht
  split at A
  ·rename_i e he; exact ⟨e,he⟩
  ·cases A
end
section
theorem N3:tK Tryz.prog 3=some (false,1):=by kernel_rfl
theorem Vb:tK Tryz.prog 4=some (false,1):=by kernel_rfl
theorem TQ:tK Tryz.prog 22=some (false,1):=by kernel_rfl
theorem UW:tK Tryz.prog 25=some (false,1):=by kernel_rfl
theorem Tw:tK Tryz.prog 26=some (false,1):=by kernel_rfl
theorem TK:tK Tryz.prog 28=some (true,7):=by kernel_rfl
theorem UL:tK Tryz.prog 29=some (false,1):=by kernel_rfl
theorem To:tK Tryz.prog 30=some (false,1):=by kernel_rfl
theorem RE:tK Tryz.prog 32=some (true,11):=by kernel_rfl
theorem Tu:tK Tryz.prog 38=some (true,2):=by kernel_rfl
theorem US:tK Tryz.prog 42=some (false,1):=by kernel_rfl
theorem TA:tK Tryz.prog 44=some (true,3):=by kernel_rfl
theorem Tz:tK Tryz.prog 46=some (true,7):=by kernel_rfl
theorem PO:tK Tryz.prog 47=some (false,1):=by kernel_rfl
theorem UC:tK Tryz.prog 58=some (false,1):=by kernel_rfl
theorem TP:tK Tryz.prog 62=some (false,1):=by kernel_rfl
theorem TS:tK Tryz.prog 80=some (false,1):=by kernel_rfl
theorem Ui:tK Tryz.prog 85=some (false,1):=by kernel_rfl
theorem UT:tK Tryz.prog 86=some (false,1):=by kernel_rfl
theorem QM:tK Tryz.prog 119=some (true,3):=by kernel_rfl
theorem Q6:tK Tryz.prog 122=some (true,9):=by kernel_rfl
theorem QU:tK Tryz.prog 124=some (true,3):=by kernel_rfl
theorem S7:tK Tryz.prog 125=some (false,1):=by kernel_rfl
theorem QE:tK Tryz.prog 127=some (true,2):=by kernel_rfl
theorem Sb:tK Tryz.prog 131=some (true,2):=by kernel_rfl
theorem QJ:tK Tryz.prog 143=some (true,1):=by kernel_rfl
theorem S3:tK Tryz.prog 144=some (true,4):=by kernel_rfl
theorem SC:tK Tryz.prog 203=some (true,1):=by kernel_rfl
theorem RM:tK Tryz.prog 231=some (false,1):=by kernel_rfl
theorem SJ:tK Tryz.prog 233=some (true,3):=by kernel_rfl
theorem Q9:tK Tryz.prog 268=some (false,1):=by kernel_rfl
theorem Sn:tK Tryz.prog 274=some (false,1):=by kernel_rfl
theorem Rn:tK Tryz.prog 276=some (true,2):=by kernel_rfl
theorem AE:(tK Tryz.prog 3).map (·.2)=some 1:=by rw [N3]; rfl
theorem Ub:(tK Tryz.prog 22).map (·.2)=some 1:=by rw [TQ]; rfl
theorem TG:(tK Tryz.prog 25).map (·.2)=some 1:=by rw [UW]; rfl
theorem UQ:(tK Tryz.prog 26).map (·.2)=some 1:=by rw [Tw]; rfl
theorem Ty:(tK Tryz.prog 28).map (·.2)=some 7:=by rw [TK]; rfl
theorem zX:(tK Tryz.prog 29).map (·.2)=some 1:=by rw [UL]; rfl
theorem Uy:(tK Tryz.prog 30).map (·.2)=some 1:=by rw [To]; rfl
theorem tf:(tK Tryz.prog 32).map (·.2)=some 11:=by rw [RE]; rfl
theorem cu:(tK Tryz.prog 38).map (·.2)=some 2:=by rw [Tu]; rfl
theorem Um:(tK Tryz.prog 42).map (·.2)=some 1:=by rw [US]; rfl
theorem UD:(tK Tryz.prog 44).map (·.2)=some 3:=by rw [TA]; rfl
theorem Pr:(tK Tryz.prog 46).map (·.2)=some 7:=by rw [Tz]; rfl
theorem TH:(tK Tryz.prog 47).map (·.2)=some 1:=by rw [PO]; rfl
theorem NH:(tK Tryz.prog 58).map (·.2)=some 1:=by rw [UC]; rfl
theorem Tl:(tK Tryz.prog 62).map (·.2)=some 1:=by rw [TP]; rfl
theorem Sr:(tK Tryz.prog 80).map (·.2)=some 1:=by rw [TS]; rfl
theorem Ut:(tK Tryz.prog 85).map (·.2)=some 1:=by rw [Ui]; rfl
theorem Ul:(tK Tryz.prog 86).map (·.2)=some 1:=by rw [UT]; rfl
theorem Kw:(tK Tryz.prog 119).map (·.2)=some 3:=by rw [QM]; rfl
theorem HT:(tK Tryz.prog 122).map (·.2)=some 9:=by rw [Q6]; rfl
theorem sW:(tK Tryz.prog 124).map (·.2)=some 3:=by rw [QU]; rfl
theorem SQ:(tK Tryz.prog 125).map (·.2)=some 1:=by rw [S7]; rfl
theorem OZ:(tK Tryz.prog 127).map (·.2)=some 2:=by rw [QE]; rfl
theorem wb:(tK Tryz.prog 131).map (·.2)=some 2:=by rw [Sb]; rfl
theorem FH:(tK Tryz.prog 143).map (·.2)=some 1:=by rw [QJ]; rfl
theorem Sk:(tK Tryz.prog 144).map (·.2)=some 4:=by rw [S3]; rfl
theorem JC:(tK Tryz.prog 203).map (·.2)=some 1:=by rw [SC]; rfl
theorem Sh:(tK Tryz.prog 231).map (·.2)=some 1:=by rw [RM]; rfl
theorem QP:(tK Tryz.prog 233).map (·.2)=some 3:=by rw [SJ]; rfl
theorem zm:(tK Tryz.prog 268).map (·.2)=some 1:=by rw [Q9]; rfl
theorem Ki:(tK Tryz.prog 274).map (·.2)=some 1:=by rw [Sn]; rfl
theorem rj:(tK Tryz.prog 276).map (·.2)=some 2:=by rw [Rn]; rfl
theorem zk:aE Tryz.prog 151=some (3,150,2):=by kernel_rfl
theorem Qb:r9 Tryz.prog 46 0=some 0:=by kernel_rfl
theorem Tj:rX Tryz.prog 45=true:=by kernel_rfl
theorem Ue:rX Tryz.prog 57=true:=by kernel_rfl
theorem gR (l:List aa): ∀ v∈(l.map aa.cells).flatten,v.oneCell'=true:=lZ (fun _=>rfl) l
theorem r8 (l:List an): ∀ v∈(l.map an.cells).flatten,v.oneCell'=true:=lZ (fun _=>rfl) l
theorem vg (l:List cG): ∀ v∈(l.map cG.cells).flatten,v.oneCell'=true:=lZ (fun _=>rfl) l
theorem vd (l:List bG): ∀ v∈(l.map bG.cells).flatten,v.oneCell'=true:=lZ (fun _=>rfl) l
theorem sx (l:List aO): ∀ v∈(l.map aO.cells).flatten,v.oneCell'=true:=lZ (fun _=>rfl) l
theorem TU:tA Tryz.prog 22=some (122,9,72,(Value.agg [(vI 0),(vI 0),(vI 0),(vI 0),(vI 0),(vI 0),(vI 0),(Value.int .u8 0),(vI 0)].toArray)):=by kernel_rfl
theorem UI:tA Tryz.prog 25=some (127,2,32,(Value.agg [(vI 0),(vS none 0 0)].toArray)):=by kernel_rfl
theorem UA:tA Tryz.prog 26=some (129,4,32,(Value.agg [(vI 0),(vI 0),(vI 0),(vI 0)].toArray)):=by kernel_rfl
theorem pO:tA Tryz.prog 29=some (3,1,8,(vI 0)):=by kernel_rfl
theorem TC:tA Tryz.prog 30=some (47,1,24,(vS none 0 0)):=by kernel_rfl
theorem Un:tA Tryz.prog 42=some (131,2,16,(Value.agg [(vI 0),(vI 0)].toArray)):=by kernel_rfl
theorem Tr:tA Tryz.prog 47=some (46,7,64,(Value.agg [(vB false),(vB false),(vI 0),(vI 0),(vI 0),(vI 0),(vS none 0 0)].toArray)):=by kernel_rfl
theorem Tx:tA Tryz.prog 67=some (29,1,24,(vS none 0 0)):=by kernel_rfl
theorem EE:tA Tryz.prog 85=some (38,2,16,(Value.agg [(vI 0),(vI 0)].toArray)):=by kernel_rfl
theorem SF:tA Tryz.prog 86=some (85,1,24,(vS none 0 0)):=by kernel_rfl
theorem QW:tA Tryz.prog 125=some (124,3,24,(Value.agg [(vI 0),(vI 0),(vI 0)].toArray)):=by kernel_rfl
theorem OE:tA Tryz.prog 216=some (236,3,72,(Value.agg [(vS none 0 0),(vS none 0 0),(vS none 0 0)].toArray)):=by kernel_rfl
theorem Rz:tA Tryz.prog 231=some (4,1,1,(vB false)):=by kernel_rfl
theorem RZ:tA Tryz.prog 267=some (58,1,8,(Value.map none)):=by kernel_rfl
theorem Bd:tA Tryz.prog 268=some (274,1,8,(Value.map none)):=by kernel_rfl
theorem Ux:tB Tryz.prog 24=some ([(vS none 0 0)],[(0,1)]):=by kernel_rfl
theorem TD:tB Tryz.prog 28=some ([(vS none 0 0),(vI 0),(vS none 0 0),(vS none 0 0),(vI 0),(vI 0),(vI 0)],[(0,1),(1,1),(2,1),(3,1),(4,1),(5,1),(6,1)]):=by kernel_rfl
theorem Gg:tB Tryz.prog 32=some ([(vS none 0 0),(vI 0),(vS none 0 0),(vS none 0 0),(vI 0),(vI 0),(vI 0),(vS none 0 0),(vS none 0 0),(vI 0),(vS none 0 0)],[(0,7),(7,1),(8,1),(9,1),(10,1)]):=by kernel_rfl
theorem gj:tB Tryz.prog 38=some ([(vI 0),(vI 0)],[(0,1),(1,1)]):=by kernel_rfl
theorem Ug:tB Tryz.prog 44=some ([(vI 0),(vI 0),(vS none 0 0)],[(0,1),(1,1),(2,1)]):=by kernel_rfl
theorem Pz:tB Tryz.prog 46=some ([(vB false),(vB false),(vI 0),(vI 0),(vI 0),(vI 0),(vS none 0 0)],[(0,1),(1,1),(2,2),(4,3)]):=by kernel_rfl
theorem Uj:tB Tryz.prog 88=some ([(vS none 0 0),(vI 0),(vS none 0 0),(vS none 0 0),(vI 0),(vI 0),(vI 0),(vS none 0 0),(vS none 0 0),(vI 0),(vS none 0 0),(vS none 0 0),(Value.map none)],[(0,11),(11,1),(12,1)]):=by kernel_rfl
theorem Ry:tB Tryz.prog 119=some ([(vI 0),(vI 0),(vI 0)],[(0,1),(1,2)]):=by kernel_rfl
theorem RP:tB Tryz.prog 122=some ([(vI 0),(vI 0),(vI 0),(vI 0),(vI 0),(vI 0),(vI 0),(Value.int .u8 0),(vI 0)],[(0,1),(1,2),(3,2),(5,2),(7,1),(8,1)]):=by kernel_rfl
theorem OJ:tB Tryz.prog 124=some ([(vI 0),(vI 0),(vI 0)],[(0,1),(1,2)]):=by kernel_rfl
theorem Ss:tB Tryz.prog 127=some ([(vI 0),(vS none 0 0)],[(0,1),(1,1)]):=by kernel_rfl
theorem Ku:tB Tryz.prog 129=some ([(vI 0),(vI 0),(vI 0),(vI 0)],[(0,3),(3,1)]):=by kernel_rfl
theorem F0:tB Tryz.prog 131=some ([(vI 0),(vI 0)],[(0,1),(1,1)]):=by kernel_rfl
theorem F2:tB Tryz.prog 143=some ([Value.nilFunc],[(0,1)]):=by kernel_rfl
theorem QK:tB Tryz.prog 144=some ([Value.nilFunc,Value.nilFunc,Value.nilFunc,Value.nilFunc],[(0,1),(1,1),(2,1),(3,1)]):=by kernel_rfl
theorem Q4:tB Tryz.prog 156=some ([(vI 0),(vI 0)],[(0,1),(1,1)]):=by kernel_rfl
theorem RV:tB Tryz.prog 203=some ([(vS none 0 0)],[(0,1)]):=by kernel_rfl
theorem Sa:tB Tryz.prog 236=some ([(vS none 0 0),(vS none 0 0),(vS none 0 0)],[(0,1),(1,1),(2,1)]):=by kernel_rfl
theorem Rw:tB Tryz.prog 270=some ([(vS none 0 0),(vI 0),(vS none 0 0),(vS none 0 0),(vI 0),(vI 0),(vI 0),(vI 0),(vI 0),(vS none 0 0),(vS none 0 0),(vS none 0 0),(vS none 0 0),(vS none 0 0)],[(0,7),(7,3),(10,1),(11,1),(12,1),(13,1)]):=by kernel_rfl
theorem BT:tB Tryz.prog 276=some ([(vI 0),(vI 0)],[(0,1),(1,1)]):=by kernel_rfl
theorem xX:tE Tryz.prog 22=some (122,9):=by kernel_rfl
theorem Ak:tE Tryz.prog 25=some (127,2):=by kernel_rfl
theorem vh:tE Tryz.prog 26=some (129,4):=by kernel_rfl
theorem cx:tE Tryz.prog 29=some (3,1):=by kernel_rfl
theorem q9:tE Tryz.prog 30=some (47,1):=by kernel_rfl
theorem zO:tE Tryz.prog 42=some (131,2):=by kernel_rfl
theorem xn:tE Tryz.prog 47=some (46,7):=by kernel_rfl
theorem o6:tE Tryz.prog 67=some (29,1):=by kernel_rfl
theorem jG:tE Tryz.prog 85=some (38,2):=by kernel_rfl
theorem Mc:tE Tryz.prog 86=some (85,1):=by kernel_rfl
theorem p7:tE Tryz.prog 125=some (124,3):=by kernel_rfl
theorem Jz:tE Tryz.prog 147=some (150,2):=by kernel_rfl
theorem FR:tE Tryz.prog 216=some (236,3):=by kernel_rfl
theorem JI:tE Tryz.prog 220=some (119,3):=by kernel_rfl
theorem Oa:tE Tryz.prog 231=some (4,1):=by kernel_rfl
theorem Ov:tE Tryz.prog 266=some (262,1):=by kernel_rfl
theorem FT:tE Tryz.prog 267=some (58,1):=by kernel_rfl
theorem nS:tE Tryz.prog 268=some (274,1):=by kernel_rfl
theorem zE:(match Tryz.prog.underlying 38 with |some (.struct fs)=>(fs[0]?).map (fun fl=>tK Tryz.prog fl.type)|_=>none)=some (some (false,1)):=by kernel_rfl
theorem zQ:(match Tryz.prog.underlying 38 with |some (.struct fs)=>(fs[1]?).map (fun fl=>tK Tryz.prog fl.type)|_=>none)=some (some (false,1)):=by kernel_rfl
theorem UY:tV Tryz.prog 3=some (vI 0):=by kernel_rfl
theorem xd:tV Tryz.prog 38=some (Value.agg [(vI 0),(vI 0)].toArray):=by kernel_rfl
theorem E1:tX Tryz.prog 144=some (4,143):=by kernel_rfl
theorem Fu:tX Tryz.prog 156=some (2,3):=by kernel_rfl
theorem i_:tZ Tryz.prog 3=some [(vI 0)]:=by kernel_rfl
theorem U6:tZ Tryz.prog 4=some [(vB false)]:=by kernel_rfl
theorem zW:tZ Tryz.prog 12=some [(Value.int .u64 0)]:=by kernel_rfl
theorem Uq:tZ Tryz.prog 28=some [(vS none 0 0),(vI 0),(vS none 0 0),(vS none 0 0),(vI 0),(vI 0),(vI 0)]:=by kernel_rfl
theorem vk:tZ Tryz.prog 29=some [(vS none 0 0)]:=by kernel_rfl
theorem Bj:tZ Tryz.prog 32=some [(vS none 0 0),(vI 0),(vS none 0 0),(vS none 0 0),(vI 0),(vI 0),(vI 0),(vS none 0 0),(vS none 0 0),(vI 0),(vS none 0 0)]:=by kernel_rfl
theorem dg:tZ Tryz.prog 38=some [(vI 0),(vI 0)]:=by kernel_rfl
theorem UK:tZ Tryz.prog 44=some [(vI 0),(vI 0),(vS none 0 0)]:=by kernel_rfl
theorem M5:tZ Tryz.prog 46=some [(vB false),(vB false),(vI 0),(vI 0),(vI 0),(vI 0),(vS none 0 0)]:=by kernel_rfl
theorem Tn:tZ Tryz.prog 47=some [(vS none 0 0)]:=by kernel_rfl
theorem T1:tZ Tryz.prog 53=some [Value.nilFunc]:=by kernel_rfl
theorem Q8:tZ Tryz.prog 58=some [(Value.map none)]:=by kernel_rfl
theorem Uw:tZ Tryz.prog 62=some [(Value.map none)]:=by kernel_rfl
theorem SA:tZ Tryz.prog 80=some [(Value.pointer none)]:=by kernel_rfl
theorem RO:tZ Tryz.prog 85=some [(vS none 0 0)]:=by kernel_rfl
theorem CK:tZ Tryz.prog 119=some [(vI 0),(vI 0),(vI 0)]:=by kernel_rfl
theorem Fx:tZ Tryz.prog 122=some [(vI 0),(vI 0),(vI 0),(vI 0),(vI 0),(vI 0),(vI 0),(Value.int .u8 0),(vI 0)]:=by kernel_rfl
theorem rh:tZ Tryz.prog 124=some [(vI 0),(vI 0),(vI 0)]:=by kernel_rfl
theorem H_:tZ Tryz.prog 127=some [(vI 0),(vS none 0 0)]:=by kernel_rfl
theorem RF:tZ Tryz.prog 129=some [(vI 0),(vI 0),(vI 0),(vI 0)]:=by kernel_rfl
theorem EK:tZ Tryz.prog 131=some [(vI 0),(vI 0)]:=by kernel_rfl
theorem FY:tZ Tryz.prog 143=some [Value.nilFunc]:=by kernel_rfl
theorem RI:tZ Tryz.prog 144=some [Value.nilFunc,Value.nilFunc,Value.nilFunc,Value.nilFunc]:=by kernel_rfl
theorem IC:tZ Tryz.prog 203=some [(vS none 0 0)]:=by kernel_rfl
theorem OH:tZ Tryz.prog 233=some [(vS none 0 0),(vS none 0 0),(vS none 0 0)]:=by kernel_rfl
theorem QO:tZ Tryz.prog 236=some [(vS none 0 0),(vS none 0 0),(vS none 0 0)]:=by kernel_rfl
theorem Sw:tZ Tryz.prog 262=some [Value.nilFunc]:=by kernel_rfl
theorem sI:tZ Tryz.prog 276=some [(vI 0),(vI 0)]:=by kernel_rfl
theorem pK:Tryz.prog.underlying 3=some (.int .i64):=by kernel_rfl
theorem UX:Tryz.prog.underlying 4=some .bool:=by kernel_rfl
theorem Od:Tryz.prog.underlying 5=some (.int .u8):=by kernel_rfl
theorem U_:Tryz.prog.underlying 9=some .string:=by kernel_rfl
theorem P9:Tryz.prog.underlying 22=some (.slice 122):=by kernel_rfl
theorem RB:Tryz.prog.underlying 25=some (.slice 127):=by kernel_rfl
theorem PH:Tryz.prog.underlying 26=some (.slice 129):=by kernel_rfl
theorem QS:Tryz.prog.underlying 29=some (.slice 3):=by kernel_rfl
theorem Sp:Tryz.prog.underlying 30=some (.slice 47):=by kernel_rfl
theorem Si:Tryz.prog.underlying 42=some (.slice 131):=by kernel_rfl
theorem Q5:Tryz.prog.underlying 47=some (.slice 46):=by kernel_rfl
theorem nK:Tryz.prog.underlying 58=some (.map 3 38):=by kernel_rfl
theorem BF:Tryz.prog.underlying 62=some (.map 3 4):=by kernel_rfl
theorem Of:Tryz.prog.underlying 125=some (.slice 124):=by kernel_rfl
theorem SU:Tryz.prog.underlying 135=some (.int .u64):=by kernel_rfl
theorem Su:Tryz.prog.underlying 170=some (.int .u64):=by kernel_rfl
theorem oO:Tryz.prog.underlying 274=some (.map 276 3):=by kernel_rfl
theorem O4:fL Tryz.prog 38=some [(3,0),(3,1)]:=by kernel_rfl
theorem OU (d:Nat) (s z:aa) (w:World):(Op.equalIn (d+2) 38 (.agg s.cells.toArray) (.agg z.cells.toArray)).run Tryz.prog w= .ok (decide (s=z)) w:=by
 have hc:(decide (s.Lo=z.Lo)&&(decide (s.Hi=z.Hi)&&true))=decide (s=z):=by rw [Bool.eq_iff_iff]; simp [aa.ext_iff]
 rw [← hc]
 exact xC (d+1) O4 w (sH w (jC N3 U w) (jC N3 U w) (vw _ pK w) (sH w (jC N3 U w) (jC N3 U w) (vw _ pK w) (F1 w)))
theorem sv (x y:Operand) (s z:aa):g9 Tryz.prog .eql 38 x y (.agg s.cells.toArray) (.agg z.cells.toArray) (.bool (decide (s=z))):=He x y (Bt O4) fun w=>OU 9998 s z w
theorem Ow (x y:Operand) (s z:aa):g9 Tryz.prog .neq 38 x y (.agg s.cells.toArray) (.agg z.cells.toArray) (.bool (!decide (s=z))):=GO x y (Bt O4) fun w=>OU 9998 s z w
theorem OY:fL Tryz.prog 276=some [(3,0),(3,1)]:=by kernel_rfl
theorem Qk (d:Nat) (s z:aC) (w:World):(Op.equalIn (d+2) 276 (.agg s.cells.toArray) (.agg z.cells.toArray)).run Tryz.prog w= .ok (decide (s=z)) w:=by
 have hc:(decide (s.right=z.right)&&(decide (s.eP=z.eP)&&true))=decide (s=z):=by rw [Bool.eq_iff_iff]; simp [aC.ext_iff]
 rw [← hc]
 exact xC (d+1) OY w (sH w (jC N3 U w) (jC N3 U w) (vw _ pK w) (sH w (jC N3 U w) (jC N3 U w) (vw _ pK w) (F1 w)))
theorem cy:Tryz.prog.follows .mixedOrders=true:=by kernel_rfl
def TT:CY:=⟨[(1,false,1),(2,false,1),(3,false,1),(4,false,1),(5,false,1),(6,false,1),(7,true,4),(8,true,4),(12,false,1),(15,false,1),(16,false,1),(17,false,1),(18,true,1),(19,true,1),(21,false,1),(22,false,1),(23,true,1),(24,true,1),(25,false,1),(26,false,1),(27,true,7),(28,true,7),(29,false,1),(30,false,1),(31,true,11),(32,true,11),(33,false,1),(34,false,1),(35,false,1),(36,false,1),(37,true,2),(38,true,2),(39,false,1),(41,false,1),(42,false,1),(43,true,3),(44,true,3),(45,true,7),(46,true,7),(47,false,1),(48,false,1),(49,false,1),(50,false,1),(52,false,1),(53,false,1),(55,false,1),(56,false,1),(57,false,1),(58,false,1),(60,false,1),(62,false,1),(63,false,1),(64,false,1),(65,false,1),(66,false,1),(67,false,1),(69,false,1),(71,false,1),(72,false,1),(73,false,1),(74,false,1),(75,false,1),(76,false,1),(77,false,1),(78,false,1),(79,false,1),(80,false,1),(82,false,1),(83,false,1),(84,false,1),(85,false,1),(86,false,1),(87,true,13),(88,true,13),(89,false,1),(91,false,1),(92,false,1),(93,false,1),(94,false,1),(95,false,1),(96,false,1),(97,false,1),(98,false,1),(99,false,1),(100,false,1),(101,false,1),(102,false,1),(103,false,1),(104,false,1),(105,false,1),(107,false,1),(108,false,1),(109,false,1),(110,false,1),(111,false,1),(112,false,1),(113,false,1),(114,false,1),(115,false,1),(116,false,1),(117,false,1),(118,true,3),(119,true,3),(120,false,1),(121,true,9),(122,true,9),(123,true,3),(124,true,3),(125,false,1),(126,true,2),(127,true,2),(128,true,4),(129,true,4),(130,true,2),(131,true,2),(132,false,1),(133,false,1),(134,false,1),(135,false,1),(136,false,1),(137,false,1),(138,false,1),(139,false,1),(141,false,1),(142,false,1),(143,true,1),(144,true,4),(145,false,1),(146,false,1),(147,false,1),(148,false,1),(149,true,2),(150,true,2),(151,true,6),(152,false,1),(153,false,1),(154,false,1),(155,false,1),(156,true,2),(157,false,1),(158,false,1),(159,false,1),(160,false,1),(162,false,1),(163,false,1),(164,false,1),(165,false,1),(167,false,1),(168,false,1),(169,false,1),(170,false,1),(171,false,1),(172,false,1),(173,false,1),(174,false,1),(175,false,1),(176,false,1),(177,false,1),(178,false,1),(179,false,1),(180,false,1),(181,false,1),(182,false,1),(183,false,1),(184,false,1),(185,false,1),(186,false,1),(187,false,1),(188,false,1),(189,false,1),(190,false,1),(191,false,1),(192,false,1),(193,false,1),(194,false,1),(195,false,1),(196,false,1),(197,false,1),(199,false,1),(200,false,1),(201,false,1),(202,true,1),(203,true,1),(205,false,1),(206,false,1),(208,false,1),(209,false,1),(210,false,1),(211,false,1),(213,false,1),(214,false,1),(215,false,1),(216,false,1),(218,false,1),(219,false,1),(220,false,1),(221,false,1),(222,false,1),(223,false,1),(224,false,1),(225,false,1),(226,false,1),(227,false,1),(228,false,1),(229,false,1),(230,false,1),(231,false,1),(232,true,3),(233,true,3),(234,false,1),(235,true,3),(236,true,3),(237,false,1),(238,false,1),(239,false,1),(240,false,1),(241,false,1),(244,true,0),(245,true,0),(246,true,0),(247,false,1),(248,false,1),(249,false,1),(250,false,1),(251,false,1),(252,false,1),(253,false,1),(254,true,11),(255,true,11),(257,false,1),(258,false,1),(259,false,1),(261,false,1),(262,false,1),(263,false,1),(264,false,1),(265,false,1),(266,false,1),(267,false,1),(268,false,1),(269,true,14),(270,true,14),(271,false,1),(272,false,1),(273,false,1),(274,false,1),(275,true,2),(276,true,2),(277,false,1),(278,false,1),(279,false,1),(280,false,1)],[(7,[some 0,some 1,some 2,some 3]),(8,[some 0,some 1,some 2,some 3]),(18,[some 0]),(19,[some 0]),(23,[some 0]),(24,[some 0]),(27,[some 0,some 1,some 2,some 3,some 4,some 5,some 6]),(28,[some 0,some 1,some 2,some 3,some 4,some 5,some 6]),(31,[some 0,some 7,some 8,some 9,some 10]),(32,[some 0,some 7,some 8,some 9,some 10]),(37,[some 0,some 1]),(38,[some 0,some 1]),(43,[some 0,some 1,some 2]),(44,[some 0,some 1,some 2]),(45,[some 0,some 1,some 2,some 4]),(46,[some 0,some 1,some 2,some 4]),(87,[some 0,some 11,some 12]),(88,[some 0,some 11,some 12]),(118,[some 0,some 1]),(119,[some 0,some 1]),(121,[some 0,some 1,some 3,some 5,some 7,some 8]),(122,[some 0,some 1,some 3,some 5,some 7,some 8]),(123,[some 0,some 1]),(124,[some 0,some 1]),(126,[some 0,some 1]),(127,[some 0,some 1]),(128,[some 0,some 3]),(129,[some 0,some 3]),(130,[some 0,some 1]),(131,[some 0,some 1]),(143,[some 0]),(149,[some 0,some 1]),(150,[some 0,some 1]),(202,[some 0]),(203,[some 0]),(232,[some 0,some 1,some 2]),(233,[some 0,some 1,some 2]),(235,[some 0,some 1,some 2]),(236,[some 0,some 1,some 2]),(254,[some 0,some 1,some 2,some 3,some 4,some 5,some 6,some 7,some 8,some 9,some 10]),(255,[some 0,some 1,some 2,some 3,some 4,some 5,some 6,some 7,some 8,some 9,some 10]),(269,[some 0,some 7,some 10,some 11,some 12,some 13]),(270,[some 0,some 7,some 10,some 11,some 12,some 13]),(275,[some 0,some 1]),(276,[some 0,some 1])],[22,25,26,29,30,33,42,47,67,85,86,125,147,216,220,231,266,267,268]⟩
theorem pL:k9 Tryz.prog TT:=O5 kr
theorem cd {t:TypeId} {x:Bool×Nat} (h:TT.JH t=some x:=by rfl):tK Tryz.prog t=some x:=pL.JH h
theorem fB {s f k:Nat} (h:TT.foF s f=some k:=by rfl):r9 Tryz.prog s f=some k:=pL.foF h
end
section
open Go.RowKit
/-- blocks that are read -/
def MM (C:List av) (M:List (Nat×List Value)):Prop:= ∀ p∈M,∀ o vs,(p.2.drop o).take vs.length=vs→At C (some ⟨p.1,o,none⟩) vs
theorem I {C:List av}:MM C []:=fun p h=>by cases h
theorem mc {C:List av} {b t:Nat} {cs:List Value} {M:List (Nat×List Value)} (i:Nat) (hC:C[i]? =some (bY b t cs)) (h:MM C M):MM C ((b,cs)::M):=fun p hp o vs hv=>by
 rcases List.mem_cons.1 hp with rfl|hp
 ·exact pz i hC hv
 ·exact h p hp o vs hv
theorem mr {C:List av} {b t:Nat} {cs:List Value} {M:List (Nat×List Value)} (i:Nat) (hC:C[i]? =some (bY b t cs).ro) (h:MM C M):MM C ((b,cs)::M):=fun p hp o vs hv=>by
 rcases List.mem_cons.1 hp with rfl|hp
 ·exact vu i hC hv
 ·exact h p hp o vs hv
def o_:List Prop→Prop
 |[]=>True
 |p::l=>p∧o_ l
theorem jY {p:Prop} {l:List Prop} (h:p) (h2:o_ l):o_ (p::l):=⟨h,h2⟩
/-- the value of an operation, what it asks for, and what is left of the list of places -/
def pv (T:CY) (ops:Array Oper) (M:List (Nat×List Value)) (L:List (Nat×Value)) (hs:List Nat) (g:Option (Nat×Bool)) (op:Op):Option (Value×List Prop×List Nat):=
 match CP ops L g with
 |true=>some (undef,[],hs)
 |false=>match jq ops L g with
  |false=>none
  |true=>match op with
   | .move x=>match ev L x with
    |some v=>some (v,[],hs)
    |none=>none
   | .assign x=>match ev L x with
    |some v=>some (v,[],hs)
    |none=>none
   | .pick c x y=>match ev L c with
    |some (.bool true)=>match ev L x with
     |some v=>some (v,[],hs)
     |none=>none
    |some (.bool false)=>match ev L y with
     |some v=>some (v,[],hs)
     |none=>none
    |_=>none
   | .unOp .not _ x=>match ev L x with
    |some (.bool b)=>some (.bool !b,[],hs)
    |_=>none
   | .extract x i=>match ev L x with
    |some (.tuple vs)=>match vs.toList[i]? with
     |some v=>some (v,[],hs)
     |none=>none
    |_=>none
   | .fieldAddr s x f=>match ev L x with
    |some (.pointer (some ⟨b,o,none⟩))=>match T.foF s f with
     |some k=>some (.pointer (some ⟨b,o+k,none⟩),[],hs)
     |none=>none
    |_=>none
   | .binOp op _ x y _=>match ev L x with
    |some (.int .i64 a)=>match ev L y with
     |some (.int .i64 b)=>match op with
      | .lss=>some (.bool (decide (a<b)),[],hs)
      | .leq=>some (.bool (decide (a≤b)),[],hs)
      | .gtr=>some (.bool (decide (b<a)),[],hs)
      | .geq=>some (.bool (decide (b≤a)),[],hs)
      | .eql=>some (.bool (decide (a=b)),[],hs)
      | .neq=>some (.bool (!decide (a=b)),[],hs)
      | .add=>some (.int .i64 (a+b),[-9223372036854775808≤a+b,a+b≤9223372036854775807],hs)
      | .sub=>some (.int .i64 (a-b),[-9223372036854775808≤a-b,a-b≤9223372036854775807],hs)
      |_=>none
     |_=>none
    |_=>none
   | .load t x=>match ev L x with
    |some (.pointer (some ⟨b,o,none⟩))=>match M[hs.headD 0]? with
     |some (b',cs)=>match T.JH t with
      |some (false,_)=>match cs[o]? with
       |some v=>some (v,[b'=b],hs.tail)
       |none=>none
      |some (true,n)=>match Nat.beq o 0 with
       |true=>match Nat.beq cs.length n with
        |true=>some (.agg cs.toArray,[b'=b],hs.tail)
        |false=>none
       |false=>none
      |none=>none
     |none=>none
    |_=>none
   | .call c=>match c with
    |{callee:= .builtin .len,args:=xs,argTypes:=ts}=>match xs.toList with
     |[x]=>match ts.toList with
      |[t]=>match ev L x with
       |some (.slice A n c)=>match LQ T.sl t with
        |true=>some (.int .i64 n,[],hs)
        |false=>none
       |_=>none
      |_=>none
     |_=>none
    |_=>none
   |_=>none
section
variable {E:fg} {T:CY} {ops:Array Oper} {M:List (Nat×List Value)} {D:List Deferred} {L:List (Nat×Value)} {C:List av} {hs hs':List Nat}
theorem uO {cs:List Value} {o:Nat} {v:Value} (h:cs[o]? =some v):(cs.drop o).take [v].length=[v]:=by
 obtain ⟨hl,rfl⟩:=List.getElem?_eq_some_iff.1 h
 rw [List.drop_eq_getElem_cons hl]; rfl
theorem QF {o:Oper} {v:Value} {S:List Prop} (hT:k9 E.P T) (hM:MM C M) (h:pv T ops M L hs o.guard o.op=some (v,S,hs')) (hS:o_ S):SD E ops o D L C v:=by
 obtain ⟨dst,op,ty,ps,af,g⟩:=o
 unfold pv at h
 simp only at h
 split at h
 ·rename_i hg
  cases h
  exact JJ hg
 ·split at h
  ·cases h
  ·rename_i hg
   split at h
   ·split at h
    ·rename_i hx; cases h; exact FC hg hx
    ·cases h
   ·split at h
    ·rename_i hx; cases h; exact yG hg hx
    ·cases h
   ·split at h
    ·rename_i hc
     split at h
     ·rename_i hx; cases h; exact yB hg hc hx
     ·cases h
    ·rename_i hc
     split at h
     ·rename_i hx; cases h; exact yI hg hc hx
     ·cases h
    ·cases h
   ·split at h
    ·rename_i hx; cases h; exact JN hg hx
    ·cases h
   ·split at h
    ·rename_i vs hx
     split at h
     ·rename_i v' hv; cases h; exact wu (vs:=vs.toList) hg (by simpa using hx) hv
     ·cases h
    ·cases h
   ·split at h
    ·rename_i hx
     split at h
     ·rename_i hk; cases h; exact OT hg hx (hT.foF hk) rfl
     ·cases h
    ·cases h
   ·split at h
    ·rename_i hx
     split at h
     ·rename_i hy
      split at h
      ·cases h; exact bZ hg hx hy gO
      ·cases h; exact bZ hg hx hy SN
      ·cases h; exact bZ hg hx hy RL
      ·cases h; exact bZ hg hx hy EN
      ·cases h; exact bZ hg hx hy jA
      ·cases h; exact bZ hg hx hy ig
      ·cases h; exact bZ hg hx hy (g8 ⟨hS.1,hS.2.1⟩)
      ·cases h; exact bZ hg hx hy (ru ⟨hS.1,hS.2.1⟩)
      ·cases h
     ·cases h
    ·cases h
   ·split at h
    ·rename_i hx
     split at h
     ·rename_i b' cs hm
      have A:=aU hm
      split at h
      ·rename_i hk
       split at h
       ·rename_i hv
        cases h
        obtain rfl:=hS.1
        exact tU hg hx (hT.JH hk) (hM _ A _ _ (uO hv))
       ·cases h
      ·rename_i n hk
       split at h
       ·rename_i ho
        split at h
        ·rename_i hn
         cases h
         obtain rfl:=hS.1
         have H:=Nat.eq_of_beq_eq_true ho
         subst H
         exact xL hg hx (hT.JH hk) (hM _ A 0 cs sm) (Nat.eq_of_beq_eq_true hn)
        ·cases h
       ·cases h
      ·cases h
     ·cases h
    ·cases h
   ·split at h
    ·rename_i xs ts
     split at h
     ·rename_i x G
      split at h
      ·rename_i t F
       split at h
       ·rename_i hx
        split at h
        ·rename_i B
         cases h
         obtain ⟨e,he⟩:=hT.sl t (AW B)
         have AA:xs= #[x]:=by apply Array.ext'; simpa using G
         have J:ts= #[t]:=by apply Array.ext'; simpa using F
         subst AA J
         exact IY hg hx he
        ·cases h
       ·cases h
      ·cases h
     ·cases h
    ·cases h
   ·cases h
def pr (T:CY) (n:Nat) (ops:Array Oper) (M:List (Nat×List Value)):Nat→List Nat→List (Nat×Value)→List Oper→Option (List (Nat×Value)×List Oper×List Prop)
 |0,_,L,rest=>some (L,rest,[])
 |k+1,hs,L,[]=>none
 |k+1,hs,L,o::rest=>match o.dst with
  |none=>none
  |some d=>match Nat.blt d n with
   |false=>none
   |true=>match pv T ops M L hs o.guard o.op with
    |none=>none
    |some (v,S,hs')=>match pr T n ops M k hs' ((d,v)::L) rest with
     |none=>none
     |some (L',rest',S')=>some (L',rest',S++S')
theorem xu: ∀ {S S':List Prop},o_ (S++S')→o_ S∧o_ S'
 |[],S',h=>⟨trivial,h⟩
 |p::S,S',h=>⟨⟨h.1,(xu h.2).1⟩,(xu h.2).2⟩
/-- whatever is closed under single steps -/
theorem Jn {J:List Oper→List (Nat×Value)→Prop} (hT:k9 E.P T) (hM:MM C M) (hJ: ∀ o rest L d v,SD E ops o D L C v→o.dst=some d→Nat.blt d E.n=true→J rest ((d,v)::L)→J (o::rest) L):
 ∀ (k:Nat) (hs:List Nat) (L:List (Nat×Value)) (rest:List Oper) {L':List (Nat×Value)} {rest':List Oper} {S:List Prop},pr T E.n ops M k hs L rest=some (L',rest',S)→o_ S→J rest' L'→J rest L
 |0,hs,L,rest,L',rest',S,h,hS,hj=>by
  unfold pr at h
  cases h
  exact hj
 |k+1,hs,L,[],L',rest',S,h,hS,hj=>by unfold pr at h; cases h
 |k+1,hs,L,o::rest,L',rest',S,h,hS,hj=>by
  unfold pr at h
  split at h
  ·cases h
  ·rename_i d hd
   split at h
   ·cases h
   ·rename_i hn
    split at h
    ·cases h
    ·rename_i v S1 A hv
     split at h
     ·cases h
     ·rename_i L1 G S2 hr
      cases h
      obtain ⟨B,F⟩:=xu hS
      exact hJ o rest L d v (QF hT hM hv B) hd hn (Jn hT hM hJ k A _ rest hr F hj)
variable {Q:c_} {rest rest':List Oper} {L0 L':List (Nat×Value)} {S:List Prop} {F:List (Nat×Value)→Prop}
/-- a run of operations, one after the other -/
theorem rP (k:Nat) (hs:List Nat) (hM:MM C M) (j:RJ E ops Q rest' D L' C) (hT:k9 E.P T:=by exact pL) (h:pr T E.n ops M k hs L rest=some (L0,rest',S):=by rfl) (hL:L0=L':=by (try dsimp only)<;>rfl) (hS:o_ S:=by repeat' first|exact True.intro |refine jY ?_ ?_ |exact rfl|omega|(dsimp only; omega)):RJ E ops Q rest D L C:=by
 subst hL
 exact Jn (J:=fun r L=>RJ E ops Q r D L C) hT hM (fun o rest L d v A B F G=>Re A B F G) k hs L rest h hS j
theorem dP (k:Nat) (hs:List Nat) (hM:MM C M) (j:DJ E ops D C F rest' L') (hT:k9 E.P T:=by exact pL) (h:pr T E.n ops M k hs L rest=some (L0,rest',S):=by rfl) (hL:L0=L':=by (try dsimp only)<;>rfl) (hS:o_ S:=by repeat' first|exact True.intro |refine jY ?_ ?_ |exact rfl|omega):DJ E ops D C F rest L:=by
 subst hL
 exact Jn (J:=fun r L=>DJ E ops D C F r L) hT hM (fun o rest L d v A B G H=>QX A B G H) k hs L rest h hS j
end
section
variable {P:Program} {r:Option Nat} {n:Nat} {B:BS} {w0:World} {ops:Array Oper} {M:List (Nat×List Value)} {D:List Deferred} {L L':List (Nat×Value)} {C:List av} {Q:c_} {rest rest':List Oper} {S:List Prop} {F:List (Nat×Value)→Prop}
theorem fD (k:Nat) (hs:List Nat) (hM:MM C M) (h:pr TT n ops M k hs L rest=some (L',rest',S)) (j:RJ ⟨P,r,n,B,w0⟩ ops Q rest' D L' C) (hS:o_ S:=by repeat' first|exact True.intro |refine jY ?_ ?_ |exact rfl|omega|(dsimp only; omega)) (hT:k9 P TT:=by exact pL):RJ ⟨P,r,n,B,w0⟩ ops Q rest D L C:=rP k hs hM j hT h rfl hS
theorem mu (k:Nat) (hs:List Nat) (hM:MM C M) (h:pr TT n ops M k hs L rest=some (L',rest',S)) (j:DJ ⟨P,r,n,B,w0⟩ ops D C F rest' L') (hS:o_ S:=by repeat' first|exact True.intro |refine jY ?_ ?_ |exact rfl|omega|(dsimp only; omega)) (hT:k9 P TT:=by exact pL):DJ ⟨P,r,n,B,w0⟩ ops D C F rest L:=dP k hs hM j hT h rfl hS
theorem bo (k:Nat) (h:pr TT n ops [] k [] L rest=some (L',rest',S)) (j:RJ ⟨P,r,n,B,w0⟩ ops Q rest' D L' C) (hS:o_ S:=by repeat' first|exact True.intro |refine jY ?_ ?_ |exact rfl|omega|(dsimp only; omega)) (hT:k9 P TT:=by exact pL):RJ ⟨P,r,n,B,w0⟩ ops Q rest D L C:=rP k [] I j hT h rfl hS
theorem km (k:Nat) (h:pr TT n ops [] k [] L rest=some (L',rest',S)) (j:DJ ⟨P,r,n,B,w0⟩ ops D C F rest' L') (hS:o_ S:=by repeat' first|exact True.intro |refine jY ?_ ?_ |exact rfl|omega|(dsimp only; omega)) (hT:k9 P TT:=by exact pL):DJ ⟨P,r,n,B,w0⟩ ops D C F rest L:=dP k [] I j hT h rfl hS
end
end
section
open Go.RowKit
/-- parts of a context, reckoned to the end -/
def oW (C:List av):List Nat→Option (List av)
 |[]=>some []
 |i::is=>match C[i]? with
  |some A=>match oW C is with
   |some l=>some (A::l)
   |none=>none
  |none=>none
theorem jy {C:List av}: ∀ {is:List Nat} {C':List av},oW C is=some C'→kd C is=C'
 |[],C',h=>by cases h; rfl
 |i::is,C',h=>by
  unfold oW at h
  split at h
  ·rename_i A hA
   split at h
   ·rename_i l hl
    cases h
    show List.filterMap (C[·]?) (i::is)=A::l
    rw [List.filterMap_cons_some hA]
    exact congrArg _ (jy hl)
   ·cases h
  ·cases h
/-- a part of a context in place of the whole -/
theorem aL {S:BS} {w0:World} {C C':List av} (is:List Nat) (hn:decide is.Nodup=true:=by rfl) (hC:kd C is=C':=by rfl): ∀ w,St S w0 C w→St S w0 C' w:=fun w h=>St.kd is hn hC h
theorem QV {S:BS} {w0:World} {C C':List av} (is:List Nat) (hC:oW C is=some C') (hn:decide is.Nodup=true:=by rfl): ∀ w,St S w0 C w→St S w0 C' w:=fun w h=>St.kd is hn (jy hC) h
def N9 (C:List av) (i:Nat) (B:av):Option (List av):=match i,C with
 |0,_::C=>some (B::C)
 |i+1,A::C=>match N9 C i B with
  |some l=>some (A::l)
  |none=>none
 |_,[]=>none
theorem EM: ∀ {C:List av} {i:Nat} {B:av} {C':List av},N9 C i B=some C'→C.set i B=C'
 |[],0,B,C',h=>by cases h
 |[],i+1,B,C',h=>by cases h
 |A::C,0,B,C',h=>by cases h; rfl
 |A::C,i+1,B,C',h=>by
  unfold N9 at h
  split at h
  ·rename_i l hl
   cases h
   exact congrArg _ (EM hl)
  ·cases h
theorem gQ {E:fg} {K:Act→World→Prop} {D:List Deferred} {L:List (Nat×Value)} {C C':List av} {A B:av} (i:Nat) (hC:C[i]? =some A) (hh:(∀ w,A.holds w→B.holds w)∧(∀ b,B.fw b→A.fw b)∧ ∀ b,B.wf b→A.wf b) (hC':N9 C i B=some C') (h:KJ E K D L C'):KJ E K D L C:=Lf i hC hh (EM hC') h
/-- the operations of a region but these; marks of some places -/
def Uz (n:Nat) (T:List Nat):List Nat:=(List.range n).filter fun i=> !T.contains i
def U4 (k:Nat) (t:List Nat):List Bool:=(List.range k).map fun i=>t.contains i
theorem dL {E:fg} {id:Nat} {ops:Array Oper} {Q:c_} {D:List Deferred} {L:List (Nat×Value)} {C:List av} (hm:E.P.follows .mixedOrders=true) (T fe tb i1 i2:List Nat) {C' C1:List av} {free:List Nat} {Oi tbb:List Bool}
 (h1:oW C i1=some C') (h2:oW C i2=some C1) (hf:free=Uz ops.size T) (hfe:Oi=U4 free.length fe) (htb:tbb=U4 T.length tb)
 (h:pT E ops D C' C1 (fun L'=>TJ E ops D C' C1 (fun L C=>KJ E (Q .normal) D L C) tbb (eQ ops T) L' C) Oi (eQ ops free) L)
 (hc:M6 ops free T Oi tbb=true:=by kernel_rfl) (n1:decide i1.Nodup=true:=by rfl) (n2:decide i2.Nodup=true:=by rfl):WJ E (.region id ops true) Q D L C:=
 M0 hm free T Oi tbb C' C1 hc (QV i1 h1 n1) (QV i2 h2 n2) h
end
section
open Go.RowKit
def vo (T:CY) (M:List (Nat×List Value)) (L:List (Nat×Value)):List ResultVar→List Nat→Option (List Value×List Prop)
 |[],_=>some ([],[])
 | .tmp t::rs,hs=>match L.lookup t with
  |some v=>match vo T M L rs hs with
   |some (vs,S)=>some (v::vs,S)
   |none=>none
  |none=>none
 | .cell a t::rs,hs=>match L.lookup a with
  |some (.pointer (some ⟨b,o,none⟩))=>match M[hs.headD 0]? with
   |some (b',cs)=>match T.JH t with
    |some (false,_)=>match cs[o]? with
     |some v=>match vo T M L rs hs.tail with
      |some (vs,S)=>some (v::vs,(b'=b)::S)
      |none=>none
     |none=>none
    |some (true,n)=>match Nat.beq o 0 with
     |true=>match Nat.beq cs.length n with
      |true=>match vo T M L rs hs.tail with
       |some (vs,S)=>some (.agg cs.toArray::vs,(b'=b)::S)
       |none=>none
      |false=>none
     |false=>match vo T M L rs hs.tail with
      |some (vs,S)=>some (.agg ((cs.drop o).take n).toArray::vs,(b'=b)::(((cs.drop o).take n).length=n)::S)
      |none=>none
    |none=>none
   |none=>none
  |_=>none
theorem nO {P:Program} {T:CY} {M:List (Nat×List Value)} {L:List (Nat×Value)} {C:List av} (hT:k9 P T) (hM:MM C M): ∀ (rs:List ResultVar) (hs:List Nat) {vs:List Value} {S:List Prop},vo T M L rs hs=some (vs,S)→o_ S→Gk P L C rs vs
 |[],_,vs,S,h,hS=>by unfold vo at h; cases h; exact trivial
 | .tmp t::rs,hs,vs,S,h,hS=>by
  unfold vo at h
  split at h
  ·rename_i v hv
   split at h
   ·rename_i vs' S' hr
    cases h
    exact ⟨hv,nO hT hM rs hs hr hS⟩
   ·cases h
  ·cases h
 | .cell a t::rs,hs,vs,S,h,hS=>by
  unfold vo at h
  split at h
  ·rename_i b o hl
   split at h
   ·rename_i b' cs hm
    have A:=aU hm
    split at h
    ·rename_i hk
     split at h
     ·rename_i v hv
      split at h
      ·rename_i vs' S' hr
       cases h
       obtain ⟨rfl,hS⟩:=hS
       exact ⟨⟨_,hl,.inr ⟨_,hT.JH hk,hM _ A _ _ (uO hv)⟩⟩,nO hT hM rs _ hr hS⟩
      ·cases h
     ·cases h
    ·rename_i n hk
     split at h
     ·rename_i ho
      split at h
      ·rename_i hn
       split at h
       ·rename_i vs' S' hr
        cases h
        obtain ⟨rfl,hS⟩:=hS
        have D:=Nat.eq_of_beq_eq_true ho
        subst D
        exact ⟨⟨_,hl,.inl ⟨_,cs,hT.JH hk,hM _ A 0 cs sm,Nat.eq_of_beq_eq_true hn,U⟩⟩,nO hT hM rs _ hr hS⟩
       ·cases h
      ·cases h
     ·split at h
      ·rename_i vs' S' hr
       cases h
       obtain ⟨rfl,B,hS⟩:=hS
       exact ⟨⟨_,hl,.inl ⟨_,_,hT.JH hk,hM _ A o _ (by rw [B]),B,U⟩⟩,nO hT hM rs _ hr hS⟩
      ·cases h
    ·cases h
   ·cases h
  ·cases h
section
variable {P:Program} {n:Nat} {fn:Func} {w0:World} {K:Act→World→Prop} {L:List (Nat×Value)} {C:List av} {M:List (Nat×List Value)} {vs:List Value} {S:List Prop} {u x v:Value}
theorem HO (hQ: ∀ D L C,LJ ⟨P,none,n,sQ,w0⟩ fn (Bp w0 v) D L C→KJ ⟨P,none,n,sQ,w0⟩ K D L C) (hs:List Nat) (hM:MM C M) (h:vo TT M L fn.results.toList hs=some ([u],S)) (e:u=v) (hS:o_ S:=by repeat' first|exact True.intro |refine jY rfl ?_) (hT:k9 P TT:=by exact pL):KJ ⟨P,none,n,sQ,w0⟩ K [] L C:=
 hQ _ _ _ (gV (nO hT hM _ _ h hS) fun w hs=>Eo e hs)
theorem lg (hQ: ∀ D L C,LJ ⟨P,none,n,sQ,w0⟩ fn (Bp w0 v) D L C→KJ ⟨P,none,n,sQ,w0⟩ K D L C) (hs:List Nat) (hM:MM C M) (h:vo TT M L fn.results.toList hs=some (u::x::vs,S)) (e:Value.tuple (u::x::vs).toArray=v) (hS:o_ S:=by repeat' first|exact True.intro |refine jY rfl ?_) (hT:k9 P TT:=by exact pL):KJ ⟨P,none,n,sQ,w0⟩ K [] L C:=
 hQ _ _ _ (gV (nO hT hM _ _ h hS) fun w hs=>Eo e hs)
theorem LX {α:Type} {V:α→Value} {p:α→Prop} {N:α→List av} (hQ: ∀ D L C,LJ ⟨P,none,n,sQ,w0⟩ fn (JA w0 V p N) D L C→KJ ⟨P,none,n,sQ,w0⟩ K D L C) (x:α) (is hs:List Nat) (hM:MM C M) (h:vo TT M L fn.results.toList hs=some (vs,S)) (hw:(N x).all (·.wr)=true) (hN:kd C is=N x) (hV:Qw vs=V x) (hp:p x) (hn:decide is.Nodup=true:=by rfl) (hS:o_ S:=by repeat' first|exact True.intro |refine jY rfl ?_) (hT:k9 P TT:=by exact pL):KJ ⟨P,none,n,sQ,w0⟩ K [] L C:=
 hQ _ _ _ (gV (nO hT hM _ _ h hS) fun w hs=>Ly x is hV hp hn hN hw hs)
theorem LM {A:av} {α:Type} {V:α→Value} {p:α→Prop} {A':α→av} (hQ: ∀ D L C,LJ ⟨P,none,n,⟨A.wf,fun _=>True⟩,w0⟩ fn (MY w0 A V p A') D L C→KJ ⟨P,none,n,⟨A.wf,fun _=>True⟩,w0⟩ K D L C) (x:α) (i:Nat) (hs:List Nat) (hM:MM C M) (h:vo TT M L fn.results.toList hs=some (vs,S)) (hw:(A' x).wr=true) (hC:C[i]? =some (A' x)) (hV:Qw vs=V x) (hp:p x) (hS:o_ S:=by repeat' exact True.intro) (hT:k9 P TT:=by exact pL):KJ ⟨P,none,n,⟨A.wf,fun _=>True⟩,w0⟩ K [] L C:=
 hQ _ _ _ (gV (nO hT hM _ _ h hS) fun w hs=>Sj x i hV hp hC hw hs)
end
end
section
open Go.RowKit
def EG {α:Type _}:List α→List α→Option (List α)
 |[],m=>some m
 |a::l,m=>match EG l m with
  |some r=>some (a::r)
  |none=>none
theorem Fm {α:Type _}: ∀ {l m r:List α},EG l m=some r→l++m=r
 |[],m,r,h=>by cases h; rfl
 |a::l,m,r,h=>by
  unfold EG at h
  split at h
  ·rename_i r' hr
   cases h
   exact congrArg (a:: ·) (Fm hr)
  ·cases h
def Tb (L:List (Nat×Value)):List Nat→Option (List (Nat×Value))
 |[]=>some []
 |t::ts=>match L.lookup t with
  |some v=>match Tb L ts with
   |some r=>some ((t,v)::r)
   |none=>none
  |none=>none
theorem Fc {L M:List (Nat×Value)} (k:dB L M): ∀ {ts:List Nat} {r:List (Nat×Value)},Tb L ts=some r→dB L (r++M)
 |[],r,h=>by cases h; exact k
 |t::ts,r,h=>by
  unfold Tb at h
  split at h
  ·rename_i v hv
   split at h
   ·rename_i r' hr
    cases h
    exact dB.cons hv (Fc k hr)
   ·cases h
  ·cases h
section
variable {E:fg} {Q:c_} {D:List Deferred} {L L0:List (Nat×Value)} {C C0:List av} {ι:Type} {Li:ι→List (Nat×Value)} {Ci:ι→List av}
theorem bS {c:Code} (kL kC:List Nat) (hL:Tb L kL=some L0) (hC0:oW C kC=some C0) (S:ι→List (Nat×Value)) (G:ι→List av) (hLi: ∀ x,EG L0 (S x)=some (Li x)) (hCi: ∀ x,EG C0 (G x)=some (Ci x)) (μ:ι→Nat) (x0:ι)
 (h0:dB L (S x0)) (hC: ∀ w,St E.S E.w0 C w→St E.S E.w0 (Ci x0) w)
 (round: ∀ x (J:Act→World→Prop),(∀ y D' L' C',D'=D→μ y<μ x→dB L' (Li y)→(∀ w,St E.S E.w0 C' w→St E.S E.w0 (Ci y) w)→KJ E J D' L' C')→WJ E c (Exit.then J Q) D (Li x) (Ci x)):WJ E (.loop c) Q D L C:=
 Px Li Ci μ x0 (Fm (hLi x0)▸Fc h0 hL) hC round
theorem mI {x y:Code} (kL kC:List Nat) (hL:Tb L kL=some L0) (hC0:oW C kC=some C0) (S:ι→List (Nat×Value)) (G:ι→List av) (hLi: ∀ x,EG L0 (S x)=some (Li x)) (hCi: ∀ x,EG C0 (G x)=some (Ci x))
 (hy: ∀ z,WJ E y Q D (Li z) (Ci z)) (h: ∀ K:Act→World→Prop,(∀ z,KJ E K D (Li z) (Ci z))→WJ E x (Exit.then K Q) D L C):WJ E (.seq x y) Q D L C:=PG Li Ci hy h
end
end
section
open Go.RowKit
set_option linter.unusedSectionVars false
/-- what is asked of keys -/
structure tW (P:Program) (kt:Nat) {K:Type} (kV:K→Value):Prop where
 check: ∀ (e:Bool) (x:K) (w:World),(Instr.checkKey e 10000 kt (kV x)).run P w= .ok () w
 find: ∀ (x:K) (w:World) (es:List MapEntry),(∀ e∈es,∃ k,e.key=kV k)→
  ((Instr.findKey kt (kV x) es).run P w= .ok none w∧ ∀ e∈es,e.key≠kV x)∨ ∃ j e,(Instr.findKey kt (kV x) es).run P w= .ok (some (j,e.val)) w∧es[j]? =some e∧e.key=kV x
 bits: ∀ x,Instr.sameBits 10000 (kV x) (kV x)=true
 inj: ∀ x y,kV x=kV y→x=y
section
variable {K:Type} [DecidableEq K] {kV:K→Value}
def eT {β:Type} (l:List (K×β)) (x:K) (y:β):List (K×β):=if (l.lookup x).isSome then l.map (fun p=>if p.1=x then (x,y) else p) else l++[(x,y)]
def cD {β:Type} (l:List (K×β)) (x:K):List (K×β):=l.filter fun p=> !decide (p.1=x)
def bT {β γ:Type} (f:β→γ) (l:List (K×β)):List (K×γ):=l.map fun p=>(p.1,f p.2)
theorem G6 {β γ:Type} (f:β→γ) (l:List (K×β)):(bT f l).length=l.length:=by simp [bT]
theorem mD {β γ:Type} (f:β→γ) (x:K): ∀ l:List (K×β),(bT f l).lookup x=(l.lookup x).map f
 |[]=>rfl
 |p::l=>by
  obtain ⟨k,v⟩:=p
  have ih:=mD f x l
  by_cases h:x=k
  ·subst h; simp [bT,List.lookup]
  ·have:(x==k)=false:=by simpa using h
   simp only [bT,List.map_cons,List.lookup,this] at ih ⊢
   exact ih
theorem ia {β γ:Type} (f:β→γ) (l:List (K×β)) (x:K) (y:β):bT f (eT l x y)=eT (bT f l) x (f y):=by
 unfold eT
 rw [mD,Option.isSome_map]
 split
 ·simp only [bT,List.map_map]
  refine List.map_congr_left fun p _=>?_
  simp only [Function.comp]
  split<;>rfl
 ·simp [bT]
theorem ly {β γ:Type} (f:β→γ) (l:List (K×β)) (x:K):bT f (cD l x)=cD (bT f l) x:=by
 unfold cD bT
 rw [List.filter_map]
 rfl
theorem jf {β:Type} {x:K}: ∀ {l:List (K×β)},l.lookup x=none↔ ∀ p∈l,p.1≠x
 |[]=>by simp
 |p::l=>by
  obtain ⟨k,v⟩:=p
  by_cases h:x=k
  ·subst h; simp [List.lookup]
  ·have hb:(x==k)=false:=by simpa using h
   simp only [List.lookup,hb,er,forall_eq_or_imp]
   rw [jf (l:=l)]
   exact ⟨fun q=>⟨fun e=>h e.symm,q⟩,fun q=>q.2⟩
theorem jQ {β:Type} {x:K} {y:β}: ∀ {l:List (K×β)},(l.map (·.1)).Nodup→((x,y)∈l↔l.lookup x=some y)
 |[],_=>by simp
 |p::l,hn=>by
  obtain ⟨k,v⟩:=p
  simp only [List.map_cons,List.nodup_cons] at hn
  by_cases h:x=k
  ·subst h
   simp only [List.lookup,beq_self_eq_true,er,Prod.mk.injEq,true_and,Option.some.injEq]
   constructor
   ·rintro (e|e)
    ·exact e.symm
    ·exact absurd (List.mem_map.2 ⟨_,e,U⟩) hn.1
   ·intro e; exact .inl e.symm
  ·have hb:(x==k)=false:=by simpa using h
   simp only [List.lookup,hb,er,Prod.mk.injEq,h,false_and,false_or]
   exact jQ hn.2
structure iO (kV:K→Value) (es:Array MapEntry) (c:Nat) (m:List (K×Value)):Prop where
 list:es.toList.map (fun (e:MapEntry)=>(e.key,e.val))=m.map (fun p=>(kV p.1,p.2))
 keys:(m.map (·.1)).Nodup
 JF: ∀ e∈es.toList,e.born<c
 born:(es.toList.map (·.born)).Nodup
def ik (kV:K→Value) (b:Nat) (m:List (K×Value)):av where
 fw k:=k=b
 wf k:=k=b
 holds w:= ∃ es c,w.heap[b]? =some (.map es c)∧iO kV es c m
 wr:=true
 ki _ h:=h
 whole _ _ h:=h
 lt w h k hk:=by obtain ⟨es,c,he,_⟩:=h; exact hk▸ej he
 oj w w' hk h:=by obtain ⟨es,c,he,hm⟩:=h; exact ⟨es,c,(hk b rfl).trans he,hm⟩
theorem iO.nil:iO kV #[] 0 []:=⟨rfl,List.nodup_nil,sm,List.nodup_nil⟩
theorem iO.size {es:Array MapEntry} {c:Nat} {m:List (K×Value)} (h:iO kV es c m):es.size=m.length:=by
 have:=congrArg List.length h.list
 simpa using this
theorem DI {P:Program} {kt:Nat} (hk:tW P kt kV) (x:K): ∀ (es:List MapEntry) (m:List (K×Value)),es.map (fun (e:MapEntry)=>(e.key,e.val))=m.map (fun p=>(kV p.1,p.2))→
 ((∀ e∈es,e.key≠kV x)→m.lookup x=none)∧ ∀ (j:Nat) (e:MapEntry),es[j]? =some e→e.key=kV x→m[j]? =some (x,e.val):=by
 intro es m h
 refine ⟨fun hn=>jf.2 fun p hp e=>?_,fun j e he hx=>?_⟩
 ·have:(kV p.1,p.2)∈es.map (fun (e:MapEntry)=>(e.key,e.val)):=by rw [h]; exact List.mem_map.2 ⟨p,hp,rfl⟩
  obtain ⟨z,hz,B⟩:=List.mem_map.1 this
  simp only [Prod.mk.injEq] at B
  exact hn z hz (by rw [B.1,e])
 ·have A:(es.map (fun (e:MapEntry)=>(e.key,e.val)))[j]? =some (e.key,e.val):=by rw [fy,he]; rfl
  rw [h,fy] at A
  cases hm:m[j]? with
  |none=>simp [hm] at A
  |some p=>
   simp only [hm,Option.map_some,Option.some.injEq,Prod.mk.injEq] at A
   have:=hk.inj _ _ (A.1.trans hx)
   obtain ⟨k,v⟩:=p
   simp only at this A
   rw [this,A.2]
theorem oD {P:Program} {w:World} {kt:Nat} {x:K} {es:Array MapEntry} {c:Nat} {m:List (K×Value)} (hk:tW P kt kV) (h:iO kV es c m):
 ((Instr.findKey kt (kV x) es.toList).run P w= .ok none w∧m.lookup x=none)∨
 ∃ j v,(Instr.findKey kt (kV x) es.toList).run P w= .ok (some (j,v)) w∧m[j]? =some (x,v)∧m.lookup x=some v:=by
 obtain ⟨D,E⟩:=DI hk x es.toList m h.list
 rcases hk.find x w es.toList (fun e he=>by
  have:(e.key,e.val)∈m.map (fun p=>(kV p.1,p.2)):=by rw [← h.list]; exact List.mem_map.2 ⟨e,he,rfl⟩
  obtain ⟨p,_,hp⟩:=List.mem_map.1 this
  simp only [Prod.mk.injEq] at hp
  exact ⟨p.1,hp.1.symm⟩) with ⟨A,B⟩|⟨j,e,A,B,C⟩
 ·exact .inl ⟨A,D B⟩
 ·have:=E j e B C
  exact .inr ⟨j,e.val,A,this,(jQ h.keys).1 (aU this)⟩
theorem iD {P:Program} {w:World} {kt:Nat} {x:K} (hk:tW P kt kV) (e:Bool):(Instr.checkKey e 10000 kt (kV x)).run P w= .ok () w:=hk.check e x w
section
variable {E:fg} {ops:Array Oper} {Q:c_} {rest:List Oper} {D:List Deferred} {L:List (Nat×Value)} {C:List av}
variable {dst:Option Tmp} {d:Nat} {ty:TypeId} {ps:String} {af:Array Edge} {g:Option (Nat×Bool)}
theorem oI {t:TypeId} (hg:jq ops L g=true) (hd:Nat.blt d E.n=true) (k: ∀ b,RJ E ops Q rest D ((d,.map (some b))::L) (ik kV b []::C)):RJ E ops Q (⟨some d,.makeMap t none,ty,ps,af,g⟩::rest) D L C:=by
 intro a w B hs
 have hd':d<E.n:=by rw [← Nat.blt_eq]; exact hd
 unfold re
 rw [if_pos (dU B hg)]
 refine gM (v:= .map (some w.heap.size)) (w':=w.alloc (.map #[] 0)) sm ?_ ?_
 ·simp [execOp,Instr.makeMap,newObj,Sem.run]
 ·refine k _ _ _ (B.put hd' _) (hs.grow (dQ.alloc no w _) (N:=[ik kV w.heap.size []]) ⟨fun A hA=>?_,fun A hA b hb=>?_,List.pairwise_singleton _ _⟩)
  ·simp at hA; subst hA; exact ⟨#[],0,heap_alloc_new w _,iO.nil⟩
  ·simp at hA; subst hA; exact Nat.le_of_eq (Eq.symm hb)
theorem iO.push {es:Array MapEntry} {c:Nat} {m:List (K×Value)} (h:iO kV es c m) {x:K} (hx:m.lookup x=none) (v:Value):iO kV (es.push {key:=kV x,val:=v,born:=c}) (c+1) (m++[(x,v)]):=by
 refine ⟨by simp [h.list],?_,?_,?_⟩
 ·rw [List.map_append,List.nodup_append]
  refine ⟨h.keys,sm,fun a ha b hb=>?_⟩
  simp at hb; subst hb
  obtain ⟨p,hp,rfl⟩:=List.mem_map.1 ha
  exact jf.1 hx p hp
 ·intro e he
  simp only [Array.toList_push,kH,bW] at he
  rcases he with he|rfl
  ·exact Nat.lt_succ_of_lt (h.JF e he)
  ·exact Nat.lt_succ_self _
 ·simp only [Array.toList_push,List.map_append,List.map_cons,List.map_nil]
  rw [List.nodup_append]
  refine ⟨h.born,sm,fun a ha b hb=>?_⟩
  simp at hb; subst hb
  obtain ⟨p,hp,rfl⟩:=List.mem_map.1 ha
  exact Nat.ne_of_lt (h.JF p hp)
theorem L_ {m:List (K×Value)} {j:Nat} {x:K} {v0 v:Value} (hn:(m.map (·.1)).Nodup) (hj:m[j]? =some (x,v0)):m.map (fun p=>if p.1=x then (x,v) else p)=m.set j (x,v):=by
 refine List.ext_getElem? fun i=>?_
 rw [fy,List.getElem?_set]
 by_cases e:j=i
 ·subst e
  have hl:=(List.getElem?_eq_some_iff.1 hj).1
  rw [hj]; simp [hl]
 ·rw [if_neg e]
  cases hi:m[i]? with
  |none=>rfl
  |some p=>
   simp only [Option.map_some]
   rw [if_neg]
   intro hp
   have B:(m.map (·.1))[i]? =some x:=by rw [fy,hi]; simp [hp]
   have C:(m.map (·.1))[j]? =some x:=by rw [fy,hj]; rfl
   have A:=(List.getElem?_eq_some_iff.1 B).1
   exact e (((List.getElem?_inj A hn).1 (B.trans C.symm)).symm)
theorem iO.set {es:Array MapEntry} {c:Nat} {m:List (K×Value)} (h:iO kV es c m) {x:K} {j:Nat} {v0:Value} (hj:m[j]? =some (x,v0)) (hx:m.lookup x=some v0) (v:Value):
 iO kV (es.modify j fun e=>{e with key:=kV x,val:=v}) c (eT m x v):=by
 have C:eT m x v=m.set j (x,v):=by unfold eT; rw [hx]; simpa using L_ h.keys hj
 have hl:=(List.getElem?_eq_some_iff.1 hj).1
 have E:=h.size
 have A:j<es.size:=by omega
 have B:(es.modify j fun e=>{e with key:=kV x,val:=v}).toList=es.toList.set j {(es[j]) with key:=kV x,val:=v}:=by
  refine List.ext_getElem? fun i=>?_
  rw [Array.getElem?_toList,Array.getElem?_modify,List.getElem?_set]
  by_cases e:j=i
  ·subst e; simp [A]
  ·simp [e]
 have D:(es.toList.set j {(es[j]) with key:=kV x,val:=v}).map (·.born)=es.toList.map (·.born):=by
  rw [List.map_set]
  refine List.ext_getElem? fun i=>?_
  rw [List.getElem?_set]
  by_cases e:j=i
  ·subst e; simp [A]
  ·rw [if_neg e]
 refine ⟨?_,?_,?_,?_⟩
 ·rw [B,C,List.map_set,List.map_set,h.list]
 ·rw [C,List.map_set]
  have:(m.map (·.1)).set j x=m.map (·.1):=by
   refine List.ext_getElem? fun i=>?_
   rw [List.getElem?_set]
   by_cases e:j=i
   ·subst e; simp [hl]; simpa using (congrArg Prod.fst ((List.getElem?_eq_some_iff.1 hj).2)).symm
   ·rw [if_neg e]
  simp only [this]
  exact h.keys
 ·intro e he
  rw [B] at he
  have hb:e.born∈(es.toList.set j {(es[j]) with key:=kV x,val:=v}).map (·.born):=List.mem_map.2 ⟨e,he,rfl⟩
  rw [D] at hb
  obtain ⟨e',he',hq⟩:=List.mem_map.1 hb
  rw [← hq]; exact h.JF e' he'
 ·rw [B,D]; exact h.born
/-- m[x] = y -/
theorem jW {t kt et:TypeId} {xm xk xv:Operand} {b:Nat} {x:K} {v:Value} {m m':List (K×Value)} {C':List av} (i:Nat) (hg:jq ops L g=true) (hm:ev L xm=some (.map (some b))) (hk:ev L xk=some (kV x)) (hv:ev L xv=some v)
 (ht:E.P.underlying t=some (.map kt et)) (hkt:tW E.P kt kV) (hC:C[i]? =some (ik kV b m)) (hm':eT m x v=m') (hC':C.set i (ik kV b m')=C') (k:RJ E ops Q rest D L C'):
 RJ E ops Q (⟨none,.mapUpdate t xm xk xv,ty,ps,af,g⟩::rest) D L C:=by
 subst hm' hC'
 intro a w A hs
 unfold re
 rw [if_pos (dU A hg)]
 obtain ⟨es,c,he,hi⟩:=hs.holds _ (aU hC)
 have B:(getObj b).run E.P w= .ok (.map es c) w:=MapKept.run_getObj_map he
 rcases oD (P:=E.P) (w:=w) (x:=x) hkt hi with ⟨AA,F⟩|⟨j,N,AA,F,J⟩
 ·refine q7 (w':={w with heap:=w.heap.setIfInBounds b (.map (es.push {key:=kV x,val:=v,born:=c}) (c+1))}) sm ?_ ?_
  ·simp [execOp,A.ev hm,A.ev hk,A.ev hv,Instr.mapUpdate,run_underlying ht,B,iD hkt,AA,MapKept.run_setObj_map _ he]
  ·refine k _ _ ⟨A.defers,A.size,A.at_⟩ (hs.CU (b:=b) i hC U U (mM _) (fun _ h=>h) ⟨_,_,oY he,?_⟩)
   have:eT m x v=m++[(x,v)]:=by unfold eT; rw [F]; rfl
   rw [this]; exact hi.push F v
 ·have M:=hi.size
  have G:j<es.size:=by have:=(List.getElem?_eq_some_iff.1 F).1; omega
  have H:(es[j]).key=kV x:=by
   have:=congrArg (fun l=>l[j]?) hi.list
   simp [G,F] at this
   exact this.1
  refine q7 (w':={w with heap:=w.heap.setIfInBounds b (.map (es.modify j fun e=>{e with key:=kV x,val:=v}) c)}) sm ?_ ?_
  ·simp [execOp,A.ev hm,A.ev hk,A.ev hv,Instr.mapUpdate,run_underlying ht,B,iD hkt,AA,MapKept.run_setObj_map _ he,Instr.keyThatStays,G,H,hkt.bits x]
  ·exact k _ _ ⟨A.defers,A.size,A.at_⟩ (hs.CU (b:=b) i hC U U (mM _) (fun _ h=>h) ⟨_,_,oY he,hi.set F J v⟩)
theorem iO.del {es:Array MapEntry} {c:Nat} {m:List (K×Value)} (h:iO kV es c m) {x:K} {j:Nat} {v0:Value} (hj:m[j]? =some (x,v0)):iO kV (es.eraseIdxIfInBounds j) c (cD m x):=by
 have hl:=(List.getElem?_eq_some_iff.1 hj).1
 have D:=h.size
 have A:j<es.size:=by omega
 have B:(es.eraseIdxIfInBounds j).toList=es.toList.eraseIdx j:=by simp [Array.eraseIdxIfInBounds,A]
 have E:cD m x=m.eraseIdx j:=by
  have hn:=h.keys
  clear h D A B
  induction m generalizing j with
  |nil=>simp at hj
  |cons p m ih=>
   obtain ⟨k,v⟩:=p
   simp only [List.map_cons,List.nodup_cons] at hn
   cases j with
   |zero=>
    simp at hj
    obtain ⟨rfl,rfl⟩:=hj
    simp only [cD,List.eraseIdx_zero,List.tail_cons]
    rw [List.filter_cons_of_neg sm]
    refine List.filter_eq_self.2 fun p hp=>?_
    have:p.1≠k:=fun e=>hn.1 (List.mem_map.2 ⟨p,hp,e⟩)
    simpa using this
   |succ j=>
    simp only [List.getElem?_cons_succ] at hj
    have C:k≠x:=fun e=>hn.1 (List.mem_map.2 ⟨_,aU hj,e.symm⟩)
    simp only [cD,List.eraseIdx_cons_succ] at ih ⊢
    rw [List.filter_cons_of_pos (by simpa using C),ih hj (by simpa using (List.getElem?_eq_some_iff.1 hj).1) hn.2]
 have sub:(es.eraseIdxIfInBounds j).toList.Sublist es.toList:=by rw [B]; exact List.eraseIdx_sublist _ _
 refine ⟨?_,?_,fun e he=>h.JF e (sub.subset he),h.born.sublist (sub.map _)⟩
 ·rw [B,E,ChangeMaps.map_eraseIdx,ChangeMaps.map_eraseIdx,h.list]
 ·rw [E]; exact h.keys.sublist ((List.eraseIdx_sublist _ _).map _)
theorem DG {m:List (K×Value)} {x:K} (h:m.lookup x=none):cD m x=m:=List.filter_eq_self.2 fun p hp=>by simpa using jf.1 h p hp
/-- y, ok := m[x] -/
theorem KX {t kt et:TypeId} {xm xk:Operand} {b:Nat} {x:K} {z:Value} {m:List (K×Value)} (hg:jq ops L g=true) (hm:ev L xm=some (.map (some b))) (hk:ev L xk=some (kV x))
 (ht:E.P.underlying t=some (.map kt et)) (hkt:tW E.P kt kV) (hz:tV E.P et=some z) (hC:iU C (ik kV b m).holds):
 SD E ops ⟨dst,.lookup t xm xk true,ty,ps,af,g⟩ D L C (.tuple [(m.lookup x).getD z,.bool (m.lookup x).isSome].toArray):=
 dE hg sm fun a w A hs=>by
  obtain ⟨es,c,he,hi⟩:=hs.has hC
  have B:(getObj b).run E.P w= .ok (.map es c) w:=MapKept.run_getObj_map he
  rcases oD (P:=E.P) (w:=w) (x:=x) hkt hi with ⟨F,G⟩|⟨j,AA,F,G,H⟩
  ·simp [execOp,Instr.lookup,A.ev hm,A.ev hk,run_underlying ht,B,iD hkt,F,G,IZ hz]
  ·simp [execOp,Instr.lookup,A.ev hm,A.ev hk,run_underlying ht,B,iD hkt,F,H]
/-- m[x] -/
theorem HD {t kt et:TypeId} {xm xk:Operand} {b:Nat} {x:K} {z:Value} {m:List (K×Value)} (hg:jq ops L g=true) (hm:ev L xm=some (.map (some b))) (hk:ev L xk=some (kV x))
 (ht:E.P.underlying t=some (.map kt et)) (hkt:tW E.P kt kV) (hz:tV E.P et=some z) (hC:iU C (ik kV b m).holds):
 SD E ops ⟨dst,.lookup t xm xk false,ty,ps,af,g⟩ D L C ((m.lookup x).getD z):=
 dE hg sm fun a w A hs=>by
  obtain ⟨es,c,he,hi⟩:=hs.has hC
  have B:(getObj b).run E.P w= .ok (.map es c) w:=MapKept.run_getObj_map he
  rcases oD (P:=E.P) (w:=w) (x:=x) hkt hi with ⟨F,G⟩|⟨j,AA,F,G,H⟩
  ·simp [execOp,Instr.lookup,A.ev hm,A.ev hk,run_underlying ht,B,iD hkt,F,G,IZ hz]
  ·simp [execOp,Instr.lookup,A.ev hm,A.ev hk,run_underlying ht,B,iD hkt,F,H]
/-- len(m) -/
theorem Lc {t kt et:TypeId} {xm:Operand} {b:Nat} {m:List (K×Value)} (hg:jq ops L g=true) (hm:ev L xm=some (.map (some b))) (ht:E.P.underlying t=some (.map kt et)) (hC:iU C (ik kV b m).holds):
 SD E ops ⟨dst,.call {callee:= .builtin .len,args:= #[xm],argTypes:= #[t]},ty,ps,af,g⟩ D L C (.int .i64 (m.length:Int)):=
 dE hg sm fun a w B hs=>by
  obtain ⟨es,c,he,hi⟩:=hs.has hC
  have A:(getObj b).run E.P w= .ok (.map es c) w:=MapKept.run_getObj_map he
  simp [execOp,resolve,invoke,builtin,B.ev hm,Builtin.len_,run_underlying ht,A,hi.size,goInt]
theorem kv {β:Type} {t kt et:TypeId} {xm xk:Operand} {b:Nat} {x:K} {f:β→Value} {z:β} {l:List (K×β)} (hg:jq ops L g=true) (hm:ev L xm=some (.map (some b))) (hk:ev L xk=some (kV x))
 (ht:E.P.underlying t=some (.map kt et)) (hkt:tW E.P kt kV) (hz:tV E.P et=some (f z)) (hC:iU C (ik kV b (bT f l)).holds):
 SD E ops ⟨dst,.lookup t xm xk true,ty,ps,af,g⟩ D L C (.tuple [f ((l.lookup x).getD z),.bool (l.lookup x).isSome].toArray):=by
 have:=KX (dst:=dst) (ty:=ty) (ps:=ps) (af:=af) (D:=D) hg hm hk ht hkt hz hC
 rw [mD] at this
 have A:((l.lookup x).map f).getD (f z)=f ((l.lookup x).getD z):=by cases l.lookup x<;>rfl
 rw [A,Option.isSome_map] at this
 exact this
theorem kM {β:Type} {t kt et:TypeId} {xm xk:Operand} {b:Nat} {x:K} {f:β→Value} {z:β} {l:List (K×β)} (hg:jq ops L g=true) (hm:ev L xm=some (.map (some b))) (hk:ev L xk=some (kV x))
 (ht:E.P.underlying t=some (.map kt et)) (hkt:tW E.P kt kV) (hz:tV E.P et=some (f z)) (hC:iU C (ik kV b (bT f l)).holds):
 SD E ops ⟨dst,.lookup t xm xk false,ty,ps,af,g⟩ D L C (f ((l.lookup x).getD z)):=by
 have:=HD (dst:=dst) (ty:=ty) (ps:=ps) (af:=af) (D:=D) hg hm hk ht hkt hz hC
 rw [mD] at this
 have A:((l.lookup x).map f).getD (f z)=f ((l.lookup x).getD z):=by cases l.lookup x<;>rfl
 rw [A] at this
 exact this
theorem Ec {β:Type} {t kt et:TypeId} {xm:Operand} {b:Nat} {f:β→Value} {l:List (K×β)} (hg:jq ops L g=true) (hm:ev L xm=some (.map (some b))) (ht:E.P.underlying t=some (.map kt et)) (hC:iU C (ik kV b (bT f l)).holds):
 SD E ops ⟨dst,.call {callee:= .builtin .len,args:= #[xm],argTypes:= #[t]},ty,ps,af,g⟩ D L C (.int .i64 (l.length:Int)):=by
 have:=Lc (dst:=dst) (ty:=ty) (ps:=ps) (af:=af) (D:=D) hg hm ht hC
 rwa [G6] at this
end
theorem eW {β:Type} {x:K} {y:β} {l:List (K×β)} (h:(x,y)∈l):(cD l x).length<l.length:=by
 unfold cD
 exact List.length_filter_lt_length_iff_exists.2 ⟨_,h,sm⟩
theorem jV {β:Type} {x:K} {p:K×β} {l:List (K×β)}:p∈cD l x↔p∈l∧p.1≠x:=by simp [cD]
/-- an iterator over a map: what is left; what came last -/
def yk (kV:K→Value) (r b:Nat) (m left:List (K×Value)) (cur:Option (K×Value)):av where
 fw k:=k=r∨k=b
 wf k:=k=r∨k=b
 holds w:=r≠b∧ ∃ (es:Array MapEntry) (c since:Nat) (seen:Array Nat) (st:Nat),w.heap[b]? =some (.map es c)∧iO kV es c m∧w.heap[r]? =some (.mapIter (some b) since seen st)∧(∀ e∈es.toList,e.born<since)∧since≤st∧since≤c∧
  (leftOf es seen).toList.map (fun (e:MapEntry)=>(e.key,e.val))=left.map (fun p=>(kV p.1,p.2))∧
  ∀ p,cur=some p→ ∃ (e:MapEntry) (seen0:Array Nat),e∈es.toList∧seen=seen0.push e.born∧st=c∧e.key=kV p.1∧e.val=p.2
 wr:=true
 ki _ h:=h
 whole _ _ h:=h
 lt w h k hk:=by
  obtain ⟨_,es,c,since,seen,st,h1,_,h2,_⟩:=h
  rcases hk with rfl|rfl
  ·exact ej h2
  ·exact ej h1
 oj w w' hk h:=by
  obtain ⟨hne,es,c,since,seen,st,h1,h2,h3,h4⟩:=h
  exact ⟨hne,es,c,since,seen,st,(hk b (.inr rfl)).trans h1,h2,(hk r (.inl rfl)).trans h3,h4⟩
theorem xj {r b:Nat} {m left:List (K×Value)} {cur:Option (K×Value)}:(∀ w,(yk kV r b m left cur).holds w→(yk kV r b m left none).holds w)∧(∀ k,(yk kV r b m left none).fw k→(yk kV r b m left cur).fw k)∧ ∀ k,(yk kV r b m left none).wf k→(yk kV r b m left cur).wf k:=
 ⟨fun w h=>by
  obtain ⟨A,es,c,since,seen,st,B,C,D,E,F,h5',G,_⟩:=h
  exact ⟨A,es,c,since,seen,st,B,C,D,E,F,h5',G,fun p hp=>by cases hp⟩,fun _ h=>h,fun _ h=>h⟩
theorem Ja {r b:Nat} {m left:List (K×Value)} {cur:Option (K×Value)}:(∀ w,(yk kV r b m left cur).holds w→(ik kV b m).holds w)∧(∀ k,(ik kV b m).fw k→(yk kV r b m left cur).fw k)∧ ∀ k,(ik kV b m).wf k→(yk kV r b m left cur).wf k:=
 ⟨fun w h=>by
  obtain ⟨C,es,c,since,seen,st,A,B,_⟩:=h
  exact ⟨es,c,A,B⟩,fun _ h=> .inr h,fun _ h=> .inr h⟩
theorem Cy {es:Array MapEntry} {c:Nat} {m:List (K×Value)} (hinj: ∀ x y,kV x=kV y→x=y) (hi:iO kV es c m) {x y:MapEntry} (hx:x∈es.toList) (hy:y∈es.toList) (e:x.key=y.key):x=y:=by
 have hk:(es.toList.map (·.key))=(m.map (·.1)).map kV:=by
  have:=congrArg (List.map Prod.fst) hi.list
  simpa [Function.comp_def] using this
 have h:(es.toList.map (·.key)).Nodup:=by
  rw [hk,List.nodup_iff_pairwise_ne,List.pairwise_map]
  exact hi.keys.imp (fun B he=>B (hinj _ _ he))
 obtain ⟨i,A⟩:=List.getElem?_of_mem hx
 obtain ⟨j,hj⟩:=List.getElem?_of_mem hy
 have C:(es.toList.map (·.key))[i]? =some x.key:=by rw [fy,A]; rfl
 have D:(es.toList.map (·.key))[j]? =some x.key:=by rw [fy,hj,e]; rfl
 have E:=(List.getElem?_inj (List.getElem?_eq_some_iff.1 C).1 h).1 (C.trans D.symm)
 subst E
 exact Option.some.inj (A.symm.trans hj)
section
variable {E:fg} {ops:Array Oper} {Q:c_} {rest:List Oper} {D:List Deferred} {L:List (Nat×Value)} {C:List av}
variable {dst:Option Tmp} {d:Nat} {ty:TypeId} {ps:String} {af:Array Edge} {g:Option (Nat×Bool)}
theorem tH {t kt et:TypeId} {xm:Operand} {b:Nat} {m:List (K×Value)} (i:Nat) (hg:jq ops L g=true) (hm:ev L xm=some (.map (some b))) (ht:E.P.underlying t=some (.map kt et)) (hC:C[i]? =some (ik kV b m)) (hd:Nat.blt d E.n=true)
 (k: ∀ r,RJ E ops Q rest D ((d,.pointer (some ⟨r,0,none⟩))::L) (C.set i (yk kV r b m m none))):RJ E ops Q (⟨some d,.range t xm,ty,ps,af,g⟩::rest) D L C:=by
 intro a w A hs
 have hd':d<E.n:=by rw [← Nat.blt_eq]; exact hd
 unfold re
 rw [if_pos (dU A hg)]
 obtain ⟨es,c,he,hi⟩:=hs.holds _ (aU hC)
 have F:b<w.heap.size:=ej he
 have B:(getObj b).run E.P w= .ok (.map es c) w:=MapKept.run_getObj_map he
 refine gM (v:= .pointer (some ⟨w.heap.size,0,none⟩)) (w':=w.alloc (.mapIter (some b) c #[] c)) sm ?_ ?_
 ·simp [execOp,Instr.range,A.ev hm,run_underlying ht,B,newObj,Sem.run]
 ·refine k _ _ _ (A.put hd' _) (hs.mv i hC ⟨⟨om,es,c,c,#[],c,?_,hi,heap_alloc_new w _,hi.JF,Nat.le_refl _,Nat.le_refl _,?_,fun p hp=>by cases hp⟩,dQ.alloc _ w _,fun q hq=>?_,fun q hq=>?_⟩)
  ·rw [Below.heap_alloc w _ b F]; exact he
  ·have:leftOf es #[]=es:=by unfold leftOf; exact Array.filter_eq_self.2 sm
   rw [this]; exact hi.list
  ·rcases hq with rfl|rfl
   ·exact .inr (Nat.le_refl _)
   ·exact .inl U
  ·rcases hq with rfl|rfl
   ·exact .inr (Nat.le_refl _)
   ·exact .inl U
theorem vZ {es:Array MapEntry} {c:Nat} {m left:List (K×Value)} {seen:Array Nat} (hinj: ∀ x y,kV x=kV y→x=y) (hi:iO kV es c m) (h:(leftOf es seen).toList.map (fun (e:MapEntry)=>(e.key,e.val))=left.map (fun p=>(kV p.1,p.2))):(left.map (·.1)).Nodup:=by
 have B:((leftOf es seen).toList.map (·.key)).Sublist (es.toList.map (·.key)):=by
  unfold leftOf; rw [Array.toList_filter]; exact List.filter_sublist.map _
 have D:(es.toList.map (·.key))=(m.map (·.1)).map kV:=by
  have:=congrArg (List.map Prod.fst) hi.list
  simpa [Function.comp_def] using this
 have E:((leftOf es seen).toList.map (·.key))=(left.map (·.1)).map kV:=by
  have:=congrArg (List.map Prod.fst) h
  simpa [Function.comp_def] using this
 rw [D,E] at B
 have F:((m.map (·.1)).map kV).Nodup:=by
  rw [List.nodup_iff_pairwise_ne,List.pairwise_map]
  exact hi.keys.imp (fun A he=>A (hinj _ _ he))
 have C:=F.sublist B
 rw [List.nodup_iff_pairwise_ne,List.pairwise_map] at C
 rw [List.nodup_iff_pairwise_ne]
 exact C.imp (fun A he=>A (by rw [he]))
theorem I_ (hinj: ∀ x y,kV x=kV y→x=y) {xi:Operand} {r b:Nat} {m left:List (K×Value)} {cur:Option (K×Value)} (i:Nat) (hg:jq ops L g=true) (hm:ev L xi=some (.pointer (some ⟨r,0,none⟩))) (hC:C[i]? =some (yk kV r b m left cur)) (hd:Nat.blt d E.n=true)
 (k0:left=[]→RJ E ops Q rest D ((d,.tuple [.bool false].toArray)::L) C)
 (k1: ∀ x v,(x,v)∈left→(left.map (·.1)).Nodup→RJ E ops Q rest D ((d,.tuple [.bool true,kV x,v].toArray)::L) (C.set i (yk kV r b m (cD left x) (some (x,v))))):
 RJ E ops Q (⟨some d,.next xi false,ty,ps,af,g⟩::rest) D L C:=by
 intro a w G hs
 have hd':d<E.n:=by rw [← Nat.blt_eq]; exact hd
 unfold re
 rw [if_pos (dU G hg)]
 obtain ⟨R,es,c,since,seen,st,X,hi,Y,J,V,M,A,_⟩:=hs.holds _ (aU hC)
 rcases run_next_at (P:=E.P) w ty r b since st seen es c Y X J V with ⟨Z,hr⟩|⟨e,he,N,H,hr⟩
 ·refine gM (v:= .tuple #[.bool false]) (w':=w) sm ?_ ?_
  ·simp [execOp,G.ev hm,hr]
  ·refine k0 ?_ _ _ (G.put hd' _) hs
   have:(leftOf es seen).toList=[]:=by rw [← List.length_eq_zero_iff,Array.length_toList]; exact Z
   rw [this] at A
   exact List.map_eq_nil_iff.1 A.symm
 ·have O:(e.key,e.val)∈left.map (fun p=>(kV p.1,p.2)):=by rw [← A]; exact List.mem_map.2 ⟨e,he,rfl⟩
  obtain ⟨p,hp,S⟩:=List.mem_map.1 O
  obtain ⟨x,v⟩:=p
  simp only [Prod.mk.injEq] at S
  obtain ⟨hk,hv⟩:=S
  refine gM (v:= .tuple #[.bool true,e.key,e.val]) (w':=ChangeMaps.setBlock N r (.mapIter (some b) since (seen.push e.born) c)) sm ?_ ?_
  ·simp [execOp,G.ev hm,hr]
  ·rw [← hk,← hv]
   have AA:=vZ hinj hi A
   have F:e∈es.toList:=by unfold leftOf at he; rw [Array.toList_filter] at he; exact (List.mem_filter.1 he).1
   have f:c=c:=rfl
   have B:N.heap=w.heap:=by rcases H with rfl|rfl<;>rfl
   refine k1 x v hp AA _ _ (G.put hd' _) (hs.mv i hC ⟨⟨R,es,c,since,seen.push e.born,c,?_,hi,?_,J,M,M,?_,fun q hq=>?_⟩,?_,fun q hq=> .inl hq,fun q hq=> .inl hq⟩)
   ·show (N.heap.setIfInBounds r _)[b]? =_
    rw [Array.getElem?_setIfInBounds_ne R,B]; exact X
   ·show (N.heap.setIfInBounds r _)[r]? =_
    rw [Array.getElem?_setIfInBounds_self_of_lt (by rw [B]; exact ej Y)]
   ·have T:leftOf es (seen.push e.born)=(leftOf es seen).filter (fun z=> !(z.born==e.born)):=by
     unfold leftOf
     rw [Array.filter_filter]
     congr 1
     funext z
     simp only [Array.contains_push,Bool.not_or]
     rw [Bool.and_comm]
    rw [T,Array.toList_filter]
    have key: ∀ (l:List MapEntry) (ll:List (K×Value)),(∀ z∈l,z∈es.toList)→l.map (fun (e:MapEntry)=>(e.key,e.val))=ll.map (fun p=>(kV p.1,p.2))→
     (l.filter (fun z=> !(z.born==e.born))).map (fun (e:MapEntry)=>(e.key,e.val))=(cD ll x).map (fun p=>(kV p.1,p.2)):=by
     intro l
     induction l with
     |nil=>intro ll _ h; cases ll with
      |nil=>rfl
      |cons p ll=>simp at h
     |cons z l ih=>
      intro ll hz h
      cases ll with
      |nil=>simp at h
      |cons p ll=>
       simp only [List.map_cons,List.cons.injEq,Prod.mk.injEq] at h
       have ih':=ih ll (fun y hy=>hz y (by simp [hy])) h.2
       have AB:(z.born=e.born)↔(p.1=x):=by
        constructor
        ·intro hb
         have:z=e:=CQ hi.born (hz z sm) F hb
         rw [this] at h
         have:=h.1.1.symm.trans hk.symm
         exact hinj _ _ this
        ·intro hx
         have W:z.key=e.key:=by rw [h.1.1,hx,hk]
         rw [Cy hinj hi (hz z sm) F W]
       unfold cD at ih' ⊢
       by_cases hx:p.1=x
       ·rw [List.filter_cons_of_neg (by simp [AB.2 hx]),List.filter_cons_of_neg (by simp [hx])]; exact ih'
       ·rw [List.filter_cons_of_pos (by simpa using fun hb=>hx (AB.1 hb)),List.filter_cons_of_pos (by simpa using hx)]
        simp only [List.map_cons,h.1.1,h.1.2,ih']
    exact key _ _ (fun z hz=>by unfold leftOf at hz; rw [Array.toList_filter] at hz; exact (List.mem_filter.1 hz).1) A
   ·cases hq
    exact ⟨e,seen,F,U,U,hk.symm,hv.symm⟩
   ·refine ⟨?_,?_,?_,?_,fun q hq hn=>?_⟩
    ·rcases H with rfl|rfl<;>rfl
    ·rcases H with rfl|rfl<;>rfl
    ·rcases H with rfl|rfl<;>rfl
    ·show w.heap.size≤(N.heap.setIfInBounds r _).size
     simp [B]
    ·show (N.heap.setIfInBounds r _)[q]? =_
     rw [Array.getElem?_setIfInBounds_ne (fun e=>hn (.inl e.symm)),B]
theorem rU {xi:Operand} {r b:Nat} {m left:List (K×Value)} {x:K} {v:Value} (i:Nat) (hg:jq ops L g=true) (hm:ev L xi=some (.pointer (some ⟨r,0,none⟩))) (hC:C[i]? =some (yk kV r b m left (some (x,v)))):
 SD E ops ⟨dst,.entry xi,ty,ps,af,g⟩ D L C (.tuple [kV x,v].toArray):=
 dE hg sm fun a w F hs=>by
  obtain ⟨N,es,c,since,seen,st,J,hi,M,H,O,AA,G,B⟩:=hs.holds _ (aU hC)
  obtain ⟨e,A,he,rfl,rfl,hk,hv⟩:=B _ rfl
  have:=run_entry_at (P:=E.P) w r b since A es st e M J he hi.born
  simp [execOp,F.ev hm,this,hk,hv]
theorem rQ (hinj: ∀ x y,kV x=kV y→x=y) {β:Type} {f:β→Value} {xi:Operand} {r b:Nat} {m:List (K×Value)} {ll:List (K×β)} {cur:Option (K×Value)} (i:Nat) (hg:jq ops L g=true) (hm:ev L xi=some (.pointer (some ⟨r,0,none⟩))) (hC:C[i]? =some (yk kV r b m (bT f ll) cur)) (hd:Nat.blt d E.n=true)
 (k0:ll=[]→RJ E ops Q rest D ((d,.tuple [.bool false].toArray)::L) C)
 (k1: ∀ x y,(x,y)∈ll→(ll.map (·.1)).Nodup→RJ E ops Q rest D ((d,.tuple [.bool true,kV x,f y].toArray)::L) (C.set i (yk kV r b m (bT f (cD ll x)) (some (x,f y))))):
 RJ E ops Q (⟨some d,.next xi false,ty,ps,af,g⟩::rest) D L C:=by
 refine I_ hinj i hg hm hC hd (fun h=>k0 (List.map_eq_nil_iff.1 h)) (fun x v B hn=>?_)
 obtain ⟨p,hp,A⟩:=List.mem_map.1 B
 simp only [Prod.mk.injEq] at A
 obtain ⟨rfl,rfl⟩:=A
 have:=k1 p.1 p.2 hp (by simpa [bT,Function.comp_def] using hn)
 rwa [ly] at this
end
end
end
section
structure bR where
 Start:Int
 gf:Int
 pE:List Int
 uL:List (List (Int×aa))
 bM:Int
 cv:Int
 P7:Int
def bR.n (w:bR):Nat:=w.pE.length
def fh (s:Int):aC:=if s<0 then ⟨0,1⟩ else ⟨1,0⟩
def dk (a b:aC):aC:=⟨a.right+b.right,a.eP+b.eP⟩
def tq (w:bR) (b:Nat):List (Int×aa):=(w.uL[b]?).getD []
def ic (w:bR) (b:Nat):List (Int×aa):=(-1,⟨w.Start,w.gf⟩)::tq w b
def bU (w:bR) (b:Nat):Int:=(w.pE[b]?).getD 0
def kF (w:bR) (b:Nat) (p:aC×Int) (o:Int×aa):Option (aC×Int):=if max (p.2+bU w b) o.2.Lo≤min o.2.Hi w.gf then some (dk p.1 (fh o.1),max (p.2+bU w b) o.2.Lo) else none
def fwd (w:bR):Nat→List (aC×Int)
 |0=>[(⟨0,0⟩,w.Start)]
 |b+1=>(fwd w b).flatMap fun p=>(ic w b).filterMap (kF w b p)
def nJ (w:bR) (b:Nat) (p:aC×Int) (o:Int×aa):Option (aC×Int):=if o.2.Lo≤min p.2 o.2.Hi then some (dk p.1 (fh o.1),min p.2 o.2.Hi-bU w b) else none
def bwd (w:bR):Nat→List (aC×Int)
 |0=>[(⟨0,0⟩,w.gf)]
 |k+1=>(⟨0,0⟩,w.gf)::(bwd w k).flatMap fun p=>(ic w (w.n-(k+1))).filterMap (nJ w (w.n-(k+1)) p)
def back (w:bR) (b:Nat):List (aC×Int):=bwd w (w.n-b)
def kh (w:bR) (t:aC):Bool:=decide (t.eP≤w.bM∧w.P7-t.right≤w.cv)
theorem fM {w:bR} {b:Nat} {q:aC×Int}:q∈fwd w (b+1)↔ ∃ p∈fwd w b,∃ o∈ic w b,kF w b p o=some q:=by
 simp only [fwd,List.mem_flatMap,List.mem_filterMap]
theorem uq {w:bR} {b:Nat} (h:w.n≤b):back w b=[(⟨0,0⟩,w.gf)]:=by
 unfold back; rw [Nat.sub_eq_zero_of_le h]; rfl
theorem oS {w:bR} {b:Nat} (h:b<w.n) {q:aC×Int}:q∈back w b↔q=(⟨0,0⟩,w.gf)∨ ∃ p∈back w (b+1),∃ o∈ic w b,nJ w b p o=some q:=by
 unfold back
 have e:w.n-b=(w.n-(b+1))+1:=by omega
 rw [e]
 simp only [bwd,er,List.mem_flatMap,List.mem_filterMap]
 rw [show w.n-(w.n-(b+1)+1)=b by omega]
def sM (m c:List (aC×Int)):Prop:=(∀ t v,m.lookup t=some v→(t,v)∈c)∧ ∀ t y,(t,y)∈c→ ∃ v,m.lookup t=some v∧v≤y
def uE (m c:List (aC×Int)):Prop:=(∀ t v,m.lookup t=some v→(t,v)∈c)∧ ∀ t y,(t,y)∈c→ ∃ v,m.lookup t=some v∧y≤v
def uJ (m c:List (aC×Int)):Prop:= ∀ t v,m.lookup t=some v→(t,v)∈c
theorem mK {K β:Type} [DecidableEq K] {m:List (K×β)} {x t:K} {y:β}:(eT m x y).lookup t=if t=x then some y else m.lookup t:=by
 unfold eT
 by_cases hx:(m.lookup x).isSome
 ·rw [if_pos hx]
  have key: ∀ l:List (K×β),(l.lookup x).isSome∨True→(l.map (fun p=>if p.1=x then (x,y) else p)).lookup t=if t=x then (if (l.lookup x).isSome then some y else none) else l.lookup t:=by
   intro l _
   induction l with
   |nil=>simp
   |cons p l ih=>
    obtain ⟨k,v⟩:=p
    have ih:=ih (.inr trivial)
    by_cases hk:k=x
    ·subst hk
     by_cases ht:t=k
     ·subst ht; simp [List.lookup]
     ·have:(t==k)=false:=by simpa using ht
      simp only [List.map_cons,if_true,List.lookup,this,ih,if_neg ht]
    ·have hk':(x==k)=false:=by simpa using fun e=>hk e.symm
     by_cases ht:t=k
     ·subst ht; simp [List.lookup,hk]
     ·have A:(t==k)=false:=by simpa using ht
      simp only [List.map_cons,if_neg hk,List.lookup,A,ih,hk']
  rw [key m (.inr trivial)]
  by_cases ht:t=x
  ·subst ht
   rw [if_pos rfl,if_pos rfl,if_pos hx]
  ·rw [if_neg ht,if_neg ht]
 ·rw [if_neg hx]
  have hn:m.lookup x=none:=by cases h0:m.lookup x with
   |none=>rfl
   |some v=>exact absurd (by rw [h0]; rfl) hx
  by_cases ht:t=x
  ·subst ht
   rw [if_pos rfl]
   have:=jf.1 hn
   clear hn hx
   induction m with
   |nil=>simp
   |cons p m ih=>
    obtain ⟨k,v⟩:=p
    have hk:(t==k)=false:=by simpa using fun e=>this (k,v) sm e.symm
    simp only [List.cons_append,List.lookup,hk]
    exact ih (fun q hq=>this q (cT _ hq))
  ·rw [if_neg ht]
   clear hn hx
   induction m with
   |nil=>
    have:(t==x)=false:=by simpa using ht
    simp [List.lookup,this]
   |cons p m ih=>
    obtain ⟨k,v⟩:=p
    by_cases hk:t=k
    ·subst hk; simp [List.lookup]
    ·have:(t==k)=false:=by simpa using hk
     simp only [List.cons_append,List.lookup,this]
     exact ih
/-- what a map is after a try -/
def oV (m:List (aC×Int)) (q:aC×Int):List (aC×Int):=match m.lookup q.1 with
 |none=>eT m q.1 q.2
 |some v=>if q.2<v then eT m q.1 q.2 else m
def oF (m:List (aC×Int)) (q:aC×Int):List (aC×Int):=match m.lookup q.1 with
 |none=>eT m q.1 q.2
 |some v=>if v<q.2 then eT m q.1 q.2 else m
theorem wE {m:List (aC×Int)} {q:aC×Int} {t:aC}:(oV m q).lookup t=if t=q.1 then some (match m.lookup q.1 with |none=>q.2|some v=>min q.2 v) else m.lookup t:=by
 unfold oV
 cases h:m.lookup q.1 with
 |none=>simp only; rw [mK]
 |some v=>
  simp only
  split
  ·rename_i A
   rw [mK,Int.min_eq_left om]
  ·rename_i A
   split
   ·rename_i e; subst e; rw [h,Int.min_eq_right om]
   ·rfl
theorem vU {m:List (aC×Int)} {q:aC×Int} {t:aC}:(oF m q).lookup t=if t=q.1 then some (match m.lookup q.1 with |none=>q.2|some v=>max q.2 v) else m.lookup t:=by
 unfold oF
 cases h:m.lookup q.1 with
 |none=>simp only; rw [mK]
 |some v=>
  simp only
  split
  ·rename_i A
   rw [mK,Int.max_eq_left om]
  ·rename_i A
   split
   ·rename_i e; subst e; rw [h,Int.max_eq_right om]
   ·rfl
def vV (m m':List (aC×Int)):Prop:= ∀ t v,m.lookup t=some v→ ∃ v',m'.lookup t=some v'∧v'≤v
def wW (m m':List (aC×Int)):Prop:= ∀ t v,m.lookup t=some v→ ∃ v',m'.lookup t=some v'∧v≤v'
theorem vV.refl (m:List (aC×Int)):vV m m:=fun t v h=>⟨v,h,om⟩
theorem wW.refl (m:List (aC×Int)):wW m m:=fun t v h=>⟨v,h,om⟩
theorem uY {m:List (aC×Int)} {q:aC×Int}:vV m (oV m q):=fun t v h=>by
 rw [wE]
 split
 ·rename_i e; subst e; rw [h]; exact ⟨_,rfl,by simp only; omega⟩
 ·exact ⟨v,h,om⟩
theorem pU {m:List (aC×Int)} {q:aC×Int}:wW m (oF m q):=fun t v h=>by
 rw [vU]
 split
 ·rename_i e; subst e; rw [h]; exact ⟨_,rfl,by simp only; omega⟩
 ·exact ⟨v,h,om⟩
theorem G_ {m c:List (aC×Int)} {q:aC×Int} (h:uJ m c) (hq:q∈c):uJ (oV m q) c:=fun t v hv=>by
 rw [wE] at hv
 split at hv
 ·rename_i e
  subst e
  cases hm:m.lookup q.1 with
  |none=>simp only [hm,Option.some.injEq] at hv; subst hv; exact hq
  |some x=>
   simp only [hm,Option.some.injEq] at hv; subst hv
   rcases Int.lt_or_le q.2 x with A|A
   ·rw [Int.min_eq_left om]; exact hq
   ·rw [Int.min_eq_right om]; exact h _ _ hm
 ·exact h t v hv
theorem Gy {m c:List (aC×Int)} {q:aC×Int} (h:uJ m c) (hq:q∈c):uJ (oF m q) c:=fun t v hv=>by
 rw [vU] at hv
 split at hv
 ·rename_i e
  subst e
  cases hm:m.lookup q.1 with
  |none=>simp only [hm,Option.some.injEq] at hv; subst hv; exact hq
  |some x=>
   simp only [hm,Option.some.injEq] at hv; subst hv
   rcases Int.lt_or_le q.2 x with A|A
   ·rw [Int.max_eq_right om]; exact h _ _ hm
   ·rw [Int.max_eq_left om]; exact hq
 ·exact h t v hv
theorem Gm {m:List (aC×Int)} {q:aC×Int}: ∃ v,(oV m q).lookup q.1=some v∧v≤q.2:=by
 rw [wE,if_pos rfl]
 refine ⟨_,U,?_⟩
 cases m.lookup q.1<;>simp only <;>omega
theorem Hq {m:List (aC×Int)} {q:aC×Int}: ∃ v,(oF m q).lookup q.1=some v∧q.2≤v:=by
 rw [vU,if_pos rfl]
 refine ⟨_,U,?_⟩
 cases m.lookup q.1<;>simp only <;>omega
/-- all that comes of one entry, by some options, is held -/
def iS (w:bR) (b:Nat) (m:List (aC×Int)) (p:aC×Int) (os:List (Int×aa)):Prop:= ∀ o∈os,∀ q,kF w b p o=some q→ ∃ v,m.lookup q.1=some v∧v≤q.2
def iL (w:bR) (b:Nat) (m:List (aC×Int)) (p:aC×Int) (os:List (Int×aa)):Prop:= ∀ o∈os,∀ q,nJ w b p o=some q→ ∃ v,m.lookup q.1=some v∧q.2≤v
theorem iS.lower {w:bR} {b:Nat} {m m':List (aC×Int)} {p:aC×Int} {os:List (Int×aa)} (h:iS w b m p os) (hl:vV m m'):iS w b m' p os:=fun o ho q hq=>by
 obtain ⟨v,A,C⟩:=h o ho q hq
 obtain ⟨v',B,D⟩:=hl _ _ A
 exact ⟨v',B,om⟩
theorem iL.upper {w:bR} {b:Nat} {m m':List (aC×Int)} {p:aC×Int} {os:List (Int×aa)} (h:iL w b m p os) (hl:wW m m'):iL w b m' p os:=fun o ho q hq=>by
 obtain ⟨v,A,C⟩:=h o ho q hq
 obtain ⟨v',B,D⟩:=hl _ _ A
 exact ⟨v',B,om⟩
theorem iS.sub {w:bR} {b:Nat} {m:List (aC×Int)} {p:aC×Int} {os os':List (Int×aa)} (h:iS w b m p os) (hs: ∀ o∈os',o∈os):iS w b m p os':=fun o ho=>h o (hs o ho)
theorem iL.sub {w:bR} {b:Nat} {m:List (aC×Int)} {p:aC×Int} {os os':List (Int×aa)} (h:iL w b m p os) (hs: ∀ o∈os',o∈os):iL w b m p os':=fun o ho=>h o (hs o ho)
theorem iS.add {w:bR} {b:Nat} {m m':List (aC×Int)} {p:aC×Int} {os:List (Int×aa)} {o:Int×aa} (h:iS w b m p os) (hl:vV m m') (hn: ∀ q,kF w b p o=some q→ ∃ v,m'.lookup q.1=some v∧v≤q.2):iS w b m' p (os++[o]):=fun o' ho q hq=>by
 rcases List.mem_append.1 ho with ho|ho
 ·exact h.lower hl o' ho q hq
 ·simp only [bW] at ho; subst ho; exact hn q hq
theorem iL.add {w:bR} {b:Nat} {m m':List (aC×Int)} {p:aC×Int} {os:List (Int×aa)} {o:Int×aa} (h:iL w b m p os) (hl:wW m m') (hn: ∀ q,nJ w b p o=some q→ ∃ v,m'.lookup q.1=some v∧q.2≤v):iL w b m' p (os++[o]):=fun o' ho q hq=>by
 rcases List.mem_append.1 ho with ho|ho
 ·exact h.upper hl o' ho q hq
 ·simp only [bW] at ho; subst ho; exact hn q hq
theorem fu {m:List (aC×Int)} (hn:(m.map (·.1)).Nodup) {t:aC} {v:Int}:(t,v)∈m↔m.lookup t=some v:=jQ hn
theorem oG {z t:aC} {x v:Int}:List.lookup t [(z,x)]=some v↔t=z∧v=x:=by
 by_cases e:t=z
 ·subst e; simp [List.lookup,eq_comm]
 ·have:(t==z)=false:=by simpa using e
  simp [List.lookup,this,e]
theorem GV {w:bR}:sM [(⟨0,0⟩,w.Start)] (fwd w 0):=by
 refine ⟨fun t v h=>?_,fun t y h=>?_⟩
 ·obtain ⟨rfl,rfl⟩:=oG.1 h
  simp [fwd]
 ·simp only [fwd,bW,Prod.mk.injEq] at h
  obtain ⟨rfl,rfl⟩:=h
  exact ⟨w.Start,oG.2 ⟨U,U⟩,Int.le_refl _⟩
theorem KO {w:bR} {b:Nat} {mb m:List (aC×Int)} (hn:(mb.map (·.1)).Nodup) (h:sM mb (fwd w b)) (hs:uJ m (fwd w (b+1))) (hd: ∀ p∈mb,iS w b m p (ic w b)):sM m (fwd w (b+1)):=⟨hs,fun t y hy=>by
 obtain ⟨p,hp,o,ho,e⟩:=fM.1 hy
 obtain ⟨v,B,E⟩:=h.2 p.1 p.2 hp
 unfold kF at e
 split at e
 ·rename_i D
  simp only [Option.some.injEq,Prod.mk.injEq] at e
  obtain ⟨v',A,C⟩:=hd (p.1,v) ((fu hn).2 B) o ho (dk p.1 (fh o.1),max (v+bU w b) o.2.Lo) (by unfold kF; rw [if_pos (by simp only; omega)])
  simp only at A C
  rw [e.1] at A
  exact ⟨v',A,om⟩
 ·cases e⟩
theorem Jk {w:bR} {b:Nat} (hb:w.n≤b):uE [(⟨0,0⟩,w.gf)] (back w b):=by
 rw [uq hb]
 refine ⟨fun t v h=>?_,fun t y h=>?_⟩
 ·obtain ⟨rfl,rfl⟩:=oG.1 h
  simp
 ·simp only [bW,Prod.mk.injEq] at h
  obtain ⟨rfl,rfl⟩:=h
  exact ⟨w.gf,oG.2 ⟨U,U⟩,Int.le_refl _⟩
theorem Io {w:bR} {b:Nat} (hb:b<w.n) {mb m:List (aC×Int)} (hn:(mb.map (·.1)).Nodup) (h:uE mb (back w (b+1))) (hs:uJ m (back w b)) (h0: ∃ v,m.lookup ⟨0,0⟩=some v∧w.gf≤v) (hd: ∀ p∈mb,iL w b m p (ic w b)):uE m (back w b):=⟨hs,fun t y hy=>by
 rcases (oS hb).1 hy with e|⟨p,hp,o,ho,e⟩
 ·simp only [Prod.mk.injEq] at e
  obtain ⟨rfl,rfl⟩:=e
  exact h0
 obtain ⟨v,B,E⟩:=h.2 p.1 p.2 hp
 unfold nJ at e
 split at e
 ·rename_i D
  simp only [Option.some.injEq,Prod.mk.injEq] at e
  obtain ⟨v',A,C⟩:=hd (p.1,v) ((fu hn).2 B) o ho (dk p.1 (fh o.1),min v o.2.Hi-bU w b) (by unfold nJ; rw [if_pos (by simp only; omega)])
  simp only at A C
  rw [e.1] at A
  exact ⟨v',A,om⟩
 ·cases e⟩
end
section
def jm (w:bR) (b:Nat) (p u:aC×Int) (o:Int×aa):aa:=⟨max (p.2+bU w b) o.2.Lo,min u.2 o.2.Hi⟩
def wI (p u:aC×Int) (o:Int×aa):aC:=dk (dk p.1 u.1) (fh o.1)
def l8 (w:bR) (b:Nat) (p u:aC×Int) (o:Int×aa):Option (Int×aa):=if (jm w b p u o).Lo≤(jm w b p u o).Hi∧kh w (wI p u o)=true then some (o.1,jm w b p u o) else none
def pI (w:bR) (b:Nat) (mf mb:List (aC×Int)):List (Int×aa):=(ic w b).flatMap fun o=>mf.flatMap fun p=>mb.filterMap fun u=>l8 w b p u o
def l3 (w:bR) (b:Nat):List (Int×aa):=pI w b (fwd w b) (back w (b+1))
theorem g6 {w:bR} {b:Nat} {mf mb:List (aC×Int)} {q:Int×aa}:q∈pI w b mf mb↔ ∃ o∈ic w b,∃ p∈mf,∃ u∈mb,l8 w b p u o=some q:=by
 simp only [pI,List.mem_flatMap,List.mem_filterMap]
theorem ji {w:bR} {b:Nat} {p u:aC×Int} {o q:Int×aa}:l8 w b p u o=some q↔(jm w b p u o).Lo≤(jm w b p u o).Hi∧kh w (wI p u o)=true∧q=(o.1,jm w b p u o):=by
 unfold l8
 split
 ·rename_i h
  simp only [Option.some.injEq]
  exact ⟨fun e=>⟨h.1,h.2,e.symm⟩,fun e=>e.2.2.symm⟩
 ·rename_i h
  simp only [reduceCtorEq,false_iff]
  exact fun e=>h ⟨e.1,e.2.1⟩
theorem mL {w:bR} {b:Nat} {mf mb:List (aC×Int)} {q:Int×aa} (h:q∈pI w b mf mb):q.2.Lo≤q.2.Hi:=by
 obtain ⟨o,_,p,_,u,_,e⟩:=g6.1 h
 obtain ⟨A,_,rfl⟩:=ji.1 e
 exact A
/-- what the maps tell is what all ways tell -/
theorem MQ {w:bR} {b:Nat} {mf mb:List (aC×Int)} (hf:sM mf (fwd w b)) (hb:uE mb (back w (b+1))) (nf:(mf.map (·.1)).Nodup) (nb:(mb.map (·.1)).Nodup) {q:Int×aa} (h:q∈pI w b mf mb):q∈l3 w b:=by
 obtain ⟨o,ho,p,hp,u,hu,e⟩:=g6.1 h
 exact g6.2 ⟨o,ho,p,hf.1 _ _ ((fu nf).1 hp),u,hb.1 _ _ ((fu nb).1 hu),e⟩
theorem Ke {w:bR} {b:Nat} {mf mb:List (aC×Int)} (hf:sM mf (fwd w b)) (hb:uE mb (back w (b+1))) (nf:(mf.map (·.1)).Nodup) (nb:(mb.map (·.1)).Nodup) {q:Int×aa} (h:q∈l3 w b): ∃ q'∈pI w b mf mb,q'.1=q.1∧q'.2.Lo≤q.2.Lo∧q.2.Hi≤q'.2.Hi:=by
 obtain ⟨o,ho,p,hp,u,hu,e⟩:=g6.1 h
 obtain ⟨A,B,rfl⟩:=ji.1 e
 obtain ⟨v,hv,C⟩:=hf.2 p.1 p.2 hp
 obtain ⟨y,hy,D⟩:=hb.2 u.1 u.2 hu
 simp only [jm] at A
 refine ⟨(o.1,jm w b (p.1,v) (u.1,y) o),g6.2 ⟨o,ho,(p.1,v),(fu nf).2 hv,(u.1,y),(fu nb).2 hy,ji.2 ⟨?_,B,U⟩⟩,U,?_,?_⟩
 ·simp only [jm]; omega
 ·simp only [jm]; omega
 ·simp only [jm]; omega
def mg:aa:=⟨1,0⟩
def lY (h x:aa):aa:=if h=mg then x else ⟨min x.Lo h.Lo,max x.Hi h.Hi⟩
def uD (l:List (Int×aa)):aa:=l.foldl (fun h q=>lY h q.2) mg
structure oh (l:List (Int×aa)) (h:aa):Prop where
 le:h.Lo≤h.Hi
 lo: ∃ x∈l,x.2.Lo=h.Lo
 hi: ∃ x∈l,x.2.Hi=h.Hi
 all: ∀ x∈l,h.Lo≤x.2.Lo∧x.2.Hi≤h.Hi
def j3 (l:List (Int×aa)) (h:aa):Prop:=(l=[]∧h=mg)∨oh l h
theorem oh.ne {l:List (Int×aa)} {h:aa} (hh:oh l h):h≠mg:=fun e=>by
 have:=hh.le; rw [e] at this; simp [mg] at this
theorem Bi:j3 [] mg:= .inl ⟨rfl,rfl⟩
theorem ur {l:List (Int×aa)} {h:aa} {q:Int×aa} (hh:j3 l h) (hq:q.2.Lo≤q.2.Hi):j3 (l++[q]) (lY h q.2):=by
 right
 rcases hh with ⟨rfl,rfl⟩|hh
 ·unfold lY
  rw [if_pos rfl]
  exact ⟨hq,⟨q,sm,rfl⟩,⟨q,sm,rfl⟩,fun x hx=>by simp at hx; subst hx; exact ⟨Int.le_refl _,Int.le_refl _⟩⟩
 ·unfold lY
  rw [if_neg hh.ne]
  have A:=hh.le
  obtain ⟨a,ha,ea⟩:=hh.lo
  obtain ⟨c,hc,ec⟩:=hh.hi
  refine ⟨by simp only; omega,?_,?_,fun x hx=>?_⟩
  ·rcases Int.lt_or_le q.2.Lo h.Lo with p|p
   ·exact ⟨q,sm,by simp only; omega⟩
   ·exact ⟨a,by simp [ha],by simp only; omega⟩
  ·rcases Int.lt_or_le h.Hi q.2.Hi with p|p
   ·exact ⟨q,sm,by simp only; omega⟩
   ·exact ⟨c,by simp [hc],by simp only; omega⟩
  ·rcases List.mem_append.1 hx with hx|hx
   ·have:=hh.all x hx; simp only; omega
   ·simp at hx; subst hx; simp only; omega
theorem uz {l:List (Int×aa)} (hl: ∀ q∈l,q.2.Lo≤q.2.Hi):j3 l (uD l):=by
 have key: ∀ (r d:List (Int×aa)) (h:aa),(∀ q∈r,q.2.Lo≤q.2.Hi)→j3 d h→j3 (d++r) (r.foldl (fun h q=>lY h q.2) h):=by
  intro r
  induction r with
  |nil=>intro d h _ hd; simpa using hd
  |cons q r ih=>
   intro d h hr hd
   have:=ih (d++[q]) (lY h q.2) (fun x hx=>hr x (cT _ hx)) (ur hd (hr q sm))
   simpa using this
 have:=key l [] mg hl Bi
 rw [List.nil_append] at this
 exact this
def Es (a b:List (Int×aa)):Prop:= ∀ x∈b,∃ y∈a,y.2.Lo≤x.2.Lo∧x.2.Hi≤y.2.Hi
theorem Na {a b:List (Int×aa)} {h k:aa} (ha:j3 a h) (hb:j3 b k) (hab:Es a b) (hba:Es b a):h=k:=by
 rcases ha with ⟨rfl,rfl⟩|ha
 ·rcases hb with ⟨rfl,rfl⟩|hb
  ·rfl
  ·obtain ⟨x,hx,_⟩:=hb.lo
   obtain ⟨y,hy,_⟩:=hab x hx
   cases hy
 ·rcases hb with ⟨rfl,rfl⟩|hb
  ·obtain ⟨x,hx,_⟩:=ha.lo
   obtain ⟨y,hy,_⟩:=hba x hx
   cases hy
  ·have le: ∀ {a b:List (Int×aa)} {h k:aa},oh a h→oh b k→Es a b→h.Lo≤k.Lo∧k.Hi≤h.Hi:=fun {a b h k} ha hb hab=>by
    obtain ⟨x,hx,ex⟩:=hb.lo
    obtain ⟨z,hz,ez⟩:=hb.hi
    obtain ⟨y,hy,ey⟩:=hab x hx
    obtain ⟨y',hy',ey'⟩:=hab z hz
    have A:=ha.all y hy
    have B:=ha.all y' hy'
    omega
   have A:=le ha hb hab
   have B:=le hb ha hba
   rw [aa.ext_iff]; omega
theorem yZ {w:bR} {b:Nat} {mf mb:List (aC×Int)} {l:List (Int×aa)} {h:aa} (hf:sM mf (fwd w b)) (hb:uE mb (back w (b+1))) (nf:(mf.map (·.1)).Nodup) (nb:(mb.map (·.1)).Nodup)
 (hl: ∀ q∈l,q∈pI w b mf mb) (hl2: ∀ q∈pI w b mf mb,q∈l) (hh:j3 l h):h=uD (l3 w b):=
 Na hh (uz fun q hq=>mL hq) (fun x hx=>by
  obtain ⟨q,hq,_,A,B⟩:=Ke hf hb nf nb hx
  exact ⟨q,hl2 q hq,A,B⟩) (fun x hx=>⟨x,MQ hf hb nf nb (hl x hx),Int.le_refl _,Int.le_refl _⟩)
def jh (w:bR) (m:List (aC×Int)):Bool:=m.any fun p=>kh w p.1
theorem Cm {w:bR} {b:Nat} {m:List (aC×Int)} (h:sM m (fwd w b)) (nf:(m.map (·.1)).Nodup):jh w m=jh w (fwd w b):=by
 unfold jh
 rw [Bool.eq_iff_iff,List.any_eq_true,List.any_eq_true]
 constructor
 ·rintro ⟨p,hp,A⟩
  exact ⟨p,h.1 _ _ ((fu nf).1 hp),A⟩
 ·rintro ⟨p,hp,A⟩
  obtain ⟨v,hv,_⟩:=h.2 p.1 p.2 hp
  exact ⟨(p.1,v),(fu nf).2 hv,A⟩
def j8 (w:bR) (k:Nat):List Int:=((List.range k).filter fun i=>jh w (fwd w i)).map fun (i:Nat)=>(i:Int)
def ju (w:bR):List Int:=j8 w (w.n+1)
theorem EA {w:bR} {k:Nat} (h:jh w (fwd w k)=true):j8 w (k+1)=j8 w k++[(k:Int)]:=by simp [j8,List.range_succ,h]
theorem Hp {w:bR} {k:Nat} (h:jh w (fwd w k)=false):j8 w (k+1)=j8 w k:=by simp [j8,List.range_succ,h]
theorem xH {w:bR} {k:Nat}:(j8 w k).length≤k:=by
 unfold j8
 rw [List.length_map]
 exact Nat.le_trans (List.length_filter_le _ _) sm
end
section
open Go.RowKit
theorem GU {P:Program} {t:Nat} {k:IntKind} (hu:P.underlying t=some (.int k)) (e:Bool) (n:Nat) (v:Value) (w:World):(Instr.checkKey e (n+1) t v).run P w= .ok () w:=by
 unfold Instr.checkKey
 simp only [Sem.run_bind,run_underlying hu,Result.andThen]
 cases v<;>rfl
theorem zy {P:Program} {kt:Nat} {l:List (Nat×Nat)} (hl:fL P kt=some l) (e:Bool) (n:Nat) (cs:Array Value) (w:World)
 (hf: ∀ p∈l,(∃ v,(part p.1 cs p.2).run P w= .ok v w)∧ ∃ k,P.underlying p.1=some (.int k)):(Instr.checkKey e (n+2) kt (.agg cs)).run P w= .ok () w:=by
 unfold fL at hl
 cases hu:P.underlying kt with
 |none=>simp [hu] at hl
 |some d=>
  cases d<;>simp [hu] at hl
  rename_i fs
  obtain ⟨hn,hl⟩:=hl
  rw [show n+2=(n+1)+1 from rfl,Instr.checkKey]
  simp only [Sem.run_bind,run_underlying hu,Result.andThen_ok]
  rw [← Array.forIn_toList]
  have A: ∀ f∈fs.toList,(∃ v,(part f.type cs f.offset).run P w= .ok v w)∧ ∃ k,P.underlying f.type=some (.int k):=fun f hf'=>hf (f.type,f.offset) (by rw [← hl]; exact List.mem_map.2 ⟨f,hf',rfl⟩)
  have B: ∀ f∈fs.toList,f.name≠"_":=fun f hf'=>by
   obtain ⟨i,hi,rfl⟩:=List.getElem_of_mem hf'
   exact hn.1.1 i (by simpa using hi)
  clear hl hn hf
  generalize fs.toList=L at A B
  induction L with
  |nil=>simp
  |cons f L ih=>
   obtain ⟨⟨v,hv⟩,k,hk⟩:=A f sm
   have C:=B f sm
   simp only [List.forIn_cons,Sem.run_bind,C,ne_eq,not_false_eq_true,if_true,Result.andThen_ok,hv,GU hk,Sem.run_pure]
   exact ih (fun y hy=>A y (by simp [hy])) (fun y hy=>B y (by simp [hy]))
theorem BA {P:Program} {kt:Nat} {K:Type} [DecidableEq K] {kV:K→Value} (hw: ∀ (k:Value) (es:List MapEntry) (w:World),(Instr.findKey kt k es).run P w=(Instr.findAsking kt k es).run P w)
 (heq: ∀ x y w,(Op.equal kt (kV x) (kV y)).run P w= .ok (decide (x=y)) w) (inj: ∀ x y,kV x=kV y→x=y) (x:K) (w:World) (es:List MapEntry) (hk: ∀ e∈es,∃ k,e.key=kV k):
 ((Instr.findKey kt (kV x) es).run P w= .ok none w∧ ∀ e∈es,e.key≠kV x)∨ ∃ j e,(Instr.findKey kt (kV x) es).run P w= .ok (some (j,e.val)) w∧es[j]? =some e∧e.key=kV x:=by
 have key: ∀ (es:List MapEntry) (i:Nat),(∀ e∈es,∃ k,e.key=kV k)→((Instr.findAsking kt (kV x) es i).run P w= .ok none w∧ ∀ e∈es,e.key≠kV x)∨ ∃ j e,(Instr.findAsking kt (kV x) es i).run P w= .ok (some (i+j,e.val)) w∧es[j]? =some e∧e.key=kV x:=by
  intro es
  induction es with
  |nil=>intro i _; exact .inl ⟨by simp [Instr.findAsking],sm⟩
  |cons e es ih=>
   intro i B
   obtain ⟨k,A⟩:=B e sm
   by_cases h:x=k
   ·refine .inr ⟨0,e,?_,U,by rw [A,h]⟩
    subst h
    simp [Instr.findAsking,A,heq]
   ·rcases ih (i+1) (fun y hy=>B y (by simp [hy])) with ⟨C,D⟩|⟨j,e',C,D,E⟩
    ·refine .inl ⟨by simp [Instr.findAsking,A,heq,h,C],fun y hy=>?_⟩
     rcases List.mem_cons.1 hy with rfl|hy
     ·rw [A]; exact fun q=>h (inj _ _ q).symm
     ·exact D y hy
    ·exact .inr ⟨j+1,e',by simp [Instr.findAsking,A,heq,h,C]; omega,by simpa using D,E⟩
 rw [hw]
 rcases key es 0 hk with h|⟨j,e,C,D,E⟩
 ·exact .inl h
 ·exact .inr ⟨j,e,by simpa using C,D,E⟩
theorem DR {P:Program} {kt:Nat} {l:List (Nat×Nat)} (hl:fL P kt=some l) (k:Value) (es:List MapEntry) (w:World):(Instr.findKey kt k es).run P w=(Instr.findAsking kt k es).run P w:=by
 refine run_findKey_eq w ?_ k es
 unfold fL at hl
 cases hu:P.underlying kt with
 |none=>simp [hu] at hl
 |some d=>cases d<;>simp [hu] at hl ⊢
theorem Nn {P:Program} {kt:Nat} {K:Type} [DecidableEq K] {kV:K→Value} {l:List (Nat×Nat)} (hl:fL P kt=some l) (heq: ∀ x y w,(Op.equal kt (kV x) (kV y)).run P w= .ok (decide (x=y)) w) (inj: ∀ x y,kV x=kV y→x=y)
 (hb: ∀ x,Instr.sameBits 10000 (kV x) (kV x)=true) (hp: ∀ x w,∃ cs,kV x= .agg cs∧ ∀ p∈l,(∃ v,(part p.1 cs p.2).run P w= .ok v w)∧ ∃ k,P.underlying p.1=some (.int k)):tW P kt kV:=
 ⟨fun e x w=>by obtain ⟨cs,A,B⟩:=hp x w; rw [A]; exact zy hl e 9998 cs w B,fun x w es=>BA (DR hl) heq inj x w es,hb,inj⟩
end
section
open Go.RowKit
set_option linter.unusedSectionVars false
theorem eL {P:Program} {kt:Nat} (hk:P.underlying kt=some (.int .i64)):tW P kt (Value.int .i64):=by
 refine ⟨fun e x w=>GA hk e,fun x w es A=>?_,fun x=>by simp [Instr.sameBits],fun x y h=>by injection h⟩
 have key: ∀ (es:List MapEntry) (i:Nat),(∀ e∈es,∃ k:Int,e.key= .int .i64 k)→(Instr.findNow (.int .i64) (.int .i64 x) es i=some none∧ ∀ e∈es,e.key≠ .int .i64 x)∨ ∃ j e,Instr.findNow (.int .i64) (.int .i64 x) es i=some (some (i+j,e.val))∧es[j]? =some e∧e.key= .int .i64 x:=by
  intro es
  induction es with
  |nil=>intro i _; exact .inl ⟨rfl,sm⟩
  |cons e es ih=>
   intro i A
   obtain ⟨k,B⟩:=A e sm
   by_cases h:x=k
   ·subst h
    exact .inr ⟨0,e,by simp [Instr.findNow,Instr.sameNow,B],U,B⟩
   ·have hb:(x==k)=false:=by simpa using h
    rcases ih (i+1) (fun y hy=>A y (by simp [hy])) with ⟨C,D⟩|⟨j,e',C,D,E⟩
    ·refine .inl ⟨by simp [Instr.findNow,Instr.sameNow,B,hb,C],fun y hy=>?_⟩
     rcases List.mem_cons.1 hy with rfl|hy
     ·rw [B]; intro q; injection q with _ q; exact h q.symm
     ·exact D y hy
    ·refine .inr ⟨j+1,e',?_,by simpa using D,E⟩
     simp only [Instr.findNow,Instr.sameNow,B,hb,if_true,C]
     simp; omega
 rcases key es 0 A with ⟨C,D⟩|⟨j,e,C,D,E⟩
 ·exact .inl ⟨MapKept.run_findKey hk C,D⟩
 ·exact .inr ⟨j,e,MapKept.run_findKey hk (by simpa using C),D,E⟩
theorem St.Nk {S:BS} {w0 w w':World} {C:List av} {A N:av} (h:St S w0 C w) (i:Nat) (hA:C[i]? =some A) (k:dQ no w w') (hN:N.holds w') (hf: ∀ b,N.fw b→w.heap.size≤b∨A.fw b∧ ¬ A.wf b∧ ¬ N.wf b):St S w0 (N::C) w':=by
 have h':=h.same k
 have G:=aU hA
 have hi:=(List.getElem?_eq_some_iff.1 hA).1
 have B:C[i]=A:=(List.getElem?_eq_some_iff.1 hA).2
 refine ⟨h'.keeps,fun X hX=>?_,List.Pairwise.cons (fun X hX b hb hb'=>?_) h'.sep,fun X hX b hb=>?_,fun X hX b hb=>?_⟩
 ·rcases List.mem_cons.1 hX with rfl|hX
  ·exact hN
  ·exact h'.holds X hX
 ·rcases hf b hb with E|⟨E,AA,H⟩
  ·have:=X.lt w (h.holds X hX) b hb'; omega
  ·refine ⟨H,?_⟩
   obtain ⟨j,hj,D⟩:=List.mem_iff_getElem.1 hX
   by_cases e:j=i
   ·subst e; rw [← D,B]; exact AA
   ·rcases Nat.lt_or_gt_of_ne e with F|F
    ·have:=List.pairwise_iff_getElem.1 h.sep j i hj hi F b (by rw [D]; exact hb') (by rw [B]; exact E)
     rw [← D]; exact this.1
    ·have:=List.pairwise_iff_getElem.1 h.sep i j hi hj F b (by rw [B]; exact E) (by rw [D]; exact hb')
     rw [← D]; exact this.2
 ·rcases List.mem_cons.1 hX with rfl|hX
  ·rcases hf b (X.ki b hb) with E|⟨_,_,H⟩
   ·exact .inl (Nat.le_trans h.keeps.size E)
   ·exact absurd hb H
  ·exact h'.own X hX b hb
 ·rcases List.mem_cons.1 hX with rfl|hX
  ·rcases hf b hb with E|⟨E,_,_⟩
   ·exact .inl (Nat.le_trans h.keeps.size E)
   ·exact h.seen A G b E
  ·exact h'.seen X hX b hb
section
variable {K:Type} [DecidableEq K] {kV:K→Value}
/-- an iterator over a map that is read alone -/
def yx (kV:K→Value) (r b:Nat) (m left:List (K×Value)) (cur:Option (K×Value)):av where
 fw k:=k=r∨k=b
 wf k:=k=r
 holds w:=r≠b∧ ∃ (es:Array MapEntry) (c since:Nat) (seen:Array Nat) (st:Nat),w.heap[b]? =some (.map es c)∧iO kV es c m∧w.heap[r]? =some (.mapIter (some b) since seen st)∧(∀ e∈es.toList,e.born<since)∧since≤st∧since≤c∧
  (leftOf es seen).toList.map (fun (e:MapEntry)=>(e.key,e.val))=left.map (fun p=>(kV p.1,p.2))∧
  ∀ p,cur=some p→ ∃ (e:MapEntry) (seen0:Array Nat),e∈es.toList∧seen=seen0.push e.born∧st=c∧e.key=kV p.1∧e.val=p.2
 wr:=false
 ki _ h:= .inl h
 whole h:=by cases h
 lt w h k hk:=by
  obtain ⟨_,es,c,since,seen,st,h1,_,h2,_⟩:=h
  rcases hk with rfl|rfl
  ·exact ej h2
  ·exact ej h1
 oj w w' hk h:=by
  obtain ⟨hne,es,c,since,seen,st,h1,h2,h3,h4⟩:=h
  exact ⟨hne,es,c,since,seen,st,(hk b (.inr rfl)).trans h1,h2,(hk r (.inl rfl)).trans h3,h4⟩
theorem fz {r b:Nat} {m left:List (K×Value)} {cur:Option (K×Value)}:(∀ w,(yx kV r b m left cur).holds w→(yx kV r b m left none).holds w)∧(∀ k,(yx kV r b m left none).fw k→(yx kV r b m left cur).fw k)∧ ∀ k,(yx kV r b m left none).wf k→(yx kV r b m left cur).wf k:=
 ⟨fun w h=>by
  obtain ⟨A,es,c,since,seen,st,B,C,D,E,F,h5',G,_⟩:=h
  exact ⟨A,es,c,since,seen,st,B,C,D,E,F,h5',G,fun p hp=>by cases hp⟩,fun _ h=>h,fun _ h=>h⟩
section
variable {E:fg} {ops:Array Oper} {Q:c_} {rest:List Oper} {D:List Deferred} {L:List (Nat×Value)} {C:List av}
variable {dst:Option Tmp} {d:Nat} {ty:TypeId} {ps:String} {af:Array Edge} {g:Option (Nat×Bool)}
theorem jL {t kt et:TypeId} {xm:Operand} {b:Nat} {m:List (K×Value)} {A:av} (i:Nat) (hg:jq ops L g=true) (hm:ev L xm=some (.map (some b))) (ht:E.P.underlying t=some (.map kt et)) (hA:C[i]? =some A) (hAf:A.fw b∧ ¬ A.wf b) (hC:iU C (ik kV b m).holds) (hd:Nat.blt d E.n=true)
 (k: ∀ r,RJ E ops Q rest D ((d,.pointer (some ⟨r,0,none⟩))::L) (yx kV r b m m none::C)):RJ E ops Q (⟨some d,.range t xm,ty,ps,af,g⟩::rest) D L C:=by
 intro a w B hs
 have hd':d<E.n:=by rw [← Nat.blt_eq]; exact hd
 unfold re
 rw [if_pos (dU B hg)]
 obtain ⟨es,c,he,hi⟩:=hs.has hC
 have G:b<w.heap.size:=ej he
 have F:(getObj b).run E.P w= .ok (.map es c) w:=MapKept.run_getObj_map he
 refine gM (v:= .pointer (some ⟨w.heap.size,0,none⟩)) (w':=w.alloc (.mapIter (some b) c #[] c)) sm ?_ ?_
 ·simp [execOp,Instr.range,B.ev hm,run_underlying ht,F,newObj,Sem.run]
 ·refine k _ _ _ (B.put hd' _) (hs.Nk i hA (dQ.alloc no w _) ⟨om,es,c,c,#[],c,?_,hi,heap_alloc_new w _,hi.JF,Nat.le_refl _,Nat.le_refl _,?_,fun p hp=>by cases hp⟩ (fun q hq=>?_))
  ·rw [Below.heap_alloc w _ b G]; exact he
  ·have:leftOf es #[]=es:=by unfold leftOf; exact Array.filter_eq_self.2 sm
   rw [this]; exact hi.list
  ·rcases hq with rfl|rfl
   ·exact .inl (Nat.le_refl _)
   ·refine .inr ⟨hAf.1,hAf.2,fun (e:q=w.heap.size)=>by omega⟩
theorem Ht (hinj: ∀ x y,kV x=kV y→x=y) {xi:Operand} {r b:Nat} {m left:List (K×Value)} {cur:Option (K×Value)} (i:Nat) (hg:jq ops L g=true) (hm:ev L xi=some (.pointer (some ⟨r,0,none⟩))) (hC:C[i]? =some (yx kV r b m left cur)) (hd:Nat.blt d E.n=true)
 (k0:left=[]→RJ E ops Q rest D ((d,.tuple [.bool false].toArray)::L) C)
 (k1: ∀ x v,(x,v)∈left→(left.map (·.1)).Nodup→RJ E ops Q rest D ((d,.tuple [.bool true,kV x,v].toArray)::L) (C.set i (yx kV r b m (cD left x) (some (x,v))))):
 RJ E ops Q (⟨some d,.next xi false,ty,ps,af,g⟩::rest) D L C:=by
 intro a w G hs
 have hd':d<E.n:=by rw [← Nat.blt_eq]; exact hd
 unfold re
 rw [if_pos (dU G hg)]
 obtain ⟨R,es,c,since,seen,st,X,hi,Y,J,V,M,A,_⟩:=hs.holds _ (aU hC)
 rcases run_next_at (P:=E.P) w ty r b since st seen es c Y X J V with ⟨Z,hr⟩|⟨e,he,N,H,hr⟩
 ·refine gM (v:= .tuple #[.bool false]) (w':=w) sm ?_ ?_
  ·simp [execOp,G.ev hm,hr]
  ·refine k0 ?_ _ _ (G.put hd' _) hs
   have:(leftOf es seen).toList=[]:=by rw [← List.length_eq_zero_iff,Array.length_toList]; exact Z
   rw [this] at A
   exact List.map_eq_nil_iff.1 A.symm
 ·have O:(e.key,e.val)∈left.map (fun p=>(kV p.1,p.2)):=by rw [← A]; exact List.mem_map.2 ⟨e,he,rfl⟩
  obtain ⟨p,hp,S⟩:=List.mem_map.1 O
  obtain ⟨x,v⟩:=p
  simp only [Prod.mk.injEq] at S
  obtain ⟨hk,hv⟩:=S
  refine gM (v:= .tuple #[.bool true,e.key,e.val]) (w':=ChangeMaps.setBlock N r (.mapIter (some b) since (seen.push e.born) c)) sm ?_ ?_
  ·simp [execOp,G.ev hm,hr]
  ·rw [← hk,← hv]
   have AA:=vZ hinj hi A
   have F:e∈es.toList:=by unfold leftOf at he; rw [Array.toList_filter] at he; exact (List.mem_filter.1 he).1
   have f:c=c:=rfl
   have B:N.heap=w.heap:=by rcases H with rfl|rfl<;>rfl
   refine k1 x v hp AA _ _ (G.put hd' _) (hs.mv i hC ⟨⟨R,es,c,since,seen.push e.born,c,?_,hi,?_,J,M,M,?_,fun q hq=>?_⟩,?_,fun q hq=> .inl hq,fun q hq=> .inl hq⟩)
   ·show (N.heap.setIfInBounds r _)[b]? =_
    rw [Array.getElem?_setIfInBounds_ne R,B]; exact X
   ·show (N.heap.setIfInBounds r _)[r]? =_
    rw [Array.getElem?_setIfInBounds_self_of_lt (by rw [B]; exact ej Y)]
   ·have T:leftOf es (seen.push e.born)=(leftOf es seen).filter (fun z=> !(z.born==e.born)):=by
     unfold leftOf
     rw [Array.filter_filter]
     congr 1
     funext z
     simp only [Array.contains_push,Bool.not_or]
     rw [Bool.and_comm]
    rw [T,Array.toList_filter]
    have key: ∀ (l:List MapEntry) (ll:List (K×Value)),(∀ z∈l,z∈es.toList)→l.map (fun (e:MapEntry)=>(e.key,e.val))=ll.map (fun p=>(kV p.1,p.2))→
     (l.filter (fun z=> !(z.born==e.born))).map (fun (e:MapEntry)=>(e.key,e.val))=(cD ll x).map (fun p=>(kV p.1,p.2)):=by
     intro l
     induction l with
     |nil=>intro ll _ h; cases ll with
      |nil=>rfl
      |cons p ll=>simp at h
     |cons z l ih=>
      intro ll hz h
      cases ll with
      |nil=>simp at h
      |cons p ll=>
       simp only [List.map_cons,List.cons.injEq,Prod.mk.injEq] at h
       have ih':=ih ll (fun y hy=>hz y (by simp [hy])) h.2
       have AB:(z.born=e.born)↔(p.1=x):=by
        constructor
        ·intro hb
         have:z=e:=CQ hi.born (hz z sm) F hb
         rw [this] at h
         have:=h.1.1.symm.trans hk.symm
         exact hinj _ _ this
        ·intro hx
         have W:z.key=e.key:=by rw [h.1.1,hx,hk]
         rw [Cy hinj hi (hz z sm) F W]
       unfold cD at ih' ⊢
       by_cases hx:p.1=x
       ·rw [List.filter_cons_of_neg (by simp [AB.2 hx]),List.filter_cons_of_neg (by simp [hx])]; exact ih'
       ·rw [List.filter_cons_of_pos (by simpa using fun hb=>hx (AB.1 hb)),List.filter_cons_of_pos (by simpa using hx)]
        simp only [List.map_cons,h.1.1,h.1.2,ih']
    exact key _ _ (fun z hz=>by unfold leftOf at hz; rw [Array.toList_filter] at hz; exact (List.mem_filter.1 hz).1) A
   ·cases hq
    exact ⟨e,seen,F,U,U,hk.symm,hv.symm⟩
   ·refine ⟨?_,?_,?_,?_,fun q hq hn=>?_⟩
    ·rcases H with rfl|rfl<;>rfl
    ·rcases H with rfl|rfl<;>rfl
    ·rcases H with rfl|rfl<;>rfl
    ·show w.heap.size≤(N.heap.setIfInBounds r _).size
     simp [B]
    ·show (N.heap.setIfInBounds r _)[q]? =_
     rw [Array.getElem?_setIfInBounds_ne (fun e=>hn e.symm),B]
theorem ja {xi:Operand} {r b:Nat} {m left:List (K×Value)} {x:K} {v:Value} (i:Nat) (hg:jq ops L g=true) (hm:ev L xi=some (.pointer (some ⟨r,0,none⟩))) (hC:C[i]? =some (yx kV r b m left (some (x,v)))):
 SD E ops ⟨dst,.entry xi,ty,ps,af,g⟩ D L C (.tuple [kV x,v].toArray):=
 dE hg sm fun a w F hs=>by
  obtain ⟨N,es,c,since,seen,st,J,hi,M,H,O,AA,G,B⟩:=hs.holds _ (aU hC)
  obtain ⟨e,A,he,rfl,rfl,hk,hv⟩:=B _ rfl
  have:=run_entry_at (P:=E.P) w r b since A es st e M J he hi.born
  simp [execOp,F.ev hm,this,hk,hv]
theorem iW (hinj: ∀ x y,kV x=kV y→x=y) {β:Type} {f:β→Value} {xi:Operand} {r b:Nat} {m:List (K×Value)} {ll:List (K×β)} {cur:Option (K×Value)} (i:Nat) (hg:jq ops L g=true) (hm:ev L xi=some (.pointer (some ⟨r,0,none⟩))) (hC:C[i]? =some (yx kV r b m (bT f ll) cur)) (hd:Nat.blt d E.n=true)
 (k0:ll=[]→RJ E ops Q rest D ((d,.tuple [.bool false].toArray)::L) C)
 (k1: ∀ x y,(x,y)∈ll→(ll.map (·.1)).Nodup→RJ E ops Q rest D ((d,.tuple [.bool true,kV x,f y].toArray)::L) (C.set i (yx kV r b m (bT f (cD ll x)) (some (x,f y))))):
 RJ E ops Q (⟨some d,.next xi false,ty,ps,af,g⟩::rest) D L C:=by
 refine Ht hinj i hg hm hC hd (fun h=>k0 (List.map_eq_nil_iff.1 h)) (fun x v B hn=>?_)
 obtain ⟨p,hp,A⟩:=List.mem_map.1 B
 simp only [Prod.mk.injEq] at A
 obtain ⟨rfl,rfl⟩:=A
 have:=k1 p.1 p.2 hp (by simpa [bT,Function.comp_def] using hn)
 rwa [ly] at this
theorem yn {t kt et:TypeId} {xm xk xv:Operand} {b:Nat} {x:K} {v:Value} {m m':List (K×Value)} {C':List av} (i:Nat) (hg:jq ops L g=true) (hm:ev L xm=some (.map (some b))) (hk:ev L xk=some (kV x)) (hv:ev L xv=some v)
 (ht:E.P.underlying t=some (.map kt et)) (hkt:tW E.P kt kV) (hC:C[i]? =some (ik kV b m)) (hm':eT m x v=m') (hC':C.set i (ik kV b m')=C') (k:RJ E ops Q rest D L C'):
 RJ E ops Q (⟨none,.insert t xm xk xv,ty,ps,af,g⟩::rest) D L C:=by
 subst hm' hC'
 intro a w A hs
 unfold re
 rw [if_pos (dU A hg)]
 obtain ⟨es,c,he,hi⟩:=hs.holds _ (aU hC)
 have B:(getObj b).run E.P w= .ok (.map es c) w:=MapKept.run_getObj_map he
 rcases oD (P:=E.P) (w:=w) (x:=x) hkt hi with ⟨AA,F⟩|⟨j,N,AA,F,J⟩
 ·refine q7 (w':={w with heap:=w.heap.setIfInBounds b (.map (es.push {key:=kV x,val:=v,born:=c}) (c+1))}) sm ?_ ?_
  ·simp [execOp,A.ev hm,A.ev hk,A.ev hv,Instr.mapUpdate,run_underlying ht,B,iD hkt,AA,MapKept.run_setObj_map _ he]
  ·refine k _ _ ⟨A.defers,A.size,A.at_⟩ (hs.CU (b:=b) i hC U U (mM _) (fun _ h=>h) ⟨_,_,oY he,?_⟩)
   have:eT m x v=m++[(x,v)]:=by unfold eT; rw [F]; rfl
   rw [this]; exact hi.push F v
 ·have M:=hi.size
  have G:j<es.size:=by have:=(List.getElem?_eq_some_iff.1 F).1; omega
  have H:(es[j]).key=kV x:=by
   have:=congrArg (fun l=>l[j]?) hi.list
   simp [G,F] at this
   exact this.1
  refine q7 (w':={w with heap:=w.heap.setIfInBounds b (.map (es.modify j fun e=>{e with key:=kV x,val:=v}) c)}) sm ?_ ?_
  ·simp [execOp,A.ev hm,A.ev hk,A.ev hv,Instr.mapUpdate,run_underlying ht,B,iD hkt,AA,MapKept.run_setObj_map _ he,Instr.keyThatStays,G,H,hkt.bits x]
  ·exact k _ _ ⟨A.defers,A.size,A.at_⟩ (hs.CU (b:=b) i hC U U (mM _) (fun _ h=>h) ⟨_,_,oY he,hi.set F J v⟩)
end
end
end
section
open Go.RowKit
def Us {σ:Type} (w0:World) (P:Program) (l:Nat) (step:σ→List Value→σ→Prop) (J:σ→av→Prop) (Z:av→Prop):Prop:=
 ∀ k x k' A w,step k x k'→J k A→w0.heap.size≤w.heap.size→A.holds w→YieldAt (Fw none) 0 P l x.toArray w fun e w'=>
  (e= .returned (.bool true)∧ ∃ B,J k' B∧Mv A B w w')∨(e= .returned (.bool false)∧ ∃ B,Z B∧Mv A B w w')
def Kk {σ:Type} (J:σ→av→Prop) (Z:av→Prop) (fin:σ→Prop) (A0:av) (w0:World) (e:Ending) (w':World):Prop:=
 ∃ v,e= .returned v∧((∃ s B,fin s∧J s B∧Mv A0 B w0 w')∨ ∃ B,Z B∧Mv A0 B w0 w')
structure Ds {σ:Type} (P:Program) (f:FuncId) (fi ca:List Value) (Cp:List av) (s0:σ) (step:σ→List Value→σ→Prop) (fin:σ→Prop):Prop where
 go:rX P f=true
 run: ∀ (l:Nat) (J:σ→av→Prop) (Z:av→Prop) (A0:av) (w:World),Us w P l step J Z→J s0 A0→A0.holds w→(∀ A∈Cp,A.holds w)→(∀ A∈Cp,CX A0 A.ro)→
  Calls P f (fi++Value.func (.yield l) #[] #[]::ca).toArray w (Kk J Z fin A0 w)
theorem Kn {σ:Type} {J:σ→av→Prop} {Z:av→Prop} {n:σ} {fin:σ→Prop} {A0 B:av} {w0 w:World} {C:List av} {v:Value} (i:Nat) (hC:C[i]? =some B) (hfin:fin n) (hJ:J n B) (hF:Fo A0 w0 B) (hs:St ⟨A0.wf,fun _=>True⟩ w0 C w):Kk J Z fin A0 w0 (.returned v) w:=
 ⟨v,rfl,.inl ⟨n,B,hfin,hJ,hs.holds B (aU hC),hs.keeps,fun b hb=>(hs.own B (aU hC) b hb).symm,hF⟩⟩
theorem rn {σ:Type} {J:σ→av→Prop} {Z:av→Prop} {fin:σ→Prop} {A0 B:av} {w0 w:World} {C:List av} {v:Value} (i:Nat) (hC:C[i]? =some B) (hJ:Z B) (hF:Fo A0 w0 B) (hs:St ⟨A0.wf,fun _=>True⟩ w0 C w):Kk J Z fin A0 w0 (.returned v) w:=
 ⟨v,rfl,.inr ⟨B,hJ,hs.holds B (aU hC),hs.keeps,fun b hb=>(hs.own B (aU hC) b hb).symm,hF⟩⟩
theorem sK {σ:Type} {P:Program} {f:FuncId} {fn:Func} {c:Code} {fi ca:List Value} {Cp:List av} {s0:σ} {step:σ→List Value→σ→Prop} {fin:σ→Prop} (hgo:rX P f=true) (hf:P.funcs[f]? =some fn) (hb:fn.body=some c) (hn:Nat.ble (fi.length+ca.length+1) fn.ntmps=true)
 (h: ∀ (l:Nat) (J:σ→av→Prop) (Z:av→Prop) (A0:av) (w0:World) (Q:c_),Us w0 P l step J Z→J s0 A0→Fo A0 w0 A0→
  (∀ D L C,LJ ⟨P,none,fn.ntmps,⟨A0.wf,fun _=>True⟩,w0⟩ fn (Kk J Z fin A0 w0) D L C→KJ ⟨P,none,fn.ntmps,⟨A0.wf,fun _=>True⟩,w0⟩ (Q .ret) D L C)→
  (∀ D L C,LJ ⟨P,none,fn.ntmps,⟨A0.wf,fun _=>True⟩,w0⟩ fn (Kk J Z fin A0 w0) D L C→KJ ⟨P,none,fn.ntmps,⟨A0.wf,fun _=>True⟩,w0⟩ (Q .normal) D L C)→
  WJ ⟨P,none,fn.ntmps,⟨A0.wf,fun _=>True⟩,w0⟩ c Q [] (PZ (fi++Value.func (.yield l) #[] #[]::ca)) (A0::Cp.map av.ro)):Ds P f fi ca Cp s0 step fin:=by
 refine ⟨hgo,fun l J Z A0 w hY hJ hA F E=>?_⟩
 refine Dh hf hb (by simpa [Nat.add_assoc] using hn) (h l J Z A0 w · hY hJ (fun b hb=> .inl hb)) ?_
 have G:=su F
 refine ⟨dQ.refl _ _,fun A hA'=>?_,List.Pairwise.cons (fun B hB=>?_) G.sep,fun A hA' b hb=>?_,fun _ _ _ _=> .inr trivial⟩
 ·rcases List.mem_cons.1 hA' with rfl|hA'
  ·exact hA
  ·exact G.holds A hA'
 ·obtain ⟨B',hB',rfl⟩:=List.mem_map.1 hB
  exact E B' hB'
 ·rcases List.mem_cons.1 hA' with rfl|hA'
  ·exact .inr hb
  ·obtain ⟨B',hB',rfl⟩:=List.mem_map.1 hA'
   exact hb.elim
section
variable {E:fg} {ops:Array Oper} {Q:c_} {rest:List Oper} {D:List Deferred} {L:List (Nat×Value)} {C:List av}
variable {d:Nat} {ty:TypeId} {ps:String} {af:Array Edge} {g:Option (Nat×Bool)}
/-- a call of yield -/
theorem kf {σ:Type} {fop:Operand} {xs:Array Operand} {ts:Array TypeId} {l:Nat} {k k':σ} {vs:List Value} {step:σ→List Value→σ→Prop} {J:σ→av→Prop} {Z:av→Prop} {A0 A:av} {w1:World} (i:Nat) (hw1:w1.heap.size≤E.w0.heap.size) (hY:Us w1 E.P l step J Z) (hJ:J k A) (hF:Fo A0 w1 A) (hg:jq ops L g=true) (hf:ev L fop=some (.func (.yield l) #[] #[]))
 (hx:evs L xs.toList=some vs) (hk:step k vs k') (hC:C[i]? =some A) (hd:Nat.blt d E.n=true)
 (k1: ∀ B,J k' B→Fo A0 w1 B→RJ E ops Q rest D ((d,.bool true)::L) (C.set i B))
 (k2: ∀ B,Z B→Fo A0 w1 B→RJ E ops Q rest D ((d,.bool false)::L) (C.set i B)):
 RJ E ops Q (⟨some d,.call {callee:= .value fop,args:=xs,argTypes:=ts},ty,ps,af,g⟩::rest) D L C:=by
 intro a w F hs
 have hd':d<E.n:=by rw [← Nat.blt_eq]; exact hd
 unfold re
 rw [if_pos (dU F hg)]
 have K:xs.map a.eval=vs.toArray:=by
  have:=F.evs hx
  apply Array.ext'
  simp [this]
 obtain ⟨fn,tmps,assign,body,hy,hr⟩:=hY k vs k' A w hk hJ (Nat.le_trans hw1 hs.keeps.size) (hs.holds A (aU hC))
 have H:(execOp a.eval ⟨some d,.call {callee:= .value fop,args:=xs,argTypes:=ts},ty,ps,af,g⟩).run E.P w= .ok (.round l fn tmps assign body) w:=by
  simp [execOp,resolve,F.ev hf,Deferred.ofValue,invoke,K,hy]
 refine ⟨fun _ _=>trivial,?_⟩
 rw [Oper.semAt_eq _ _ _ sm,H]
 refine ⟨fun h=>by simp at h,?_⟩
 have G: ∀ (B:av) (w':World),Mv A B w w'→Fo A0 w1 B:=fun B w' m b hb=>by
  rcases m.fw b hb with AA|AA
  ·exact hF b AA
  ·exact .inr (Nat.le_trans hw1 (Nat.le_trans hs.keeps.size AA))
 have hr':RoundIn (Fw E.r) 0 E.P l fn tmps assign body w _:=hr
 refine hr'.mono fun e w' he=>?_
 rcases he with ⟨rfl,B,hB,m⟩|⟨rfl,B,hB,m⟩
 ·exact k1 B hB (G B w' m) _ _ (F.put hd' _) (hs.mv i hC m)
 ·exact k2 B hB (G B w' m) _ _ (F.put hd' _) (hs.mv i hC m)
end
theorem nx {σ:Type} {E:fg} {Q:c_} {D:List Deferred} {L L0:List (Nat×Value)} {C F:List av} {g:Operand} {ps:Array Tmp} {assign body:Code} {f:FuncId} {fi ca:List Value} {Cp:List av} {s0:σ} {step:σ→List Value→σ→Prop} {fin_:σ→Prop} {ι κ:Type}
 (inv:σ→ι→Prop) (Ci:σ→ι→List av) (invx:Code→κ→Prop) (Cx:Code→κ→List av) (isJ isF:List Nat) (y0:ι)
 (hr:E.r=none) (hg:ev L g=some (.func (.func f) fi.toArray ca.toArray)) (hs:Ds E.P f fi ca Cp s0 step fin_)
 (hnd:decide (isJ++isF).Nodup=true) (hJ:kd C isJ=Ci s0 y0) (hF:kd C isF=F) (h0:inv s0 y0) (hCp: ∀ A∈Cp,∃ B∈F,LV B A)
 (hps: ∀ k x k',step k x k'→x.length=ps.size) (hpn:ps.toList.all (fun t=>Nat.blt t E.n)=true) (hL:dB L L0)
 (round: ∀ (k:σ) (x:List Value) (k':σ) (y:ι) (l:Nat) (ra rb:Loop) (S:BS) (w0:World) (K:Act→World→Prop) (Qr:c_),E.w0.heap.size≤w0.heap.size→step k x k'→inv k y→
  (∀ L' C',WJ ⟨E.P,some l,E.n,S,w0⟩ body Qr [] L' (ld l (.loop rb)::C')→KJ ⟨E.P,some l,E.n,S,w0⟩ K [] L' (ld l (.loop ra)::C'))→
  (∀ y' L' C',inv k' y'→(∀ w,St S w0 C' w→St S w0 (ld l (.loop rb)::Ci k' y') w)→KJ ⟨E.P,some l,E.n,S,w0⟩ (Qr .normal) [] L' C')→
  (∀ id z L' C',invx (.exit id) z→(∀ w,St S w0 C' w→St S w0 (ld l (.loop rb)::Cx (.exit id) z) w)→KJ ⟨E.P,some l,E.n,S,w0⟩ (Qr (.exit id)) [] L' C')→
  (∀ z L' C',invx .ret z→(∀ w,St S w0 C' w→St S w0 (ld l (.loop rb)::Cx .ret z) w)→KJ ⟨E.P,some l,E.n,S,w0⟩ (Qr .ret) [] L' C')→
  WJ ⟨E.P,some l,E.n,S,w0⟩ assign (Exit.then K (fun _ _ _=>False)) [] (AY ps.toList x L0) (ld l (.loop ra)::Ci k y))
 (fin: ∀ r s y,fin_ s→inv s y→KJ E (Q .normal) (lk r::D) L0 (ld r (.deferred (some []))::(F++Ci s y)))
 (finx: ∀ r id z,invx (.exit id) z→KJ E (Q (.exit id)) (lk r::D) L0 (ld r (.deferred (some []))::(F++Cx (.exit id) z)))
 (finr: ∀ r z,invx .ret z→KJ E (Q .ret) (lk r::D) L0 (ld r (.deferred (some []))::(F++Cx .ret z))):WJ E (.rangeFunc g ps assign body) Q D L C:=by
 intro a w hf q
 refine wpIn_rangeFunc fun fn _=>?_
 show ∃ l lk w₁ d w₁' f args w₂,(Instr.enterLoop fn a.tmps ps assign body E.r).run E.P w= .ok (l,lk) w₁∧_
 rw [hr]
 obtain ⟨rec,G⟩: ∃ rec:LoopState→Option Code→Loop,rec=fun st pe=>{state:=st,pending:=pe,fn,tmps:=a.tmps,params:=ps,assign,body,defers:=w.heap.size}:=⟨_,rfl⟩
 obtain ⟨W1,R⟩: ∃ W1,(w.alloc (.deferred (some []))).alloc (.loop (rec .ready none))=W1:=⟨_,rfl⟩
 have AE:a.eval g= .func (.func f) fi.toArray ca.toArray:=hf.ev hg
 have p:(Instr.enterLoop fn a.tmps ps assign body none).run E.P w= .ok (w.heap.size+1,[lk w.heap.size]) W1:=by
  rw [← R,G]; exact run_enterLoop_outer _ _ _ _ _
 -- the state with the record and the block
 have u:St E.S E.w0 ((ld (w.heap.size+1) (.loop (rec .ready none))::Ci s0 y0)++(ld w.heap.size (.deferred (some []))::F)) W1:=by
  have X:St E.S E.w0 (Ci s0 y0++F) w:=St.kd (isJ++isF) hnd (by have X:=hJ; have j:=hF; unfold Go.Proofs.YtdllkkdchkhimaaGreatDoor.kd at X j ⊢; rw [List.filterMap_append,X,j]) q
  have hn:Nb w W1 [ld (w.heap.size+1) (.loop (rec .ready none)),ld w.heap.size (.deferred (some []))]:=by
   refine ⟨fun A hA=>?_,fun A hA b hb=>?_,?_⟩
   ·rcases List.mem_cons.1 hA with rfl|hA
    ·show W1.heap[w.heap.size+1]? =_
     rw [← R]; have:=World.alloc_heap_new (w.alloc (.deferred (some []))) (.loop (rec .ready none)); rwa [World.size_alloc] at this
    ·simp only [bW] at hA; subst hA
     show W1.heap[w.heap.size]? =_
     rw [← R]; exact (Below.heap_alloc _ _ _ sm).trans (World.alloc_heap_new w _)
   ·rcases List.mem_cons.1 hA with rfl|hA
    ·have:b=w.heap.size+1:=hb
     omega
    ·simp only [bW] at hA; subst hA
     have:b=w.heap.size:=hb
     omega
   ·refine List.Pairwise.cons (fun B hB b X j=>?_) (List.pairwise_singleton _ _)
    simp only [bW] at hB; subst hB
    have V:b=w.heap.size+1:=X
    have O:b=w.heap.size:=j
    omega
  have hk:dQ no w W1:=by rw [← R]; exact (dQ.alloc no w _).trans (dQ.alloc no _ _)
  have j:=X.grow hk hn
  refine j.perm ?_
  simp only [List.cons_append,List.nil_append]
  exact List.Perm.cons _ (List.perm_middle.symm)
 have Y:=u.tied
 obtain ⟨H,AJ⟩:=List.pairwise_cons.1 Y.sep
 have AC:=Y.holds _ (cj ..)
 let J:σ→av→Prop:=fun k A=> ∃ y,inv k y∧A=bq (ld (w.heap.size+1) (.loop (rec .ready none))::Ci k y)
 let Z:av→Prop:=fun A=> ∃ c z,(c= .ret∨ ∃ id,c= .exit id)∧invx c z∧A=bq (ld (w.heap.size+1) (.loop (rec .done (some c)))::Cx c z)
 refine ⟨w.heap.size+1,[lk w.heap.size],W1,{target:= .fn (.func f) ca.toArray,args:=fi.toArray++ #[.func (.yield (w.heap.size+1)) #[] #[]]},W1,f,
  (fi++Value.func (.yield (w.heap.size+1)) #[] #[]::ca).toArray,W1,p,?_,fun _ _=>trivial,?_,fun h=>by simp at h,?_⟩
 ·simp only [resolve,AE]
  simp [Deferred.ofValue,Act.eval]
 ·have:fi.toArray++ #[Value.func (.yield (w.heap.size+1)) #[] #[]]++ca.toArray=(fi++Value.func (.yield (w.heap.size+1)) #[] #[]::ca).toArray:=by simp
  simp [invoke,pa hs.go]
 ·refine (qj E.r (hs.run (w.heap.size+1) J Z _ W1 ?_ ⟨y0,h0,U⟩ AC ?_ ?_)).mono ?_
  ·-- a round
   rintro k x k' A W hx ⟨y,hy,rfl⟩ AD hA
   have hl:W.heap[w.heap.size+1]? =some (.loop (rec .ready none)):=hA.1 _ (cj ..)
   have AA:=run_yield (P:=E.P) (args:=x.toArray) hl (by rw [G]; simpa using hps k x k' hx)
   rw [G] at AA
   refine ⟨fn,_,assign,body,AA,roundIn_of_wpIn trivial ?_⟩
   let A:av:=bq (ld (w.heap.size+1) (.loop (rec .ready none))::Ci k y)
   have AF:Fr E.n [] (AY ps.toList x L0) {tmps:=(ps.zip x.toArray).foldl (fun tmps (t,a)=>tmps.setIfInBounds t a) a.tmps,defers:=[]}:=by
    have X:=J0 ps.toList x L0 a.tmps (fun t ht=>by have:=List.all_eq_true.1 hpn t ht; rwa [Nat.blt_eq] at this) ⟨rfl,hf.size,fun t v hv=>hf.at_ t v (hL t v hv)⟩
    rw [← Array.foldl_toList]
    simpa using X
   have o: ∀ (c:Option Code) (b:Bool),({rec .busy none with state:=if b then .ready else .done,pending:=c}:Loop)=rec (if b then .ready else .done) c:=fun c b=>by rw [G]
   have T: ∀ (c:Option Code) (N:World) (C':List av) (S:BS),St S W (ld (w.heap.size+1) (.loop (rec .busy none))::C') N→
    ∃ M,(Instr.endRound (w.heap.size+1) c).run E.P N= .ok (.bool c.isNone) M∧St S W (ld (w.heap.size+1) (.loop (rec (if c.isNone then .ready else .done) c))::C') M:=fun c N C' S H=>by
    have AI:N.heap[w.heap.size+1]? =some (.loop (rec .busy none)):=H.holds _ (cj ..)
    refine ⟨_,run_endRound c AI,?_⟩
    have:=H.CU (b:=w.heap.size+1) (A':=ld (w.heap.size+1) (.loop (rec (if c.isNone then .ready else .done) c))) 0 rfl rfl rfl (je _) (fun _ h=>h) (World.putObj_heap_same (ej AI))
    rw [o]
    exact this
   refine round k x k' y (w.heap.size+1) (rec .ready none) (rec .busy none) ⟨A.wf,A.fw⟩ W _ (roundPost E.P (w.heap.size+1) (fun e w'=>(e= .returned (.bool true)∧ ∃ B,J k' B∧Mv A B W w')∨(e= .returned (.bool false)∧ ∃ B,Z B∧Mv A B W w'))) (Nat.le_trans (Nat.le_trans q.keeps.size (by rw [← R]; simp; omega)) AD) hx hy ?_ ?_ ?_ ?_ _ _ AF (St.FF hA)
   ·intro L' C' hW a1 N i H
    have AI:N.heap[w.heap.size+1]? =some (.loop (rec .ready none)):=H.holds _ (cj ..)
    refine ⟨_,run_beginRound AI (by rw [G]),hW _ _ i ?_⟩
    have:=H.CU (b:=w.heap.size+1) (A':=ld (w.heap.size+1) (.loop (rec .busy none))) 0 rfl rfl rfl (je _) (fun _ h=>h) (World.putObj_heap_same (ej AI))
    have e:({rec .ready none with state:= .busy}:Loop)=rec .busy none:=by rw [G]
    rw [e]; exact this
   ·intro y' L' C' hy' hC' a1 N i H
    obtain ⟨M,V,O⟩:=T none N _ _ (hC' _ H)
    exact ⟨_,M,V,.inl ⟨U,_,⟨y',hy',U⟩,Mv.of O⟩⟩
   ·intro id z L' C' hz hC' a1 N i H
    obtain ⟨M,V,O⟩:=T (some (.exit id)) N _ _ (hC' _ H)
    exact ⟨_,M,V,.inr ⟨U,_,⟨_,z,.inr ⟨id,U⟩,hz,U⟩,Mv.of O⟩⟩
   ·intro z L' C' hz hC' a1 N i H
    obtain ⟨M,V,O⟩:=T (some .ret) N _ _ (hC' _ H)
    exact ⟨_,M,V,.inr ⟨U,_,⟨_,z,.inl U,hz,U⟩,Mv.of O⟩⟩
  ·intro A hA
   obtain ⟨B,hB,hc⟩:=hCp A hA
   exact hc.holds _ (Y.holds B (cT _ (cT _ hB)))
  ·intro A hA b hb hb'
   obtain ⟨B,hB,hc⟩:=hCp A hA
   exact ⟨(H B (cT _ hB) b hb (hc.fw b hb')).1,fun h=>h⟩
  ·rintro e w' ⟨v,rfl,hh⟩
   have AB:Fr E.n (lk w.heap.size::D) L0 {a with defers:=[lk w.heap.size]++a.defers}:=⟨by simp [hf.defers],hf.size,fun t v hv=>hf.at_ t v (hL t v hv)⟩
   have hleave: ∀ (st:LoopState) (c:Option Code) (C':List av),st≠ .busy→Mv (bq (ld (w.heap.size+1) (.loop (rec .ready none))::Ci s0 y0)) (bq (ld (w.heap.size+1) (.loop (rec st c))::C')) W1 w'→
    ∃ M,(Instr.endLoop (w.heap.size+1)).run E.P w'= .ok c M∧St E.S E.w0 (ld w.heap.size (.deferred (some []))::(F++C')) M:=fun st c C' AH m=>by
    have X:=(Y.mv 0 rfl m).hO
    have h1':St E.S E.w0 ((ld (w.heap.size+1) (.loop (rec st c))::C')++(ld w.heap.size (.deferred (some []))::F)) w':=X
    have AI:w'.heap[w.heap.size+1]? =some (.loop (rec st c)):=h1'.holds (ld (w.heap.size+1) (.loop (rec st c))) sm
    refine ⟨_,by have:=run_endLoop (P:=E.P) AI (by rw [G]; exact AH); rw [this,G],?_⟩
    have j:=h1'.CU (b:=w.heap.size+1) (A':=ld (w.heap.size+1) (.loop {rec st c with state:= .exhausted})) 0 rfl rfl rfl (je _) (fun _ h=>h) (World.putObj_heap_same (ej AI))
    have h3:St E.S E.w0 (C'++(ld w.heap.size (.deferred (some []))::F)) _:=j.take (List.sublist_cons_self _ _)
    rw [G] at h3
    refine h3.perm ?_
    exact (List.perm_append_comm).trans sm
   rcases hh with ⟨s,B,AG,⟨y,hy,rfl⟩,m⟩|⟨B,⟨c,z,hc,hz,rfl⟩,m⟩
   ·obtain ⟨M,V,O⟩:=hleave .ready none _ sm m
    exact ⟨none,M,V,fin w.heap.size s y AG hy _ _ AB O⟩
   ·obtain ⟨M,V,O⟩:=hleave .done (some c) _ sm m
    refine ⟨some c,M,V,?_⟩
    rcases hc with rfl|⟨id,rfl⟩
    ·exact wpIn_ret (finr w.heap.size z hz _ _ AB O)
    ·exact wpIn_exit (finx w.heap.size id z hz _ _ AB O)
end
section
open Go.RowKit
/-- where a row lies, and its capacity -/
abbrev RA:=OA×Nat
/-- what is asked of memory by all elements -/
def aS {M A:Type} (f:M→A→List av):List M→List A→List av
 |m::ms,a::asl=>f m a++aS f ms asl
 |_,_=>[]
theorem b_ {M A:Type} {f:M→A→List av}: ∀ {ms:List M} {asl:List A} {k:Nat} {m:M} {a:A} {X:av},ms[k]? =some m→asl[k]? =some a→X∈f m a→X∈aS f ms asl
 |[],_,k,m,a,X,h,_,_=>by simp at h
 |_::_,[],k,m,a,X,_,h,_=>by simp at h
 |x::ms,y::asl,0,m,a,X,h,h2,hX=>by
  simp at h h2; subst h h2
  exact List.mem_append_left _ hX
 |x::ms,y::asl,k+1,m,a,X,h,h2,hX=>List.mem_append_right _ (b_ (ms:=ms) (asl:=asl) (k:=k) (by simpa using h) (by simpa using h2) hX)
theorem jH {M A:Type} {f:M→A→List av}: ∀ {ms:List M} {asl:List A} {X:av},X∈aS f ms asl→ ∃ (k:Nat) (m:M) (a:A),ms[k]? =some m∧asl[k]? =some a∧X∈f m a
 |[],_,X,h=>by cases h
 |_::_,[],X,h=>by cases h
 |x::ms,y::asl,X,h=>by
  rcases List.mem_append.1 h with h|h
  ·exact ⟨0,x,y,U,U,h⟩
  ·obtain ⟨k,m,a,B,C,D⟩:=jH h
   exact ⟨k+1,m,a,by simpa using B,by simpa using C,D⟩
theorem jD {M A:Type} {f:M→A→List av}: ∀ {ms:List M} {asl:List A} {ns:List M} {bs:List A},ms.length=asl.length→aS f (ms++ns) (asl++bs)=aS f ms asl++aS f ns bs
 |[],[],ns,bs,_=>rfl
 |[],_::_,ns,bs,h=>by simp at h
 |_::_,[],ns,bs,h=>by simp at h
 |x::ms,y::asl,ns,bs,h=>by
  simp only [List.cons_append,aS,List.append_assoc]
  rw [jD (by simpa using h)]
theorem dT {M A β:Type} {f:M→A→β} {ms:List M} {asl:List A} {k:Nat} {m:M} {a:A} (h:ms[k]? =some m) (h2:asl[k]? =some a):(List.zipWith f ms asl)[k]? =some (f m a):=by
 rw [List.getElem?_zipWith,h,h2]
theorem dy {C L:List av} {A:av} (i:Nat) (hC:C[i]? =some (e9 L).ro) (hm:A∈L):iU C A.holds:=fun w hw=>hw _ (aU hC) A hm
theorem dR {M A:Type} {f g:M→A→List av} {ms:List M} {asl:List A} {C:List av} (i:Nat) (hC:C[i]? =some (bq (aS g ms asl))) (h: ∀ m a w,(∀ X∈g m a,X.holds w)→ ∀ X∈f m a,X.holds w):iU C (e9 (aS f ms asl)).holds:=fun w hw X hX=>by
 have hb:=hw _ (aU hC)
 obtain ⟨k,m,a,B,D,E⟩:=jH hX
 exact h m a w (fun Y hY=>hb.1 Y (b_ B D hY)) X E
/-- a row that is part of another one -/
theorem Mu {C:List av} {A:OA} {n k sz:Nat} {es:List (List Value)} (hR:iU C (rd A n sz es).holds) (hk:k≤n):iU C (rd A k sz (es.take k)).holds:=fun w hw=>by
 obtain ⟨D,E,F⟩:=hR w hw
 refine ⟨by rw [List.length_take,D]; omega,fun x hx=>E x (List.mem_of_mem_take hx),fun hp=>?_⟩
 have G:0<k:=Nat.pos_of_mul_pos_right hp
 have hs:0<sz:=Nat.pos_of_mul_pos_left hp
 obtain ⟨ad,hA,B⟩:=F (Nat.mul_pos om hs)
 refine ⟨ad,hA,fun i e j v he hv=>B i e j v ?_ hv⟩
 rw [List.getElem?_take] at he
 split at he
 ·exact he
 ·cases he
section
variable {E:fg} {ops:Array Oper} {Q:c_} {rest:List Oper} {D:List Deferred} {L:List (Nat×Value)} {C:List av}
variable {d:Nat} {ty:TypeId} {ps:String} {af:Array Edge} {g:Option (Nat×Bool)}
/-- an element of a slice that is the head of a row -/
theorem QQ (k:Nat) {x ix:Operand} {A:OA} {n n' c sz e t:Nat} {es:List (List Value)} {j:Int} (h:bF E.n ops L d g x ix=some (.slice A n' c,.int .i64 j)) (hR:iU C (rd A n sz es).holds)
 (ht:tE E.P t=some (e,sz)) (hz:0<sz) (hj:j=(k:Int)) (hk:k<n') (hn:n'≤n):SE E ops ⟨some d,.indexAddr t x ix,ty,ps,af,g⟩ D L C (.pointer (lG A (k*sz))) d:=IA k h (Mu hR hn) ht hz hj hk
end
theorem St.tie {S:BS} {w0 w:World} {C:List av} {A:av} {L L':List av} (h:St S w0 (A::bq L::C) w) (e:L++[A]=L'):St S w0 (bq L'::C) w:=by
 subst e
 have B:St S w0 (bq L::A::C) w:=h.perm (List.Perm.swap _ _ _)
 have D:St S w0 (L++(A::C)) w:=B.hO
 have E:St S w0 ((L++[A])++C) w:=by simpa using D
 exact E.tied
theorem St.O_ {S:BS} {w0 w:World} {C:List av} (h:St S w0 C w):St S w0 (bq []::C) w:=St.tied (C1:=[]) h
section
variable {E:fg} {Q:c_} {D:List Deferred} {L:List (Nat×Value)} {C:List av}
theorem oa {c:Code} (h:WJ E c Q D L (bq []::C)):WJ E c Q D L C:=fun a w hf hs=>h a w hf hs.O_
theorem xe {ops:Array Oper} {rest:List Oper} (h:RJ E ops Q rest D L (bq []::C)):RJ E ops Q rest D L C:=fun a w hf hs=>h a w hf hs.O_
theorem Cu {K:Act→World→Prop} {C1:List av} {A:av} {X X':List av} (i j:Nat) (hn:decide (j::i::(List.range C.length).filter fun k=>k != i&&k != j).Nodup=true) (hC:kd C (j::i::(List.range C.length).filter fun k=>k != i&&k != j)=A::bq X::C1) (e:X++[A]=X')
 (h:KJ E K D L (bq X'::C1)):KJ E K D L C:=fun a w hf hs=>h a w hf ((St.kd _ hn hC hs).tie e)
theorem OD {ops:Array Oper} {rest:List Oper} {C1:List av} {A:av} {X X':List av} (i j:Nat) (hn:decide (j::i::(List.range C.length).filter fun k=>k != i&&k != j).Nodup=true) (hC:kd C (j::i::(List.range C.length).filter fun k=>k != i&&k != j)=A::bq X::C1) (e:X++[A]=X')
 (h:RJ E ops Q rest D L (bq X'::C1)):RJ E ops Q rest D L C:=fun a w hf hs=>h a w hf ((St.kd _ hn hC hs).tie e)
end
end
section
open Go.RowKit
abbrev dV:aa→Value:=fun s=>vA (aa.cells s)
abbrev ei:aC→Value:=fun s=>vA (aC.cells s)
abbrev TM:=List (Int×aa)
abbrev FM:=List (aC×Int)
def gD {α:Type} (m:α) (b:Nat):List Value:=[Value.map (some b)]
def q8 (m:TM) (b:Nat):List av:=[ik iV b (bT dV m)]
def nG (m:FM) (b:Nat):List av:=[ik ei b (bT iV m)]
theorem xI {M A:Type} {f:M→A→List av}: ∀ (m:M) (a:A) (w:World),(∀ X∈f m a,X.holds w)→ ∀ X∈f m a,X.holds w:=fun _ _ _ h=>h
/-- untied -/
theorem NC {E:fg} {ops:Array Oper} {Q:c_} {rest:List Oper} {D:List Deferred} {L:List (Nat×Value)} {C X C1:List av} (i:Nat) (hn:decide (i::(List.range C.length).filter fun k=>k != i).Nodup=true) (hC:kd C (i::(List.range C.length).filter fun k=>k != i)=bq X::C1)
 (h:RJ E ops Q rest D L (X++C1)):RJ E ops Q rest D L C:=fun a w hf hs=>h a w hf (St.hO (St.kd _ hn hC hs))
end
section
def cN (ln:bJ) (rd:eG) (e:List Int) (tms:List TM):bR:=⟨rd.Start,rd.gf,e,tms,ln.bM,ln.cv,(rd.ak.n:Int)⟩
def On (o:Int×aa):List Value:=[.int .i64 o.1,.agg (aa.cells o.2).toArray]
structure Hm (w:bR):Prop where
 n:w.n≤6
 times:w.uL.length=w.n
 now:0≤w.Start∧w.Start≤w.gf∧w.gf≤86400000
 least: ∀ x∈w.pE,1≤x∧x≤500000000
 FI: ∀ t∈w.uL,∀ p∈t,(0≤p.1∧p.1≤10)∧0≤p.2.Lo∧p.2.Lo≤p.2.Hi∧p.2.Hi≤86400000
theorem Hm.opt {w:bR} (h:Hm w) {b:Nat} {o:Int×aa} (ho:o∈ic w b):(-1≤o.1∧o.1≤10)∧0≤o.2.Lo∧o.2.Lo≤o.2.Hi∧o.2.Hi≤86400000:=by
 unfold ic tq at ho
 rcases List.mem_cons.1 ho with rfl|ho
 ·have:=h.now; simp only; omega
 ·cases ht:w.uL[b]? with
  |none=>simp [ht] at ho
  |some t=>
   rw [ht] at ho
   have:=h.FI t (aU ht) o ho
   omega
theorem Hm.bU {w:bR} (h:Hm w) (b:Nat):0≤bU w b∧bU w b≤500000000:=by
 unfold Go.Proofs.YtdllkkdchkhimaaGreatDoor.bU
 cases ht:w.pE[b]? with
 |none=>simp
 |some x=>have:=h.least x (aU ht); simp only [Option.getD_some]; omega
theorem ub (s:Int):(0≤(fh s).right∧0≤(fh s).eP)∧(fh s).right+(fh s).eP=1:=by unfold fh; split<;>simp
theorem JG {w:bR} (h:Hm w): ∀ (b:Nat) p,p∈fwd w b→(0≤p.2∧p.2≤86400000)∧(0≤p.1.right∧0≤p.1.eP)∧p.1.right+p.1.eP=(b:Int):=by
 intro b
 induction b with
 |zero=>
  intro p hp
  simp only [fwd,bW] at hp
  subst hp
  have:=h.now; simp only; omega
 |succ b ih=>
  intro q hq
  obtain ⟨p,hp,o,ho,e⟩:=fM.1 hq
  have A:=ih p hp
  have B:=h.opt ho
  have C:=h.bU b
  have D:=h.now
  have E:=ub o.1
  unfold kF at e
  split at e
  ·simp only [Option.some.injEq] at e
   subst e
   simp only [dk]
   omega
  ·cases e
theorem Sv {w:bR} (h:Hm w): ∀ (k:Nat) p,p∈bwd w k→(-(500000000*(k:Int))≤p.2∧p.2≤86400000)∧(0≤p.1.right∧0≤p.1.eP)∧p.1.right+p.1.eP≤(k:Int):=by
 intro k
 induction k with
 |zero=>
  intro p hp
  simp only [bwd,bW] at hp
  subst hp
  have:=h.now; simp only; omega
 |succ k ih=>
  intro q hq
  simp only [bwd,er,List.mem_flatMap,List.mem_filterMap] at hq
  rcases hq with rfl|⟨p,hp,o,ho,e⟩
  ·have:=h.now; simp only; omega
  ·have A:=ih p hp
   have B:=h.opt ho
   have C:=h.bU (w.n-(k+1))
   have D:=h.now
   have E:=ub o.1
   unfold nJ at e
   split at e
   ·simp only [Option.some.injEq] at e
    subst e
    simp only [dk]
    omega
   ·cases e
theorem JZ {w:bR} (h:Hm w) {b:Nat} {p:aC×Int} (hp:p∈back w b):(-3000000000≤p.2∧p.2≤86400000)∧(0≤p.1.right∧0≤p.1.eP)∧p.1.right+p.1.eP≤6:=by
 have:=Sv h _ _ hp
 have:=h.n
 omega
theorem wU {w:bR} {b:Nat} {t:TM} (ht:w.uL[b]? =some t) {o:Int×aa}:o∈ic w b↔o=(-1,⟨w.Start,w.gf⟩)∨o∈t:=by
 unfold ic tq; rw [ht]; simp
theorem lH {K β:Type} [DecidableEq K] {l:List (K×β)} {x:K} {y:β} (hn:(l.map (·.1)).Nodup) (hm:(x,y)∈l) {o:K×β} (h:o∈l):o∈cD l x∨o=(x,y):=by
 by_cases e:o.1=x
 ·right
  obtain ⟨k,v⟩:=o
  simp only at e
  subst e
  have B:=(jQ hn).1 h
  have A:=(jQ hn).1 hm
  rw [B] at A
  cases A; rfl
 ·exact .inl (jV.2 ⟨h,e⟩)
theorem Hy {K β:Type} [DecidableEq K] {t l ys:List (K×β)} {x:K} {y:β} (hn:(l.map (·.1)).Nodup) (hm:(x,y)∈l) (h: ∀ o∈t,o∈l∨o∈ys): ∀ o∈t,o∈cD l x∨o∈ys++[(x,y)]:=fun o ho=>by
 rcases h o ho with h|h
 ·rcases lH hn hm h with h|h
  ·exact .inl h
  ·exact .inr (by simp [h])
 ·exact .inr (by simp [h])
theorem mj {K β:Type} [DecidableEq K] {t l:List (K×β)} {x:K} (h: ∀ o∈l,o∈t): ∀ o∈cD l x,o∈t:=fun o ho=>h o (jV.1 ho).1
theorem Lu {w:bR} {m left:List (aC×Int)} (h: ∀ p∈m,p∈left∨kh w p.1=false) (h0:left=[]):jh w m=false:=by
 unfold jh
 rw [List.any_eq_false]
 intro p hp
 rcases h p hp with q|q
 ·rw [h0] at q; cases q
 ·simp [q]
theorem MH {w:bR} {m:List (aC×Int)} {p:aC×Int} (hp:p∈m) (h:kh w p.1=true):jh w m=true:=List.any_eq_true.2 ⟨p,hp,h⟩
theorem H5 {w:bR} {m left:List (aC×Int)} {t:aC} {v:Int} (hn:(left.map (·.1)).Nodup) (hm:(t,v)∈left) (h: ∀ p∈m,p∈left∨kh w p.1=false) (hf:kh w t=false): ∀ p∈m,p∈cD left t∨kh w p.1=false:=fun p hp=>by
 rcases h p hp with q|q
 ·rcases lH hn hm q with q|q
  ·exact .inl q
  ·right; rw [q]; exact hf
 ·exact .inr q
/-- what the maps of a watch are -/
structure vR (w:bR) (fs:List (List (aC×Int))):Prop where
 len:fs.length=w.n+1
 min: ∀ (b:Nat) m,fs[b]? =some m→sM m (fwd w b)
 keys: ∀ (b:Nat) m,fs[b]? =some m→(m.map (·.1)).Nodup
structure uc (w:bR) (bs:List (List (aC×Int))):Prop where
 len:bs.length=w.n+1
 max: ∀ (b:Nat) m,bs[b]? =some m→uE m (back w b)
 keys: ∀ (b:Nat) m,bs[b]? =some m→(m.map (·.1)).Nodup
theorem vR.mem {w:bR} {fs:List (List (aC×Int))} (h:vR w fs) {b:Nat} {m:List (aC×Int)} (hm:fs[b]? =some m) {p:aC×Int} (hp:p∈m):p∈fwd w b:=(h.min b m hm).1 _ _ ((fu (h.keys b m hm)).1 hp)
theorem uc.mem {w:bR} {fs:List (List (aC×Int))} (h:uc w fs) {b:Nat} {m:List (aC×Int)} (hm:fs[b]? =some m) {p:aC×Int} (hp:p∈m):p∈back w b:=(h.max b m hm).1 _ _ ((fu (h.keys b m hm)).1 hp)
theorem G1 {w:bR} {b:Nat} {t l ys:List (Int×aa)} (ht:w.uL[b]? =some t) (h: ∀ o∈t,o∈l∨o∈ys) (h0:l=[]) (hs:(-1,(⟨w.Start,w.gf⟩:aa))∈ys): ∀ o∈ic w b,o∈ys:=fun o ho=>by
 rcases (wU ht).1 ho with rfl|ho
 ·exact hs
 ·rcases h o ho with q|q
  ·rw [h0] at q; cases q
  ·exact q
end
section
/-- by these options all is yielded -/
def lp (w:bR) (b:Nat) (mf mb:List (aC×Int)) (os ys:List (Int×aa)):Prop:= ∀ o∈os,∀ p∈mf,∀ u∈mb,∀ q,l8 w b p u o=some q→q∈ys
def nj (w:bR) (b:Nat) (mf mb:List (aC×Int)) (o:Int×aa) (left:List (aC×Int)) (ys:List (Int×aa)):Prop:= ∀ p∈mf,p∈left∨ ∀ u∈mb,∀ q,l8 w b p u o=some q→q∈ys
def mX (w:bR) (b:Nat) (mb:List (aC×Int)) (o:Int×aa) (p:aC×Int) (left:List (aC×Int)) (ys:List (Int×aa)):Prop:= ∀ u∈mb,u∈left∨ ∀ q,l8 w b p u o=some q→q∈ys
variable {w:bR} {b:Nat} {mf mb left:List (aC×Int)} {o x:Int×aa} {os ys:List (Int×aa)} {p u:aC×Int}
theorem lp.nil:lp w b mf mb [] ys:=fun o ho=>by cases ho
theorem lp.app (h:lp w b mf mb os ys):lp w b mf mb os (ys++[x]):=fun o ho p hp u hu q e=>List.mem_append_left _ (h o ho p hp u hu q e)
theorem nj.app (h:nj w b mf mb o left ys):nj w b mf mb o left (ys++[x]):=fun p hp=>(h p hp).imp id fun h u hu q e=>List.mem_append_left _ (h u hu q e)
theorem nj.start:nj w b mf mb o mf ys:=fun p hp=> .inl hp
theorem mX.start:mX w b mb o p mb ys:=fun p hp=> .inl hp
theorem mX.skip {t:aC} {v:Int} (hn:(left.map (·.1)).Nodup) (hm:(t,v)∈left) (h:mX w b mb o p left ys) (he:l8 w b p (t,v) o=none):mX w b mb o p (cD left t) ys:=fun u hu=>by
 rcases h u hu with q|q
 ·rcases lH hn hm q with q|q
  ·exact .inl q
  ·right; intro z hz; rw [q,he] at hz; cases hz
 ·exact .inr q
theorem mX.T3 {t:aC} {v:Int} (hn:(left.map (·.1)).Nodup) (hm:(t,v)∈left) (h:mX w b mb o p left ys) (he:l8 w b p (t,v) o=some x):mX w b mb o p (cD left t) (ys++[x]):=fun u hu=>by
 rcases h u hu with q|q
 ·rcases lH hn hm q with q|q
  ·exact .inl q
  ·right; intro z hz; rw [q,he] at hz; cases hz; simp
 ·right; intro z hz; exact List.mem_append_left _ (q z hz)
theorem nj.next {t:aC} {v:Int} {l2:List (aC×Int)} (hn:(left.map (·.1)).Nodup) (hm:(t,v)∈left) (h:nj w b mf mb o left ys) (hq:mX w b mb o (t,v) l2 ys) (h0:l2=[]):nj w b mf mb o (cD left t) ys:=fun p hp=>by
 rcases h p hp with q|q
 ·rcases lH hn hm q with q|q
  ·exact .inl q
  ·right; intro u hu z hz; subst q
   rcases hq u hu with q|q
   ·rw [h0] at q; cases q
   ·exact q z hz
 ·exact .inr q
theorem lp.next (h:lp w b mf mb os ys) (hp:nj w b mf mb o left ys) (h0:left=[]):lp w b mf mb (os++[o]) ys:=fun o' ho p hp' u hu q e=>by
 rcases List.mem_append.1 ho with ho|ho
 ·exact h o' ho p hp' u hu q e
 ·simp only [bW] at ho; subst ho
  rcases hp p hp' with z|z
  ·rw [h0] at z; cases z
  ·exact z u hu q e
theorem lp.fin (h:lp w b mf mb os ys) (ho: ∀ o∈ic w b,o∈os): ∀ q∈pI w b mf mb,q∈ys:=fun q hq=>by
 obtain ⟨o,A,p,B,u,C,e⟩:=g6.1 hq
 exact h o (ho o A) p B u C q e
theorem GK (h:max (p.2+bU w b) o.2.Lo≤min u.2 o.2.Hi) (h2:kh w (dk (dk p.1 u.1) (fh o.1))=true):l8 w b p u o=some (o.1,⟨max (p.2+bU w b) o.2.Lo,min u.2 o.2.Hi⟩):=by
 unfold l8 jm wI; rw [if_pos ⟨h,h2⟩]
theorem JW (h: ¬ max (p.2+bU w b) o.2.Lo≤min u.2 o.2.Hi):l8 w b p u o=none:=by
 unfold l8 jm; rw [if_neg (fun q=>h q.1)]
theorem GI (h2:kh w (dk (dk p.1 u.1) (fh o.1))=false):l8 w b p u o=none:=by
 unfold l8 wI; rw [if_neg (fun q=>by rw [h2] at q; exact absurd q.2 dc)]
theorem m7 {v:Int} (h:w.pE[b]? =some v):bU w b=v:=by unfold bU; rw [h]; rfl
theorem Ce {t q:aC} {v z y:Int} (hy:w.pE[b]? =some y) (h:max (v+y) o.2.Lo≤min z o.2.Hi) (h2:kh w (dk (dk t q) (fh o.1))=true):l8 w b (t,v) (q,z) o=some (o.1,⟨max (v+y) o.2.Lo,min z o.2.Hi⟩):=by
 have e:=m7 hy
 subst e
 exact GK h h2
theorem GQ {t q:aC} {v z y:Int} (hy:w.pE[b]? =some y) (h: ¬ max (v+y) o.2.Lo≤min z o.2.Hi):l8 w b (t,v) (q,z) o=none:=by
 have e:=m7 hy
 subst e
 exact JW h
theorem nP {m:List (aC×Int)} {k:aC} {y:Int} (h:(m.map (·.1)).Nodup):((eT m k y).map (·.1)).Nodup:=by
 unfold eT
 by_cases hx:(m.lookup k).isSome
 ·rw [if_pos hx,List.map_map]
  have e:m.map ((fun p=>p.1)∘fun p=>if p.1=k then (k,y) else p)=m.map (·.1):=by
   apply List.map_congr_left
   intro p _
   simp only [Function.comp]
   split
   ·rename_i e; exact e.symm
   ·rfl
  rw [e]; exact h
 ·rw [if_neg hx,List.map_append,List.nodup_append]
  refine ⟨h,sm,?_⟩
  intro a ha c hc
  simp only [List.map_cons,List.map_nil,bW] at hc
  rw [hc]
  obtain ⟨p,hp,rfl⟩:=List.mem_map.1 ha
  have hn:m.lookup k=none:=by cases h0:m.lookup k with
   |none=>rfl
   |some v=>exact absurd (by rw [h0]; rfl) hx
  exact jf.1 hn p hp
theorem Br {m:List (aC×Int)} {q:aC×Int} (h:(m.map (·.1)).Nodup):((oV m q).map (·.1)).Nodup:=by
 unfold oV; split
 ·exact nP h
 ·split
  ·exact nP h
  ·exact h
theorem Bs {m:List (aC×Int)} {q:aC×Int} (h:(m.map (·.1)).Nodup):((oF m q).map (·.1)).Nodup:=by
 unfold oF; split
 ·exact nP h
 ·split
  ·exact nP h
  ·exact h
/-- a map of the first times, on its way -/
structure wo (w:bR) (b:Nat) (m:List (aC×Int)):Prop where
 snd:uJ m (fwd w (b+1))
 keys:(m.map (·.1)).Nodup
structure vc (w:bR) (b:Nat) (m:List (aC×Int)):Prop where
 snd:uJ m (back w b)
 keys:(m.map (·.1)).Nodup
 zero: ∃ v,m.lookup ⟨0,0⟩=some v∧w.gf≤v
theorem IG (h:max (p.2+bU w b) o.2.Lo≤min o.2.Hi w.gf):kF w b p o=some (dk p.1 (fh o.1),max (p.2+bU w b) o.2.Lo):=by unfold kF; rw [if_pos h]
theorem Mh (h: ¬ max (p.2+bU w b) o.2.Lo≤min o.2.Hi w.gf):kF w b p o=none:=by unfold kF; rw [if_neg h]
theorem K2 (h:o.2.Lo≤min p.2 o.2.Hi):nJ w b p o=some (dk p.1 (fh o.1),min p.2 o.2.Hi-bU w b):=by unfold nJ; rw [if_pos h]
theorem MF (h: ¬ o.2.Lo≤min p.2 o.2.Hi):nJ w b p o=none:=by unfold nJ; rw [if_neg h]
theorem wo.start:wo w b []:=⟨fun t v h=>by simp at h,List.nodup_nil⟩
theorem wo.add {m:List (aC×Int)} {q:aC×Int} (h:wo w b m) (hp:p∈fwd w b) (ho:o∈ic w b) (he:kF w b p o=some q):wo w b (oV m q):=⟨G_ h.snd (fM.2 ⟨p,hp,o,ho,he⟩),Br h.keys⟩
theorem vc.start (hb:b<w.n):vc w b [(⟨0,0⟩,w.gf)]:=⟨fun t v h=>by
 obtain ⟨rfl,rfl⟩:=oG.1 h
 exact (oS hb).2 (.inl U),sm,w.gf,oG.2 ⟨U,U⟩,Int.le_refl _⟩
theorem vc.add {m:List (aC×Int)} {q:aC×Int} (hb:b<w.n) (h:vc w b m) (hp:p∈back w (b+1)) (ho:o∈ic w b) (he:nJ w b p o=some q):vc w b (oF m q):=⟨Gy h.snd ((oS hb).2 (.inr ⟨p,hp,o,ho,he⟩)),Bs h.keys,by
 obtain ⟨v,A,C⟩:=h.zero
 obtain ⟨v',B,D⟩:=pU (q:=q) _ _ A
 exact ⟨v',B,om⟩⟩
theorem iS.none_ {m:List (aC×Int)} (h:iS w b m p os) (he:kF w b p o=none):iS w b m p (os++[o]):=h.add (vV.refl _) fun q hq=>by rw [he] at hq; cases hq
theorem iS.Jg {m:List (aC×Int)} {q:aC×Int} (h:iS w b m p os) (he:kF w b p o=some q):iS w b (oV m q) p (os++[o]):=h.add uY fun q' hq=>by rw [he] at hq; cases hq; exact Gm
theorem iL.none_ {m:List (aC×Int)} (h:iL w b m p os) (he:nJ w b p o=none):iL w b m p (os++[o]):=h.add (wW.refl _) fun q hq=>by rw [he] at hq; cases hq
theorem iL.Jg {m:List (aC×Int)} {q:aC×Int} (h:iL w b m p os) (he:nJ w b p o=some q):iL w b (oF m q) p (os++[o]):=h.add pU fun q' hq=>by rw [he] at hq; cases hq; exact Hq
/-- what of a map of the beam before is used already -/
def jO (w:bR) (b:Nat) (mb m left:List (aC×Int)):Prop:= ∀ p∈mb,p∈left∨iS w b m p (ic w b)
def js (w:bR) (b:Nat) (mb m left:List (aC×Int)):Prop:= ∀ p∈mb,p∈left∨iL w b m p (ic w b)
theorem jO.start {m:List (aC×Int)}:jO w b mb m mb:=fun p hp=> .inl hp
theorem js.start {m:List (aC×Int)}:js w b mb m mb:=fun p hp=> .inl hp
theorem jO.lower {m m':List (aC×Int)} (h:jO w b mb m left) (hl:vV m m'):jO w b mb m' left:=fun p hp=>(h p hp).imp id fun h=>h.lower hl
theorem js.upper {m m':List (aC×Int)} (h:js w b mb m left) (hl:wW m m'):js w b mb m' left:=fun p hp=>(h p hp).imp id fun h=>h.upper hl
theorem jO.next {m:List (aC×Int)} {t:aC} {v:Int} (hn:(left.map (·.1)).Nodup) (hm:(t,v)∈left) (h:jO w b mb m left) (hd:iS w b m (t,v) os) (ho: ∀ o∈ic w b,o∈os):jO w b mb m (cD left t):=fun p hp=>by
 rcases h p hp with q|q
 ·rcases lH hn hm q with q|q
  ·exact .inl q
  ·right; rw [q]; exact hd.sub ho
 ·exact .inr q
theorem js.next {m:List (aC×Int)} {t:aC} {v:Int} (hn:(left.map (·.1)).Nodup) (hm:(t,v)∈left) (h:js w b mb m left) (hd:iL w b m (t,v) os) (ho: ∀ o∈ic w b,o∈os):js w b mb m (cD left t):=fun p hp=>by
 rcases h p hp with q|q
 ·rcases lH hn hm q with q|q
  ·exact .inl q
  ·right; rw [q]; exact hd.sub ho
 ·exact .inr q
theorem jO.fin {m:List (aC×Int)} (h:jO w b mb m left) (h0:left=[]): ∀ p∈mb,iS w b m p (ic w b):=fun p hp=>by
 rcases h p hp with q|q
 ·rw [h0] at q; cases q
 ·exact q
theorem js.fin {m:List (aC×Int)} (h:js w b mb m left) (h0:left=[]): ∀ p∈mb,iL w b m p (ic w b):=fun p hp=>by
 rcases h p hp with q|q
 ·rw [h0] at q; cases q
 ·exact q
end
section
def l_ (a b:aa):aa:=⟨a.Lo+b.Lo,a.Hi+b.Hi⟩
def dA:aa:=⟨0,0⟩
def ku (a:aa) (l:List aa):aa:=l.foldl l_ a
def lj (z:aa):Prop:=(-1000000000≤z.Lo∧z.Lo≤1000000000)∧ -1000000000≤z.Hi∧z.Hi≤1000000000
theorem yS {a:aa} {l:List aa} {i:Nat} {z:aa} (h:l[i]? =some z):ku a (l.take (i+1))=l_ (ku a (l.take i)) z:=by
 rw [List.take_add_one,h]; unfold ku; simp
theorem Qo {a:aa} {l:List aa} (ha:lj a) (hl: ∀ z∈l,lj z): ∀ i:Nat,(-1000000000-1000000000*(i:Int)≤(ku a (l.take i)).Lo∧(ku a (l.take i)).Lo≤1000000000+1000000000*(i:Int))∧ -1000000000-1000000000*(i:Int)≤(ku a (l.take i)).Hi∧(ku a (l.take i)).Hi≤1000000000+1000000000*(i:Int):=by
 intro i
 induction i with
 |zero=>unfold lj at ha; simp [ku]; omega
 |succ i ih=>
  cases h:l[i]? with
  |none=>rw [List.take_add_one,h]; simp only [Option.toList_none,List.append_nil]; omega
  |some z=>
   have hz:=hl z (aU h)
   unfold lj at hz
   rw [yS h]
   simp only [l_]
   omega
theorem H0 {a:aa} {l:List aa} {i:Nat} (h:l.length≤i):ku a (l.take i)=ku a l:=by rw [List.take_of_length_le h]
theorem nm {a z:aa}:vA (aa.cells (ku a [z]))=vA (aa.cells (l_ a z)):=rfl
theorem Cf {a y z:aa}:vA (aa.cells (ku a [y,z]))=vA (aa.cells (l_ (l_ a y) z)):=rfl
/-- how long the run is from one mark, over so many stretches; by how much it falls -/
def eE (ts:List an) (f:Nat):Nat→aa
 |0=>dA
 |k+1=>match ts[f+k]? with
  |some x=>l_ (eE ts f k) x.kj
  |none=>eE ts f k
def gd (ts:List an) (f:Nat):Nat→aa
 |0=>dA
 |k+1=>match ts[f+k]? with
  |some x=>l_ (gd ts f k) x.lJ
  |none=>gd ts f k
theorem pc {ts:List an} {f k:Nat} {x:an} (h:ts[f+k]? =some x):eE ts f (k+1)=l_ (eE ts f k) x.kj:=by simp [eE,h]
theorem po {ts:List an} {f k:Nat} {x:an} (h:ts[f+k]? =some x):gd ts f (k+1)=l_ (gd ts f k) x.lJ:=by simp [gd,h]
theorem lS {ts:List an} (ht: ∀ x∈ts,bP x) (f:Nat): ∀ k:Nat,(0≤(eE ts f k).Lo∧(eE ts f k).Lo≤(eE ts f k).Hi)∧(eE ts f k).Hi≤30000*(k:Int):=by
 intro k
 induction k with
 |zero=>simp [eE,dA]
 |succ k ih=>
  simp only [eE]
  cases h:ts[f+k]? with
  |none=>simp only; omega
  |some x=>
   have hx:=(ht x (aU h)).2.1
   simp only [dN] at hx
   simp only [l_]
   omega
theorem ET {ts:List an} (ht: ∀ x∈ts,bP x) (f:Nat): ∀ k:Nat,(0≤(gd ts f k).Lo∧(gd ts f k).Lo≤(gd ts f k).Hi)∧(gd ts f k).Hi≤5000*(k:Int):=by
 intro k
 induction k with
 |zero=>simp [gd,dA]
 |succ k ih=>
  simp only [gd]
  cases h:ts[f+k]? with
  |none=>simp only; omega
  |some x=>
   have hx:=(ht x (aU h)).2.2.1
   simp only [dN] at hx
   simp only [l_]
   omega
theorem p8 {ts:List an} (ht: ∀ x∈ts,bP x) {f k:Nat} (hk:k≤13):lj (eE ts f k):=by
 have:=lS ht f k; unfold lj; omega
theorem wi {ts:List an} (ht: ∀ x∈ts,bP x) {f k:Nat} (hk:k≤13):lj (gd ts f k):=by
 have:=ET ht f k; unfold lj; omega
theorem uv {x:an} (h:bP x):lj x.kj:=by have:=h.2.1; simp only [dN] at this; unfold lj; omega
theorem ug {x:an} (h:bP x):lj x.lJ:=by have:=h.2.2.1; simp only [dN] at this; unfold lj; omega
theorem za {ts:List an} (h: ¬ (if cV ts=true then (0:Int) else 10)=0):cV ts=false∧(if cV ts=true then (0:Int) else 10)=10:=by
 cases ht:cV ts with
 |true=>rw [ht] at h; exact absurd rfl h
 |false=>exact ⟨rfl,rfl⟩
theorem D_ {ts:List an} (h:(if cV ts=true then (0:Int) else 10)=0):cV ts=true:=by
 cases ht:cV ts with
 |true=>rfl
 |false=>rw [ht] at h; exact absurd h dc
/-- what the iterator of marks yields -/
def s7 (ts:List an) (f:Nat):List (List Value):=(List.range (ts.length-f+1)).map fun (k:Nat)=>[.agg (eE ts f k).cells.toArray,.agg (gd ts f k).cells.toArray]
theorem te {ts:List an} {f:Nat}:(s7 ts f).length=ts.length-f+1:=by simp [s7]
theorem yK {ts:List an} {f k:Nat} (h:k≤ts.length-f):(s7 ts f)[k]? =some [.agg (eE ts f k).cells.toArray,.agg (gd ts f k).cells.toArray]:=by
 simp [s7,List.getElem?_range (show k<ts.length-f+1 by omega)]
theorem Gt {ts:List an} {f k:Nat} {x:List Value} (h:(s7 ts f)[k]? =some x):k≤ts.length-f∧x=[.agg (eE ts f k).cells.toArray,.agg (gd ts f k).cells.toArray]:=by
 have hi:k<ts.length-f+1:=by
  have:=(List.getElem?_eq_some_iff.1 h).1
  simpa [s7] using this
 rw [yK om] at h
 exact ⟨om,(Option.some.inj h).symm⟩
theorem C5 {ts:List an} {f:Nat}: ∀ x∈s7 ts f,x.length=2:=fun x hx=>by
 obtain ⟨k,_,rfl⟩:=List.mem_map.1 hx; rfl
end
section
def fq (ts:List an) (s:cM):Prop:=(0≤s.aY∧s.aY<(ts.length:Int))∧ ∃ x,ts[s.aY.toNat]? =some x∧dN s.mq 0 (x.kj.Lo-1)
noncomputable instance (ts:List an) (s:cM):Decidable (fq ts s):=Classical.propDecidable _
theorem BW {ts:List an} {s:cM} {x:an} (h:0≤s.aY∧s.aY<(ts.length:Int)) (hx:ts[s.aY.toNat]? =some x):fq ts s↔dN s.mq 0 (x.kj.Lo-1):=
 ⟨fun A=>by obtain ⟨y,hy,B⟩:=A.2; rw [hx] at hy; cases hy; exact B,fun A=>⟨h,x,hx,A⟩⟩
theorem B1 {ts:List an} {s:cM} (h: ¬ (0≤s.aY∧s.aY<(ts.length:Int))): ¬ fq ts s:=fun A=>h A.1
theorem zI {ts:List an} {s:cM} (ht: ∀ x∈ts,bP x) (h:fq ts s):(0≤s.mq.Lo∧s.mq.Lo≤s.mq.Hi)∧s.mq.Hi≤30000:=by
 obtain ⟨x,hx,A⟩:=h.2
 have:=(ht x (aU hx)).2.1
 simp only [dN] at A this
 omega
theorem C7 {ts:List an} {a:cM}:vB (decide (∀ s∈[a],fq ts s))=vB (decide (fq ts a)):=congrArg _ (decide_eq_decide.2 sm)
theorem De {ts:List an} {a b:cM}:vB (decide (∀ s∈[a,b],fq ts s))=vB (decide (fq ts a∧fq ts b)):=congrArg _ (decide_eq_decide.2 sm)
def nT (z:aa):aa:=⟨-z.Hi,-z.Lo⟩
def LU (ts:List an) (s:cM):aa:=l_ (eE ts 0 s.aY.toNat) s.mq
noncomputable def Fq (ts:List an) (s:cM):Int:=if cV ts=true then (if fq ts s then 0 else 12) else 10
noncomputable def Qf (ts:List an) (s:cM):aa:=if Fq ts s=0 then LU ts s else dA
theorem KM {ts:List an} {s:cM} (h:cV ts=false):Fq ts s=10∧Qf ts s=dA:=by
 have e:Fq ts s=10:=by unfold Fq; rw [h]; rfl
 exact ⟨e,by unfold Qf; rw [e]; rfl⟩
theorem Js {ts:List an} {s:cM} (h:cV ts=true) (h2: ¬ fq ts s):Fq ts s=12∧Qf ts s=dA:=by
 have e:Fq ts s=12:=by unfold Fq; rw [if_pos h,if_neg h2]
 exact ⟨e,by unfold Qf; rw [e]; rfl⟩
theorem vY {ts:List an} {s:cM} (h:cV ts=true) (h2:fq ts s):Fq ts s=0∧Qf ts s=LU ts s:=by
 have e:Fq ts s=0:=by unfold Fq; rw [if_pos h,if_pos h2]
 exact ⟨e,if_pos e⟩
theorem Fy {ts:List an} {s:cM} (h:cV ts=true):Fq ts s=0↔fq ts s:=by
 unfold Fq; rw [if_pos h]; split<;>simp [*]
def wM (ts:List an) (a b:cM):aa:=eE ts (min a.aY b.aY).toNat (max a.aY b.aY-min a.aY b.aY).toNat
def jK (ts:List an) (a b:cM):aa:=l_ (l_ (if b.aY<a.aY then nT (wM ts a b) else wM ts a b) b.mq) (nT a.mq)
noncomputable def lI (ts:List an) (a b:cM):Int:=if cV ts=true then (if fq ts a∧fq ts b then 0 else 12) else 10
noncomputable def kE (ts:List an) (a b:cM):aa:=if lI ts a b=0 then jK ts a b else dA
theorem tQ {ts:List an} {a b:cM} (h:cV ts=false):lI ts a b=10∧kE ts a b=dA:=by
 have e:lI ts a b=10:=by unfold lI; rw [h]; rfl
 exact ⟨e,by unfold kE; rw [e]; rfl⟩
theorem oR {ts:List an} {a b:cM} (h:cV ts=true) (h2: ¬ (fq ts a∧fq ts b)):lI ts a b=12∧kE ts a b=dA:=by
 have e:lI ts a b=12:=by unfold lI; rw [if_pos h,if_neg h2]
 exact ⟨e,by unfold kE; rw [e]; rfl⟩
theorem kT {ts:List an} {a b:cM} (h:cV ts=true) (h2:fq ts a∧fq ts b):lI ts a b=0∧kE ts a b=jK ts a b:=by
 have e:lI ts a b=0:=by unfold lI; rw [if_pos h,if_pos h2]
 exact ⟨e,if_pos e⟩
theorem z9 {z:aa} (h:lj z):lj (nT z):=by unfold lj nT at *; simp only; omega
theorem qx {ts:List an} {s:cM} (ht: ∀ x∈ts,bP x) (h:fq ts s):lj s.mq:=by have:=zI ht h; unfold lj; omega
theorem O7 {ts:List an} {a b:cM} (ht: ∀ x∈ts,bP x) (hl:ts.length≤12) (ha:fq ts a) (hb:fq ts b):(0≤(wM ts a b).Lo∧(wM ts a b).Lo≤(wM ts a b).Hi)∧(wM ts a b).Hi≤360000:=by
 have h:=lS ht (min a.aY b.aY).toNat (max a.aY b.aY-min a.aY b.aY).toNat
 have A:=ha.1
 have B:=hb.1
 unfold wM
 omega
theorem wL {ts:List an} {a b:cM} (ht: ∀ x∈ts,bP x) (hl:ts.length≤12) (ha:fq ts a) (hb:fq ts b):(-400000≤(jK ts a b).Lo∧(jK ts a b).Lo≤(jK ts a b).Hi)∧(jK ts a b).Hi≤400000:=by
 have h:=O7 ht hl ha hb
 have A:=zI ht ha
 have B:=zI ht hb
 unfold jK l_ nT
 split<;>simp only <;>omega
theorem Rl {ts:List an} {s:cM} (ht: ∀ x∈ts,bP x) (hl:ts.length≤12) (h:fq ts s):(0≤(LU ts s).Lo∧(LU ts s).Lo≤(LU ts s).Hi)∧(LU ts s).Hi≤400000:=by
 have A:=lS ht 0 s.aY.toNat
 have B:=zI ht h
 have C:=h.1
 unfold LU l_
 simp only; omega
theorem G4 {α:Type} {p:Nat→α→Bool} {l:List α}:((l.zipIdx.filter fun q=>p q.2 q.1).map fun q=>(q.2:Int))=[]↔ ∀ (i:Nat) x,l[i]? =some x→p i x=false:=by
 rw [List.map_eq_nil_iff,List.filter_eq_nil_iff]
 constructor
 ·intro h i x hx
  have:=h (x,i) (by rw [List.mem_zipIdx_iff_getElem?]; simpa using hx)
  simpa using this
 ·rintro h ⟨x,i⟩ hm
  rw [List.mem_zipIdx_iff_getElem?] at hm
  simpa using h i x (by simpa using hm)
/-- the places of a list at which something is so -/
def rL {α:Type} (p:Nat→α→Bool) (l:List α) (n:Nat):List Int:=(((l.take n).zipIdx.filter fun q=>p q.2 q.1).map fun q=>(q.2:Int))
theorem Ip {α:Type} {p:Nat→α→Bool} {l:List α} {i:Nat} {x:α} (hx:l[i]? =some x) (h:p i x=true):rL p l (i+1)=rL p l i++[(i:Int)]:=by
 have hi:=(List.getElem?_eq_some_iff.1 hx).1
 unfold rL
 rw [List.take_add_one,hx,List.zipIdx_append,List.filter_append,List.map_append]
 simp [Nat.min_eq_left (Nat.le_of_lt hi),h]
theorem NR {α:Type} {p:Nat→α→Bool} {l:List α} {i:Nat} {x:α} (hx:l[i]? =some x) (h:p i x=false):rL p l (i+1)=rL p l i:=by
 have hi:=(List.getElem?_eq_some_iff.1 hx).1
 unfold rL
 rw [List.take_add_one,hx,List.zipIdx_append,List.filter_append,List.map_append]
 simp [Nat.min_eq_left (Nat.le_of_lt hi),h]
theorem AF {α:Type} {p:Nat→α→Bool} {l:List α} {n:Nat}:(rL p l n).length≤n:=by
 unfold rL
 rw [List.length_map]
 refine Nat.le_trans (List.length_filter_le _ _) ?_
 rw [List.length_zipIdx,List.length_take]; omega
def Jr {α:Type} (p:Nat→α→Bool) (l:List α):List Int:=rL p l l.length
theorem Ml {α:Type} {p:Nat→α→Bool} {l:List α} {n:Nat} (h:n=l.length):rL p l n=Jr p l:=by rw [h]; rfl
theorem F_ {α:Type} {p:Nat→α→Bool} {l:List α}:(Jr p l).length=0↔ ∀ (i:Nat) x,l[i]? =some x→p i x=false:=by
 unfold Jr rL
 rw [List.length_eq_zero_iff,List.take_length]
 exact G4
end
section
theorem yA (p:Int→Bool) (n:Nat): ∃ r:Int,r=((List.range n).findIdx fun (k:Nat)=>p (k:Int):Nat):=⟨_,rfl⟩
noncomputable def fj (p:Int→Bool) (n:Nat):Int:=Classical.choose (yA p n)
theorem rE (p:Int→Bool) (n:Nat):fj p n=((List.range n).findIdx fun (k:Nat)=>p (k:Int):Nat):=Classical.choose_spec (yA p n)
theorem g_ {p:Int→Bool} {n:Nat}:0≤fj p n∧fj p n≤n:=by
 rw [rE]
 have:=List.findIdx_le_length (xs:=List.range n) (p:=fun (k:Nat)=>p (k:Int))
 rw [List.length_range] at this
 omega
theorem uB {p:Int→Bool} {n:Nat} {x:Int} (h0:0≤x) (h:x<fj p n):p x=false:=by
 have hb:=g_ (p:=p) (n:=n)
 rw [rE] at h
 have B:x.toNat<(List.range n).findIdx fun (k:Nat)=>p (k:Int):=by omega
 have A:=List.not_of_lt_findIdx B
 simp only [List.getElem_range] at A
 rw [show (x.toNat:Int)=x by omega] at A
 simpa using A
theorem yY {p:Int→Bool} {n:Nat} (h:fj p n<n):p (fj p n)=true:=by
 rw [rE] at h ⊢
 have A:((List.range n).findIdx fun (k:Nat)=>p (k:Int))<(List.range n).length:=by rw [List.length_range]; omega
 have:=List.findIdx_getElem (w:=A)
 simpa using this
theorem yj {p:Int→Bool} {n:Nat} {r:Int} (h0:0≤r) (hn:r<n) (hr:p r=true) (hb: ∀ x,0≤x→x<r→p x=false):fj p n=r:=by
 have A:=g_ (p:=p) (n:=n)
 rcases Int.lt_trichotomy (fj p n) r with h|h|h
 ·have:=hb _ A.1 h
  have e:=yY (p:=p) (n:=n) om
  rw [e] at this; cases this
 ·exact h
 ·have:=uB h0 h
  rw [hr] at this; cases this
end
section
def oZ (n by_:Int):Int:=(n+by_-1)/by_
/-- by how much a sync may be off -/
def rI (c:au) (at_:Int) (x:cG):Int:=oZ (c.dh*max (at_-x.At) (x.At-at_)) 1000000
def lv (c:au) (at_:Int) (s:aa) (x:cG):aa:=⟨max s.Lo (x.ew.Lo-rI c at_ x),min s.Hi (x.ew.Hi+rI c at_ x)⟩
def gn (c:au) (at_:Int) (k:Nat):aa:=(c.bw.take k).foldl (lv c at_) ⟨-1099511627776,1099511627776⟩
def hP (c:au) (at_:Int):aa:=c.bw.foldl (lv c at_) ⟨-1099511627776,1099511627776⟩
theorem jN {c:au} {at_:Int} {k:Nat} {x:cG} (h:c.bw[k]? =some x):gn c at_ (k+1)=lv c at_ (gn c at_ k) x:=by
 unfold gn; rw [List.take_add_one,h,List.foldl_append]; rfl
theorem nu {c:au} {at_:Int} {k:Nat} (h:c.bw.length≤k):gn c at_ k=hP c at_:=by unfold gn hP; rw [List.take_of_length_le h]
def j6 (c:au) (i:Nat):Int:=if i=0 then-1 else ((c.bw[i-1]?).map (·.At)).getD 0
def fp (c:au) (i:Nat) (x:cG):Prop:=(j6 c i<x.At∧x.At≤86400000)∧ -10000≤x.ew.Lo∧x.ew.Lo≤x.ew.Hi∧x.ew.Hi≤10000
def ng (c:au) (x o:cG):Prop:=x.ew.Lo-o.ew.Hi≤oZ (c.dh*(x.At-o.At)) 1000000∧o.ew.Lo-x.ew.Hi≤oZ (c.dh*(x.At-o.At)) 1000000
structure eX (c:au):Prop where
 ry:0≤c.dh∧c.dh≤1000
 len:1≤c.bw.length∧c.bw.length≤5
 sync: ∀ (i:Nat) x,c.bw[i]? =some x→fp c i x
 pair: ∀ (i k:Nat) x o,c.bw[i]? =some x→k<i→c.bw[k]? =some o→ng c x o
noncomputable instance (c:au):Decidable (eX c):=Classical.propDecidable _
theorem gr {c:au} {i:Nat} (h:i=0):j6 c i= -1:=if_pos h
theorem xw {c:au} {i:Nat} {y:cG} (h:0<i) (hy:c.bw[i-1]? =some y):j6 c i=y.At:=by unfold j6; rw [if_neg om,hy]; rfl
theorem nQ {c:au} {i:Nat} {y:cG} (hy:c.bw[i]? =some y):j6 c (i+1)=y.At:=by unfold j6; rw [if_neg om,Nat.add_sub_cancel,hy]; rfl
/-- the times of the syncs -/
theorem Nw {c:au} (h: ∀ (i:Nat) x,c.bw[i]? =some x→fp c i x): ∀ (i:Nat) x,c.bw[i]? =some x→0≤x.At∧ ∀ (k:Nat) o,k<i→c.bw[k]? =some o→o.At<x.At:=by
 intro i
 induction i with
 |zero=>
  intro x hx
  have:=(h 0 x hx).1.1
  rw [gr rfl] at this
  exact ⟨om,fun k o hk=>by omega⟩
 |succ i ih=>
  intro x hx
  have hi:=(List.getElem?_eq_some_iff.1 hx).1
  have hy:c.bw[i]? =some (c.bw[i]'om):=e8 om
  have B:=ih _ hy
  have A:=(h (i+1) x hx).1.1
  rw [nQ hy] at A
  refine ⟨om,fun k o hk ho=>?_⟩
  by_cases e:k=i
  ·subst e; rw [hy] at ho; cases ho; exact A
  ·have:=B.2 k o om ho; omega
theorem eX.tO {c:au} (h:eX c) {i:Nat} {x:cG} (hx:c.bw[i]? =some x):(0≤x.At∧x.At≤86400000)∧ -10000≤x.ew.Lo∧x.ew.Lo≤x.ew.Hi∧x.ew.Hi≤10000:=by
 have A:=h.sync i x hx
 exact ⟨⟨(Nw h.sync i x hx).1,A.1.2⟩,A.2⟩
theorem E6 {d a b:Int} (hd:0≤d∧d≤1000) (ha:0≤a∧a≤90000000) (hb:0≤b∧b≤90000000):0≤d*max (a-b) (b-a)∧d*max (a-b) (b-a)≤90000000000:=by
 have:=PA (a:=d) (b:=max (a-b) (b-a)) (A:=1000) (B:=90000000) hd.1 hd.2 om om
 omega
theorem uf {c:au} {at_:Int} {x:cG} (hd:0≤c.dh∧c.dh≤1000) (ha:0≤at_∧at_≤90000000) (hx:0≤x.At∧x.At≤86400000):0≤rI c at_ x∧rI c at_ x≤90001:=by
 have h:=E6 hd ha (show 0≤x.At∧x.At≤90000000 by omega)
 unfold rI oZ; omega
theorem Cr {c:au} {at_:Int} (h:eX c) (ha:0≤at_∧at_≤90000000): ∀ k:Nat,(-1099511627776≤(gn c at_ k).Lo∧(gn c at_ k).Lo≤10000)∧ -10000≤(gn c at_ k).Hi∧(gn c at_ k).Hi≤1099511627776:=by
 intro k
 induction k with
 |zero=>simp [gn]
 |succ k ih=>
  cases hx:c.bw[k]? with
  |none=>unfold gn at ih ⊢; rw [List.take_add_one,hx]; simpa using ih
  |some x=>
   have hb:=h.tO hx
   have ho:=uf h.ry ha hb.1
   rw [jN hx]
   unfold lv
   simp only
   omega
theorem qk {c:au} {at_:Int} (h:eX c) (ha:0≤at_∧at_≤90000000):(-110000≤(hP c at_).Lo∧(hP c at_).Lo≤10000)∧ -10000≤(hP c at_).Hi∧(hP c at_).Hi≤110000:=by
 obtain ⟨n,hn⟩: ∃ n,c.bw.length=n+1:=⟨c.bw.length-1,by have:=h.len; omega⟩
 have hx:c.bw[n]? =some (c.bw[n]'om):=e8 om
 have hb:=h.tO hx
 have ho:=uf h.ry ha hb.1
 have A:=Cr h ha n
 rw [← nu (k:=n+1) om,jN hx]
 unfold lv
 simp only
 omega
/-- as time goes on, time and what a clock may be ahead, together, never go back -/
theorem Dk {c:au} (h:eX c) {a b:Int} (ha:0≤a) (hab:a≤b) (hb:b≤90000000): ∀ k:Nat,(a+(gn c a k).Lo≤b+(gn c b k).Lo∨(gn c a k).Lo= -1099511627776)∧a+(gn c a k).Hi≤b+(gn c b k).Hi:=by
 have step: ∀ (x:cG),0≤x.At∧x.At≤86400000→ ∀ a b:Int,0≤a→a≤b→b≤90000000→rI c a x≤rI c b x+(b-a)∧rI c b x≤rI c a x+(b-a):=by
  intro x hx a b ha hab hb
  have hd:=h.ry
  have e: ∀ u v:Int,u≤v+1000000*(b-a)→oZ u 1000000≤oZ v 1000000+(b-a):=by intro u v C; unfold oZ; omega
  have m: ∀ p q:Int,p≤q+(b-a)→c.dh*p≤c.dh*q+1000000*(b-a):=by
   intro p q A
   have D:c.dh*p≤c.dh*(q+(b-a)):=Int.mul_le_mul_of_nonneg_left A hd.1
   have E:c.dh*(q+(b-a))=c.dh*q+c.dh*(b-a):=Int.mul_add _ _ _
   have F:c.dh*(b-a)≤1000*(b-a):=Int.mul_le_mul_of_nonneg_right hd.2 om
   omega
  exact ⟨e _ _ (m _ _ om),e _ _ (m _ _ om)⟩
 intro k
 induction k with
 |zero=>simp [gn]; omega
 |succ k ih=>
  cases hx:c.bw[k]? with
  |none=>
   have e: ∀ t,gn c t (k+1)=gn c t k:=fun t=>by unfold gn; rw [List.take_add_one,hx]; simp
   rw [e,e]; exact ih
  |some x=>
   have hs:=h.tO hx
   have:=step x hs.1 a b ha hab hb
   have B:=uf (at_:=a) h.ry ⟨ha,om⟩ hs.1
   rw [jN hx,jN hx]
   unfold lv
   simp only
   omega
theorem nM {c:au} (h:eX c) {a b:Int} (ha:0≤a) (hab:a≤b) (hb:b≤90000000):a+(hP c a).Lo≤b+(hP c b).Lo∧a+(hP c a).Hi≤b+(hP c b).Hi:=by
 have A:=Dk h ha hab hb c.bw.length
 have B:=qk h (at_:=a) ⟨ha,om⟩
 rw [nu (Nat.le_refl _),nu (Nat.le_refl _)] at A
 omega
noncomputable def lQ (l:bf) (i:Nat):Int:=match l.ae[i]? with
 |some b=>if i=0 then (LU l.aI b.mz).Lo else (match l.ae[i-1]? with
  |some a=>(jK l.aI a.mz b.mz).Lo
  |none=>0)
 |none=>0
theorem zi {l:bf} {b:bG} (h:l.ae[0]? =some b):lQ l 0=(LU l.aI b.mz).Lo:=by unfold lQ; rw [h]; rfl
theorem Bw {l:bf} {i:Nat} {a b:bG} (hi:0<i) (h:l.ae[i]? =some b) (ha:l.ae[i-1]? =some a):lQ l i=(jK l.aI a.mz b.mz).Lo:=by unfold lQ; rw [h,ha]; simp only; rw [if_neg om]
def jE (l:bf) (b:bG):Prop:=fq l.aI b.mz∧0≤b.jF∧b.jF<(l.ai.length:Int)
def gi (l:bf):Prop:=(1≤l.dJ∧l.dJ≤5000)∧(1≤(l.ai.length:Int)∧(l.ai.length:Int)≤4)∧(1≤(l.ae.length:Int)∧(l.ae.length:Int)≤6)∧(0≤l.bH∧l.bH≤(l.ae.length:Int)-1)∧(0≤l.cv∧l.cv≤3)∧0≤l.bM∧l.bM≤3
structure kS (l:bf):Prop where
 head:gi l
 clock: ∀ c∈l.ai,eX c
 vi: ∀ b∈l.ae,jE l b
 Qx: ∀ i,i<l.ae.length→1≤lQ l i
noncomputable instance (l:bf):Decidable (kS l):=Classical.propDecidable _
noncomputable def dx (l:bf):Int:=if cV l.aI=true then (if kS l then 0 else 50) else 10
theorem zj {l:bf} (h:cV l.aI=false):dx l=10:=by unfold dx; rw [h]; rfl
theorem ql {l:bf} (h:cV l.aI=true) (h2: ¬ kS l):dx l=50:=by unfold dx; rw [if_pos h,if_neg h2]
theorem xJ {l:bf} (h:cV l.aI=true) (h2:kS l):dx l=0:=by unfold dx; rw [if_pos h,if_pos h2]
theorem gE {l:bf} (h:dx l=0):cV l.aI=true∧kS l:=by
 unfold dx at h
 split at h
 ·split at h
  ·exact ⟨asm,asm⟩
  ·omega
 ·omega
theorem Fs {l:bf} (ht:cV l.aI=true) (hb: ∀ b∈l.ae,jE l b) (i:Nat): -400000≤lQ l i∧lQ l i≤400000:=by
 have A:=jJ ht
 have hl:=kx ht
 unfold lQ
 cases h:l.ae[i]? with
 |none=>simp
 |some b=>
  have B:=(hb b (aU h)).1
  simp only
  split
  ·have:=Rl A hl B; omega
  ·cases h2:l.ae[i-1]? with
   |none=>simp
   |some a=>
    have C:=(hb a (aU h2)).1
    have:=wL A hl C B
    simp only; omega
def pA (l:bf) (s:aO):au:=((l.ae[s.gh.toNat]?).bind fun b=>l.ai[b.jF.toNat]?).getD ⟨0,[]⟩
def f_ (c:au) (r t:Int):Bool:=decide (r≤t+(hP c t).Hi)
def fZ (c:au) (r t:Int):Bool:=decide (r<t+(hP c t).Lo)
noncomputable def qa (c:au) (r:Int):aa:=⟨fj (f_ c r) 86400001,fj (fZ c r) 86400001-1⟩
noncomputable def cK (l:bf) (s:aO):aa:=qa (pA l s) s.Read
noncomputable def ed (l:bf) (i:Nat):Int:=oZ (1000*lQ l i) l.dJ
end
section
open Go.RowKit
def AA (n:Int):Int:=IntKind.i64.wrap n
theorem Aj {n:Int} (h:p9 n):AA n=n:=n9 h
theorem SP (n:Int): -9223372036854775808≤AA n∧AA n≤9223372036854775807:=by
 unfold AA
 rw [IntKind.wrap_i64]
 omega
section
variable {P:Program} {t:TypeId} {x y:Operand} {a b:Int}
theorem PW:g9 P .add t x y (.int .i64 a) (.int .i64 b) (.int .i64 (AA (a+b))):=fun w=>by simp [eqGuard_add,binOp_add,Op.intArith,AA]
theorem JT:g9 P .sub t x y (.int .i64 a) (.int .i64 b) (.int .i64 (AA (a-b))):=fun w=>by simp [eqGuard_sub,binOp_sub,Op.intArith,AA]
theorem PX:g9 P .mul t x y (.int .i64 a) (.int .i64 b) (.int .i64 (AA (a*b))):=fun w=>by simp [eqGuard_mul,binOp_mul,Op.intArith,AA]
end
/-- divided, and rounded up, as it comes out -/
def Rq (n by_:Int):Int:=(AA (AA (n+by_)-1)).tdiv by_
theorem Pq {a b:Int} (ha: -9223372036854775808≤a∧a≤9223372036854775807) (hb:2≤b):p9 (a.tdiv b):=by
 have A:a.tdiv b=a/b+if a % b≠0∧a<0 then 1 else 0:=by
  rcases Int.lt_or_le a 0 with h|h
  ·rw [Int.tdiv_eq_ediv]
   have:b.sign=1:=Int.sign_eq_one_of_pos om
   rw [this]
   by_cases hd:b∣a
   ·have:a % b=0:=Int.emod_eq_zero_of_dvd hd
    simp [hd,this]
   ·have:a % b≠0:=fun e=>hd (Int.dvd_of_emod_eq_zero e)
    have hn: ¬ 0≤a:=by omega
    simp [hd,this,h,hn]
  ·rw [Int.tdiv_eq_ediv_of_nonneg h]
   have: ¬ a<0:=by omega
   simp [this]
 have B:a/b*b+a % b=a:=by rw [Int.mul_comm]; exact Int.mul_ediv_add_emod a b
 have C:0≤a % b:=Int.emod_nonneg _ om
 have D:a % b<b:=Int.emod_lt_of_pos _ om
 have E: -9223372036854775808≤a/b∧a/b≤4611686018427387904:=by
  constructor
  ·refine Int.le_ediv_of_mul_le om ?_
   have:(-9223372036854775808:Int)*b≤ -9223372036854775808*1:=Int.mul_le_mul_of_nonpos_left om om
   omega
  ·refine Int.ediv_le_of_le_mul om ?_
   have:(4611686018427387904:Int)*2≤4611686018427387904*b:=Int.mul_le_mul_of_nonneg_left hb om
   omega
 rw [A]
 unfold p9
 split<;>omega
theorem O3 {n by_:Int} (h0:0≤n) (h1:n≤1000000000000000000) (hb:1≤by_∧by_≤1000000000000):Rq n by_=(n+by_-1)/by_:=by
 unfold Rq
 rw [Aj (show p9 (n+by_) from ⟨om,om⟩),Aj (show p9 (n+by_-1) from ⟨om,om⟩),Int.tdiv_eq_ediv_of_nonneg om]
end
section
def lT (c:au) (i:Nat) (x:cG) (k:Nat):Prop:=fp c i x∧ ∀ (j:Nat) o,j<k→c.bw[j]? =some o→ng c x o
def rV (c:au) (n:Nat):Prop:= ∀ (i:Nat) x,i<n→c.bw[i]? =some x→lT c i x i
noncomputable instance (c:au) (i:Nat) (x:cG) (k:Nat):Decidable (lT c i x k):=Classical.propDecidable _
instance (c:au) (i:Nat) (x:cG):Decidable (fp c i x):=by unfold fp; infer_instance
theorem Dc {c:au} {i:Nat} {x:cG}:lT c i x 0↔fp c i x:=⟨fun h=>h.1,fun h=>⟨h,fun j o hj=>by omega⟩⟩
theorem rR {c:au} {i k:Nat} {x o:cG} (h:c.bw[k]? =some o):lT c i x (k+1)↔lT c i x k∧ng c x o:=by
 constructor
 ·intro hr
  exact ⟨⟨hr.1,fun j o' hj ho=>hr.2 j o' om ho⟩,hr.2 k o om h⟩
 ·rintro ⟨hr,hp⟩
  refine ⟨hr.1,fun j o' hj ho=>?_⟩
  by_cases e:j=k
  ·subst e; rw [h] at ho; cases ho; exact hp
  ·exact hr.2 j o' om ho
theorem GD {c:au}:rV c 0:=fun i x hi=>by omega
theorem HG {c:au} {i:Nat} {x:cG} (h:rV c i) (hx:c.bw[i]? =some x) (hr:lT c i x i):rV c (i+1):=fun j y hj hy=>by
 by_cases e:j=i
 ·subst e; rw [hx] at hy; cases hy; exact hr
 ·exact h j y om hy
theorem IH {c:au} {i:Nat} {x:cG} (hx:c.bw[i]? =some x) (h: ¬ lT c i x i): ¬ eX c:=fun hc=>h ⟨hc.sync i x hx,fun j o hj ho=>hc.pair i j x o hx hj ho⟩
theorem HF {c:au} (h1:0≤c.dh∧c.dh≤1000) (h2:1≤c.bw.length∧c.bw.length≤5) (h:rV c c.bw.length):eX c:=
 ⟨h1,h2,fun i x hx=>(h i x (List.getElem?_eq_some_iff.1 hx).1 hx).1,fun i k x o hx hk ho=>(h i x (List.getElem?_eq_some_iff.1 hx).1 hx).2 k o hk ho⟩
/-- syncs so far -/
theorem um {c:au} {n:Nat} (h: ∀ (i:Nat) x,i<n→c.bw[i]? =some x→fp c i x): ∀ (i:Nat) x,i<n→c.bw[i]? =some x→0≤x.At∧ ∀ (k:Nat) o,k<i→c.bw[k]? =some o→o.At<x.At:=by
 intro i
 induction i with
 |zero=>
  intro x hn hx
  have:=(h 0 x hn hx).1.1
  rw [gr rfl] at this
  exact ⟨om,fun k o hk=>by omega⟩
 |succ i ih=>
  intro x hn hx
  have hi:=(List.getElem?_eq_some_iff.1 hx).1
  have hy:c.bw[i]? =some (c.bw[i]'om):=e8 om
  have B:=ih _ om hy
  have A:=(h (i+1) x hn hx).1.1
  rw [nQ hy] at A
  refine ⟨om,fun k o hk ho=>?_⟩
  by_cases e:k=i
  ·subst e; rw [hy] at ho; cases ho; exact A
  ·have:=B.2 k o om ho; omega
theorem IL {c:au} {i:Nat} (hi:i≤c.bw.length) (h: ∀ (j:Nat) y,j<i→c.bw[j]? =some y→fp c j y): -1≤j6 c i∧j6 c i≤86400000:=by
 cases i with
 |zero=>rw [gr rfl]; omega
 |succ i=>
  have hy:c.bw[i]? =some (c.bw[i]'om):=e8 om
  have A:=(um (n:=i+1) h i _ om hy).1
  have B:=(h i _ om hy).1.2
  rw [nQ hy]; omega
theorem Pj {c:au} {i:Nat} (hi:i≤c.bw.length) (h:rV c i): -1≤j6 c i∧j6 c i≤86400000:=IL hi fun j y hj hy=>(h j y hj hy).1
theorem tM {c:au} {i k:Nat} {x o:cG} (hs: ∀ (j:Nat) y,j<i→c.bw[j]? =some y→fp c j y) (hx:c.bw[i]? =some x) (hok:fp c i x) (hk:k<i) (ho:c.bw[k]? =some o):
 (0≤o.At∧o.At<x.At∧x.At≤86400000)∧(-10000≤x.ew.Lo∧x.ew.Lo≤x.ew.Hi∧x.ew.Hi≤10000)∧ -10000≤o.ew.Lo∧o.ew.Lo≤o.ew.Hi∧o.ew.Hi≤10000:=by
 have h: ∀ (j:Nat) y,j<i+1→c.bw[j]? =some y→fp c j y:=fun j y hj hy=>by
  by_cases e:j=i
  ·subst e; rw [hx] at hy; cases hy; exact hok
  ·exact hs j y om hy
 have A:=(um h i x om hx).2 k o hk ho
 have B:=(um h k o om ho).1
 exact ⟨⟨B,A,hok.1.2⟩,hok.2,(h k o om ho).2⟩
theorem Mi {d a b:Int} (hd:0≤d∧d≤1000) (h:0≤b∧b<a∧a≤86400000):Rq (AA (d*AA (a-b))) 1000000=oZ (d*(a-b)) 1000000:=by
 have C:0≤d*(a-b)∧d*(a-b)≤90000000000:=by
  have:=PA (a:=d) (b:=a-b) (A:=1000) (B:=90000000) hd.1 hd.2 om om
  omega
 rw [Aj (show p9 (a-b) from ⟨om,om⟩),Aj (show p9 (d*(a-b)) from ⟨om,om⟩),O3 C.1 om om]
 rfl
/-- what is asked of a line, however wrong it is -/
structure eB (l:bf) (asl:List RA):Prop where
 sf:l.aI.length≤1000000
 side: ∀ x∈l.aI,0≤x.iN∧x.iN≤255
 sh:l.ai.length≤1000000
 oq:asl.length=l.ai.length
 se:l.ae.length≤1000000
 Qy: ∀ (k:Nat) m (a:RA),l.ai[k]? =some m→asl[k]? =some a→m.bw.length≤a.2∧m.bw.length≤1000000
noncomputable instance (l:bf):Decidable (gi l):=by unfold gi; infer_instance
noncomputable instance (l:bf) (b:bG):Decidable (jE l b):=Classical.propDecidable _
theorem yH {l:bf} (h:gi l) (h2: ∀ c∈l.ai,eX c) (h3: ∀ b∈l.ae,jE l b) (h4: ∀ i,i<l.ae.length→1≤lQ l i):kS l:=⟨h,h2,h3,h4⟩
theorem Df {l:bf}:((!(l.ai.any fun m=> !decide (eX m)))=true)↔ ∀ c∈l.ai,eX c:=by simp
theorem Hu {l:bf}:((!(l.ae.any fun b=> !decide (jE l b)))=true)↔ ∀ b∈l.ae,jE l b:=by simp
theorem kJ {c:au} (h:eX c) {r x:Int} (h0:0≤x) (h1:x<86400001):
 (x<fj (f_ c r) 86400001→f_ c r x=false)∧(fj (f_ c r) 86400001≤x→f_ c r x=true)∧(x<fj (fZ c r) 86400001→fZ c r x=false)∧(fj (fZ c r) 86400001≤x→fZ c r x=true):=by
 have up: ∀ (q:Int→Bool),(∀ a b,0≤a→a≤b→b<86400001→q a=true→q b=true)→fj q 86400001≤x→q x=true:=fun q hq hx=>by
  have hb:=g_ (p:=q) (n:=86400001)
  exact hq _ _ hb.1 hx h1 (yY om)
 refine ⟨uB h0,up _ fun a b ha A hb hq=>?_,uB h0,up _ fun a b ha A hb hq=>?_⟩
 ·have:=nM h ha A om
  simp only [f_,decide_eq_true_eq] at hq ⊢; omega
 ·have:=nM h ha A om
  simp only [fZ,decide_eq_true_eq] at hq ⊢; omega
theorem xg {l:bf} {s:aO} {b:bG} {c:au} (hb:l.ae[s.gh.toNat]? =some b) (hc:l.ai[b.jF.toNat]? =some c):pA l s=c:=by
 unfold pA; rw [hb]; simp only [Option.bind_some]; rw [hc]; rfl
end
section
def mA (sg:List aO) (i:Nat):aO:=if i=0 then ⟨-1,0⟩ else (sg[i-1]?).getD ⟨-1,0⟩
theorem o5 {sg:List aO} {i:Nat} {s:aO} (h:sg[i]? =some s):mA sg (i+1)=s:=by unfold mA; rw [if_neg om,Nat.add_sub_cancel,h]; rfl
def k7 (l:bf) (s:aO):Prop:=(0≤s.gh∧s.gh≤(l.ae.length:Int)-1)∧0≤s.Read∧s.Read≤86400000
def j2 (l:bf) (sg:List aO) (i:Nat) (s:aO):Prop:=k7 l s∧ ¬ s.gh<(mA sg i).gh∧ ¬ (s.gh=(mA sg i).gh∧s.Read≤(mA sg i).Read)
def qz (l:bf) (sg:List aO) (i:Nat):Prop:= ∀ (j:Nat) s,j<i→sg[j]? =some s→j2 l sg j s
structure ff (l:bf) (r:cE):Prop where
 time:0≤r.Start∧r.Start≤r.gf∧r.gf≤86400000
 len:r.ak.length≤10
 sig: ∀ (i:Nat) s,r.ak[i]? =some s→j2 l r.ak i s
noncomputable instance (l:bf) (r:cE):Decidable (ff l r):=Classical.propDecidable _
theorem ye {l:bf} {sg:List aO}:qz l sg 0:=fun j s hj=>absurd hj (Nat.not_lt_zero _)
theorem lK {l:bf} {sg:List aO} {i:Nat} {s:aO} (h:qz l sg i) (hs:sg[i]? =some s) (ho:j2 l sg i s):qz l sg (i+1):=fun j z hj hz=>by
 rcases Nat.lt_or_ge j i with q|q
 ·exact h j z q hz
 ·obtain rfl:j=i:=by omega
  rw [hs] at hz; cases hz; exact ho
theorem Cn {l:bf} {r:cE} {i:Nat} (h1:0≤r.Start∧r.Start≤r.gf∧r.gf≤86400000) (h2:r.ak.length≤10) (h:qz l r.ak i) (hi:r.ak.length≤i):ff l r:=
 ⟨h1,h2,fun j s hs=>h j s (by have:=(List.getElem?_eq_some_iff.1 hs).1; omega) hs⟩
noncomputable def nc (l:bf) (sg:List aO) (b k:Nat):Option (Int×aa):=(sg[k]?).bind fun s=>if s.gh=(b:Int)∧(cK l s).Lo≤(cK l s).Hi then some ((k:Int),cK l s) else none
noncomputable def kD (l:bf) (sg:List aO) (i b:Nat):TM:=(List.range i).filterMap (nc l sg b)
noncomputable def dZ (l:bf) (sg:List aO) (i:Nat):List TM:=(List.range l.ae.length).map (kD l sg i)
noncomputable def cQ (l:bf) (n:Nat):List Int:=(List.range n).map (ed l)
theorem uX {l:bf} {n:Nat}:cQ l (n+1)=cQ l n++[ed l n]:=by simp [cQ,List.range_succ]
theorem ek {l:bf} {n:Nat}:(cQ l n).length=n:=by simp [cQ]
theorem jd {l:bf} {sg:List aO} {i:Nat}:(dZ l sg i).length=l.ae.length:=by simp [dZ]
theorem ox {l:bf} {sg:List aO} {i b:Nat} (h:b<l.ae.length):(dZ l sg i)[b]? =some (kD l sg i b):=by simp [dZ,h]
theorem py {l:bf} {sg:List aO} {b k:Nat} {q:Int×aa}:nc l sg b k=some q↔ ∃ s,sg[k]? =some s∧(s.gh=(b:Int)∧(cK l s).Lo≤(cK l s).Hi)∧q=((k:Int),cK l s):=by
 unfold nc
 cases h:sg[k]? with
 |none=>simp
 |some s=>
  simp only [Option.bind_some,Option.some.injEq]
  by_cases e:s.gh=(b:Int)∧(cK l s).Lo≤(cK l s).Hi
  ·rw [if_pos e]
   constructor
   ·intro h; cases h; exact ⟨s,rfl,e,rfl⟩
   ·rintro ⟨s',rfl,_,rfl⟩; rfl
  ·rw [if_neg e]
   constructor
   ·intro h; cases h
   ·rintro ⟨s',rfl,e',_⟩; exact absurd e' e
theorem rK {l:bf} {sg:List aO} {i b:Nat} {q:Int×aa}:q∈kD l sg i b↔ ∃ k,k<i∧ ∃ s,sg[k]? =some s∧(s.gh=(b:Int)∧(cK l s).Lo≤(cK l s).Hi)∧q=((k:Int),cK l s):=by
 unfold kD
 simp only [List.mem_filterMap,List.mem_range,py]
theorem kO {l:bf} {sg:List aO} {i b:Nat}:kD l sg (i+1) b=kD l sg i b++(nc l sg b i).toList:=by
 unfold kD
 rw [List.range_succ,List.filterMap_append]
 congr 1
theorem Ev {l:bf} {sg:List aO}:dZ l sg 0=List.replicate l.ae.length []:=by
 unfold dZ
 rw [List.eq_replicate_iff]
 refine ⟨sm,fun t ht=>?_⟩
 obtain ⟨b,_,rfl⟩:=List.mem_map.1 ht
 rfl
theorem v7 {l:bf} {sg:List aO} {i:Nat} {s:aO} (hs:sg[i]? =some s) (h: ¬ (cK l s).Lo≤(cK l s).Hi):dZ l sg (i+1)=dZ l sg i:=by
 unfold dZ
 apply List.map_congr_left
 intro b _
 rw [kO]
 have:nc l sg b i=none:=by
  cases e:nc l sg b i with
  |none=>rfl
  |some q=>obtain ⟨s',A,⟨_,B⟩,_⟩:=py.1 e; rw [hs] at A; cases A; exact absurd B h
 rw [this]; simp
theorem yf {l:bf} {sg:List aO} {i:Nat} {s:aO} (hs:sg[i]? =some s) (hb:0≤s.gh∧s.gh≤(l.ae.length:Int)-1) (h:(cK l s).Lo≤(cK l s).Hi) {x:TM} (hx:(dZ l sg i)[s.gh.toNat]? =some x):
 (dZ l sg i).set s.gh.toNat (eT x (i:Int) (cK l s))=dZ l sg (i+1):=by
 have A:s.gh.toNat<l.ae.length:=by omega
 rw [ox A] at hx
 cases hx
 have B:eT (kD l sg i s.gh.toNat) (i:Int) (cK l s)=kD l sg (i+1) s.gh.toNat:=by
  have hn:(kD l sg i s.gh.toNat).lookup (i:Int)=none:=jf.2 fun p hp e=>by
   obtain ⟨k,hk,_,_,_,rfl⟩:=rK.1 hp
   simp only at e; omega
  have ho:nc l sg s.gh.toNat i=some ((i:Int),cK l s):=py.2 ⟨s,hs,⟨om,h⟩,rfl⟩
  rw [kO,ho]
  unfold eT; rw [hn]; rfl
 rw [B]
 apply List.ext_getElem?
 intro b
 rw [List.getElem?_set]
 by_cases e:s.gh.toNat=b
 ·rw [if_pos e,jd,← e,if_pos A,ox A]
 ·rw [if_neg e]
  by_cases hb':b<l.ae.length
  ·rw [ox hb',ox hb',kO]
   have:nc l sg b i=none:=by
    cases e2:nc l sg b i with
    |none=>rfl
    |some q=>obtain ⟨s',C,⟨D,_⟩,_⟩:=py.1 e2; rw [hs] at C; cases C; exact absurd om e
   rw [this]; simp
  ·rw [List.getElem?_eq_none (by rw [jd]; omega),List.getElem?_eq_none (by rw [jd]; omega)]
noncomputable def cr (l:bf) (r:cE):bR:=⟨r.Start,r.gf,cQ l l.ae.length,dZ l r.ak r.ak.length,l.bM,l.cv,(r.ak.length:Int)⟩
theorem JU {l:bf} (ht:cV l.aI=true) (h:kS l) {i:Nat} (hi:i<l.ae.length):1≤ed l i∧ed l i≤500000000:=by
 have A:=Fs ht h.vi i
 have B:=h.Qx i hi
 have C:=h.head.1
 unfold ed oZ
 refine ⟨(Int.le_ediv_iff_mul_le om).2 om,?_⟩
 have:(1000*lQ l i+l.dJ-1)/l.dJ≤1000*lQ l i+l.dJ-1:=Int.ediv_le_self _ om
 omega
theorem N2 (l:bf) (s:aO):0≤(cK l s).Lo∧(cK l s).Hi≤86400000:=by
 have A:=g_ (p:=f_ (pA l s) s.Read) (n:=86400001)
 have B:=g_ (p:=fZ (pA l s) s.Read) (n:=86400001)
 unfold cK qa
 simp only
 omega
theorem ov {l:bf} {r:cE} (ht:cV l.aI=true) (h:kS l) (hr:ff l r):Hm (cr l r):=by
 have hh:=h.head
 unfold gi at hh
 refine ⟨?_,by simp [cr,jd,bR.n,ek],hr.time,fun x hx=>?_,fun t A p hp=>?_⟩
 ·show (cQ l l.ae.length).length≤6
  rw [ek]; omega
 ·obtain ⟨i,hi,rfl⟩:=List.mem_map.1 hx
  exact JU ht h (List.mem_range.1 hi)
 ·obtain ⟨b,hb,rfl⟩:=List.mem_map.1 A
  obtain ⟨k,hk,s,hs,⟨_,B⟩,rfl⟩:=rK.1 hp
  have C:=N2 l s
  have D:=hr.len
  simp only
  omega
noncomputable def eC (l:bf) (r:cE) (me:Int):Int:=if dx l=0 then (if ff l r then (if me=0 then (if ju (cr l r)=[] then 8 else 0) else me) else 51) else dx l
theorem n7 {l:bf} {r:cE} {me:Int} (h: ¬ dx l=0):eC l r me=dx l:=if_neg h
theorem iX {l:bf} {r:cE} {me:Int} (h:dx l=0) (h2: ¬ ff l r):eC l r me=51:=by unfold eC; rw [if_pos h,if_neg h2]
theorem qc {l:bf} {r:cE} {me:Int} (h:dx l=0) (h2:ff l r) (h3: ¬ me=0):eC l r me=me:=by unfold eC; rw [if_pos h,if_pos h2,if_neg h3]
theorem pt {l:bf} {r:cE} {me:Int} (h:dx l=0) (h2:ff l r) (h3:me=0) (h4:ju (cr l r)=[]):eC l r me=8:=by unfold eC; rw [if_pos h,if_pos h2,if_pos h3,if_pos h4]
theorem lM {l:bf} {r:cE} {me:Int} (h:dx l=0) (h2:ff l r) (h3:me=0) (h4: ¬ ju (cr l r)=[]):eC l r me=0:=by unfold eC; rw [if_pos h,if_pos h2,if_pos h3,if_neg h4]
theorem jM {l:bf} {r:cE} {me:Int} (h:eC l r me=0):dx l=0∧ff l r∧me=0∧ ¬ ju (cr l r)=[]:=by
 unfold eC at h
 split at h
 ·split at h
  ·split at h
   ·split at h
    ·omega
    ·exact ⟨asm,asm,asm,asm⟩
   ·omega
  ·omega
 ·omega
end
section
def v9 (l:List Int):Int:=(l.drop 1).foldl min (l.headD 0)
def Ee (l:List Int):Int:=(l.drop 1).foldl max (l.headD 0)
theorem B2: ∀ (l:List Int) (a:Int),(l.foldl min a=a∨l.foldl min a∈l)∧l.foldl min a≤a∧ ∀ x∈l,l.foldl min a≤x
 |[],a=>⟨.inl rfl,sm,sm⟩
 |y::l,a=>by
  obtain ⟨A,C,B⟩:=B2 l (min a y)
  simp only [List.foldl_cons]
  refine ⟨?_,om,?_⟩
  ·rcases A with A|A
   ·rw [A]
    rcases Int.le_total a y with q|q
    ·left; omega
    ·right; rw [show min a y=y by omega]; simp
   ·right; exact cT _ A
  ·intro x hx
   rcases List.mem_cons.1 hx with rfl|hx
   ·omega
   ·exact B x hx
theorem AN: ∀ (l:List Int) (a:Int),(l.foldl max a=a∨l.foldl max a∈l)∧a≤l.foldl max a∧ ∀ x∈l,x≤l.foldl max a
 |[],a=>⟨.inl rfl,sm,sm⟩
 |y::l,a=>by
  obtain ⟨A,C,B⟩:=AN l (max a y)
  simp only [List.foldl_cons]
  refine ⟨?_,om,?_⟩
  ·rcases A with A|A
   ·rw [A]
    rcases Int.le_total a y with q|q
    ·right; rw [show max a y=y by omega]; simp
    ·left; omega
   ·right; exact cT _ A
  ·intro x hx
   rcases List.mem_cons.1 hx with rfl|hx
   ·omega
   ·exact B x hx
theorem F3 {l:List Int} (h:l≠[]):v9 l∈l∧ ∀ x∈l,v9 l≤x:=by
 cases l with
 |nil=>exact absurd rfl h
 |cons y ys=>
  obtain ⟨A,B,C⟩:=B2 ys y
  refine ⟨?_,fun x hx=>?_⟩
  ·rcases A with A|A
   ·simp [v9,A]
   ·exact cT _ (by simpa [v9] using A)
  ·rcases List.mem_cons.1 hx with rfl|hx
   ·simpa [v9] using B
   ·simpa [v9] using C x hx
theorem N_ {l:List Int} (h:l≠[]):Ee l∈l∧ ∀ x∈l,x≤Ee l:=by
 cases l with
 |nil=>exact absurd rfl h
 |cons y ys=>
  obtain ⟨A,B,C⟩:=AN ys y
  refine ⟨?_,fun x hx=>?_⟩
  ·rcases A with A|A
   ·simp [Ee,A]
   ·exact cT _ (by simpa [Ee] using A)
  ·rcases List.mem_cons.1 hx with rfl|hx
   ·simpa [Ee] using B
   ·simpa [Ee] using C x hx
noncomputable def kX (l:bf) (r:cE):List Int:=if eC l r 0=0 then ju (cr l r) else []
theorem lx {l:bf} {r:cE} (h:eC l r 0=0):kX l r=ju (cr l r):=if_pos h
theorem uk {l:bf} {r:cE} (h: ¬ eC l r 0=0):kX l r=[]:=if_neg h
theorem tF {l:bf} {r:cE} (h:eC l r 0=0):kX l r≠[]:=by rw [lx h]; exact (jM h).2.2.2
noncomputable def EF (l:bf) (r:cE):Int:=if eC l r 0=0 then (if l.bH<v9 (kX l r) then 2 else if Ee (kX l r)≤l.bH then 0 else 1) else 0
noncomputable def jz (l:bf) (b:Int):Int:=if 0≤b∧b≤(l.ae.length:Int)-1 then 0 else 2
theorem wO {l:bf} {b:Int} (h:0≤b∧b≤(l.ae.length:Int)-1):jz l b=0:=if_pos h
theorem Ew {l:bf} {b:Int} (h:jz l b=0):0≤b∧b≤(l.ae.length:Int)-1:=by
 unfold jz at h
 split at h
 ·assumption
 ·omega
noncomputable def mh (l:bf) (r:cE) (b:Nat):aa:=uD (l3 (cr l r) b)
noncomputable def eO (l:bf) (r:cE) (b:Int):Int:=if eC l r (jz l b)=0 then (if mh l r b.toNat=mg then 6 else 0) else eC l r (jz l b)
noncomputable def eY (l:bf) (r:cE) (b:Int):aa:=if eO l r b=0 then mh l r b.toNat else dA
theorem ni {l:bf} {r:cE} {b:Int} (h: ¬ eC l r (jz l b)=0):eO l r b=eC l r (jz l b)∧eY l r b=dA:=by
 have e:eO l r b=eC l r (jz l b):=if_neg h
 exact ⟨e,by unfold eY; rw [if_neg (by rw [e]; exact h)]⟩
theorem qq {l:bf} {r:cE} {b:Nat} (h:eC l r (jz l b)=0) (h2:mh l r b=mg):eO l r b=6∧eY l r b=dA:=by
 have e:eO l r b=6:=by unfold eO; rw [if_pos h,Int.toNat_natCast,if_pos h2]
 exact ⟨e,by unfold eY; rw [if_neg (by rw [e]; omega)]⟩
theorem nU {l:bf} {r:cE} {b:Nat} (h:eC l r (jz l b)=0) (h2: ¬ mh l r b=mg):eO l r b=0∧eY l r b=mh l r b:=by
 have e:eO l r b=0:=by unfold eO; rw [if_pos h,Int.toNat_natCast,if_neg h2]
 exact ⟨e,by unfold eY; rw [if_pos e,Int.toNat_natCast]⟩
theorem KD {w:bR} (h:Hm w) {b:Nat} {q:Int×aa} (hq:q∈l3 w b):0≤q.2.Lo∧q.2.Lo≤q.2.Hi∧q.2.Hi≤86400000:=by
 have A:=mL hq
 obtain ⟨o,ho,p,hp,u,hu,e⟩:=g6.1 hq
 obtain ⟨_,_,rfl⟩:=ji.1 e
 have B:=h.opt ho
 simp only [jm] at A ⊢
 omega
theorem w9 {l:bf} {r:cE} {b:Int} (h:eO l r b=0):0≤(eY l r b).Lo∧(eY l r b).Lo≤(eY l r b).Hi∧(eY l r b).Hi≤86400000:=by
 have ho:eC l r (jz l b)=0:=by
  by_cases e:eC l r (jz l b)=0
  ·exact e
  ·rw [(ni e).1] at h; exact absurd h e
 obtain ⟨B,C,_⟩:=jM ho
 obtain ⟨ht,A⟩:=gE B
 have hw:=ov ht A C
 have hv:eY l r b=mh l r b.toNat:=by unfold eY; rw [if_pos h]
 have hn:mh l r b.toNat≠mg:=fun e=>by unfold eO at h; rw [if_pos ho,if_pos e] at h; omega
 have hh:=uz (l:=l3 (cr l r) b.toNat) fun q hq=>mL hq
 rw [hv]
 unfold mh at hn ⊢
 rcases hh with ⟨_,e⟩|hh
 ·exact absurd e hn
 ·obtain ⟨x,hx,ex⟩:=hh.lo
  obtain ⟨y,hy,ey⟩:=hh.hi
  have:=KD hw hx
  have:=KD hw hy
  have:=hh.le
  omega
noncomputable def zY (l:bf) (r:cE):aa:=if eO l r l.bH=0 then ⟨(eY l r l.bH).Lo-r.Start,(eY l r l.bH).Hi-r.Start⟩ else dA
theorem zx {l:bf} {r:cE} (h:eO l r l.bH=0):zY l r=⟨(eY l r l.bH).Lo-r.Start,(eY l r l.bH).Hi-r.Start⟩:=if_pos h
theorem Ef {l:bf} {r:cE} (h: ¬ eO l r l.bH=0):zY l r=dA:=if_neg h
theorem uK {l:bf} {r:cE} {b:Int} (h:eO l r b=0):ff l r:=by
 by_cases e:eC l r (jz l b)=0
 ·exact (jM e).2.1
 ·rw [(ni e).1] at h; exact absurd h e
theorem zh {k:List (Int×aa)} {h:aa} {q:Int×aa} {z:aa} (hh:j3 k h) (hq:q.2.Lo≤q.2.Hi) (hz:lY h q.2=z):j3 (k++[q]) z:=by subst hz; exact ur hh hq
end
section
set_option maxRecDepth 20000
def QY:an:=⟨1,⟨10000,10200⟩,⟨0,100⟩,⟨0,0⟩,0,0⟩
def xZ:au:=⟨100,[⟨0,⟨0,2⟩⟩,⟨100000,⟨5,6⟩⟩]⟩
def Qz (o:Int):bG:=⟨⟨0,⟨o,o⟩⟩,0⟩
def nI (f:Int):bf:=⟨[QY],2000,[xZ],[Qz 1000,Qz 4000,Qz 9000],1,f,1⟩
def mw:cE:=⟨10000,20000,[⟨0,10600⟩,⟨0,11000⟩,⟨1,12600⟩]⟩
theorem Ij:cV [QY]=true:=by decide
theorem v8:eX xZ:=by
 have hi: ∀ (i:Nat) (x:cG),xZ.bw[i]? =some x→i=0∧x=⟨0,⟨0,2⟩⟩∨i=1∧x=⟨100000,⟨5,6⟩⟩:=fun i x h=>by
  match i with
  |0=>left; simp [xZ] at h; exact ⟨rfl,h.symm⟩
  |1=>right; simp [xZ] at h; exact ⟨rfl,h.symm⟩
  |n+2=>simp [xZ] at h
 refine ⟨dc,dc,fun i x hx=>?_,fun i k x o hx hk ho=>?_⟩
 ·rcases hi i x hx with ⟨rfl,rfl⟩|⟨rfl,rfl⟩<;>(unfold fp; decide)
 ·rcases hi i x hx with ⟨rfl,rfl⟩|⟨rfl,rfl⟩
  ·omega
  ·rcases hi k o ho with ⟨rfl,rfl⟩|⟨rfl,rfl⟩
   ·unfold ng; decide
   ·omega
theorem Ao {o:Int} (h:0≤o∧o<10000):fq [QY] ⟨0,⟨o,o⟩⟩:=⟨sm,QY,rfl,by show o≤o∧0≤o∧o≤10000-1; omega⟩
theorem Nc {f:Int} (hf:0≤f∧f≤3):kS (nI f):=by
 refine ⟨?_,fun c hc=>?_,fun b hb=>?_,fun i hi=>?_⟩
 ·unfold gi; simp [nI]; omega
 ·simp [nI] at hc; subst hc; exact v8
 ·simp [nI] at hb
  rcases hb with rfl|rfl|rfl
  ·exact ⟨Ao om,by simp [Qz,nI]⟩
  ·exact ⟨Ao om,by simp [Qz,nI]⟩
  ·exact ⟨Ao om,by simp [Qz,nI]⟩
 ·have A:i<3:=hi
  have:i=0∨i=1∨i=2:=by omega
  rcases this with rfl|rfl|rfl
  ·show (1:Int)≤lQ (nI 0) 0; decide
  ·show (1:Int)≤lQ (nI 0) 1; decide
  ·show (1:Int)≤lQ (nI 0) 2; decide
def mH:bf:=nI 1
theorem ON:dx mH=0:=xJ Ij (Nc om)
theorem zr {r x:Int} (h0:0<x) (h1:x≤86400000) (hy:f_ xZ r x=true) (hn:f_ xZ r (x-1)=false):fj (f_ xZ r) 86400001=x:=
 yj om om hy fun z hz A=>by
  cases e:f_ xZ r z with
  |false=>rfl
  |true=>
   unfold f_ at e hn
   have:=(nM v8 hz (show z≤x-1 by omega) om).2
   have B:=of_decide_eq_true e
   have C:=of_decide_eq_false hn
   omega
theorem zM {r x:Int} (h0:0<x) (h1:x≤86400000) (hy:fZ xZ r x=true) (hn:fZ xZ r (x-1)=false):fj (fZ xZ r) 86400001=x:=
 yj om om hy fun z hz A=>by
  cases e:fZ xZ r z with
  |false=>rfl
  |true=>
   unfold fZ at e hn
   have:=(nM v8 hz (show z≤x-1 by omega) om).1
   have B:=of_decide_eq_true e
   have C:=of_decide_eq_false hn
   omega
theorem RU:qa xZ 10600=⟨10596,10602⟩:=by unfold qa; rw [zr (x:=10596) om om dc dc,zM (x:=10603) om om dc dc]; rfl
theorem SB:qa xZ 11000=⟨10996,11002⟩:=by unfold qa; rw [zr (x:=10996) om om dc dc,zM (x:=11003) om om dc dc]; rfl
theorem Rf:qa xZ 12600=⟨12596,12602⟩:=by unfold qa; rw [zr (x:=12596) om om dc dc,zM (x:=12603) om om dc dc]; rfl
def Sg (f:Int):bR:=⟨10000,20000,[500,1500,2500],[[(0,⟨10596,10602⟩),(1,⟨10996,11002⟩)],[(2,⟨12596,12602⟩)],[]],1,f,3⟩
theorem Rt (f:Int):cK (nI f) ⟨0,10600⟩=⟨10596,10602⟩:=RU
theorem Rd (f:Int):cK (nI f) ⟨0,11000⟩=⟨10996,11002⟩:=SB
theorem Rp (f:Int):cK (nI f) ⟨1,12600⟩=⟨12596,12602⟩:=Rf
theorem H9 (f:Int):dZ (nI f) mw.ak 3=[[(0,⟨10596,10602⟩),(1,⟨10996,11002⟩)],[(2,⟨12596,12602⟩)],[]]:=by
 have o: ∀ b:Nat,kD (nI f) mw.ak 3 b=(nc (nI f) mw.ak b 0).toList++((nc (nI f) mw.ak b 1).toList++(nc (nI f) mw.ak b 2).toList):=fun b=>by
  rw [kO,kO,kO]; simp [kD]
 have A: ∀ b:Nat,nc (nI f) mw.ak b 0=if (0:Int)=(b:Int) then some (0,⟨10596,10602⟩) else none:=fun b=>by
  show (if (0:Int)=(b:Int)∧(cK (nI f) ⟨0,10600⟩).Lo≤(cK (nI f) ⟨0,10600⟩).Hi then some ((0:Int),cK (nI f) ⟨0,10600⟩) else none)=_
  rw [Rt]; by_cases h:(0:Int)=(b:Int)
  ·rw [if_pos h,if_pos ⟨h,dc⟩]<;>rfl
  ·rw [if_neg h,if_neg fun q=>h q.1]
 have B: ∀ b:Nat,nc (nI f) mw.ak b 1=if (0:Int)=(b:Int) then some (1,⟨10996,11002⟩) else none:=fun b=>by
  show (if (0:Int)=(b:Int)∧(cK (nI f) ⟨0,11000⟩).Lo≤(cK (nI f) ⟨0,11000⟩).Hi then some ((1:Int),cK (nI f) ⟨0,11000⟩) else none)=_
  rw [Rd]; by_cases h:(0:Int)=(b:Int)
  ·rw [if_pos h,if_pos ⟨h,dc⟩]<;>rfl
  ·rw [if_neg h,if_neg fun q=>h q.1]
 have C: ∀ b:Nat,nc (nI f) mw.ak b 2=if (1:Int)=(b:Int) then some (2,⟨12596,12602⟩) else none:=fun b=>by
  show (if (1:Int)=(b:Int)∧(cK (nI f) ⟨1,12600⟩).Lo≤(cK (nI f) ⟨1,12600⟩).Hi then some ((2:Int),cK (nI f) ⟨1,12600⟩) else none)=_
  rw [Rp]; by_cases h:(1:Int)=(b:Int)
  ·rw [if_pos h,if_pos ⟨h,dc⟩]<;>rfl
  ·rw [if_neg h,if_neg fun q=>h q.1]
 show [kD (nI f) mw.ak 3 0,kD (nI f) mw.ak 3 1,kD (nI f) mw.ak 3 2]=_
 rw [o,o,o,A,A,A,B,B,B,C,C,C]
 rfl
theorem CO (f:Int):cr (nI f) mw=Sg f:=by
 unfold cr Sg
 rw [show mw.ak.length=3 from rfl,H9]
 rfl
theorem Nm (f:Int):ff (nI f) mw:=by
 refine ⟨dc,dc,fun i s hs=>?_⟩
 match i with
 |0=>simp [mw] at hs; subst hs; unfold j2 k7; simp [nI,mA]
 |1=>simp [mw] at hs; subst hs; unfold j2 k7; simp [nI,mA,mw]
 |2=>simp [mw] at hs; subst hs; unfold j2 k7; simp [nI,mA,mw]
 |n+3=>simp [mw] at hs
theorem JX:ju (cr mH mw)=[2,3]:=by rw [show cr mH mw=Sg 1 from CO 1]; decide
theorem Ir:eC mH mw 0=0:=lM ON (Nm 1) rfl (by rw [JX]; decide)
theorem Kz {b:Nat} (hb:b<3):eC mH mw (jz mH b)=0:=by rw [wO (by show 0≤(b:Int)∧(b:Int)≤3-1; omega)]; exact Ir
theorem Ms {b:Nat} {z:aa} (hb:b<3) (hz:uD (l3 (Sg 1) b)=z) (hn:z≠mg):eO mH mw b=0∧eY mH mw b=z:=by
 have e:mh mH mw b=z:=by unfold mh; rw [show cr mH mw=Sg 1 from CO 1]; exact hz
 have h:=nU (Kz hb) (by rw [e]; exact hn)
 exact ⟨h.1,h.2.trans e⟩
theorem wP:eO mH mw 1=0∧eY mH mw 1=⟨12596,12602⟩:=Ms (b:=1) om dc dc
theorem DK:eO mH mw mH.bH=0∧zY mH mw=⟨2596,2602⟩:=by
 refine ⟨wP.1,?_⟩
 rw [zx (l:=mH) (r:=mw) wP.1]
 rw [show eY mH mw mH.bH=⟨12596,12602⟩ from wP.2]
 rfl
theorem SL (f:Int) {a:OA} {c:Nat} (hc:2≤c):eB (nI f) [(a,c)]:=by
 refine ⟨by simp [nI],?_,by simp [nI],U,by simp [nI],fun k m a' hm ha=>?_⟩
 ·intro x hx; simp [nI] at hx; subst hx; simp [QY]
 ·match k with
  |0=>simp [nI] at hm ha; subst hm; subst ha; simp [xZ]; exact hc
  |n+1=>simp at ha
end
section
def my (l:bf):Prop:=(20<(l.aI.length:Int)∨8<(l.ai.length:Int)∨10<(l.ae.length:Int))∨ ∃ c∈l.ai,10<(c.bw.length:Int)
noncomputable instance (l:bf):Decidable (my l):=Classical.propDecidable _
/-- what is asked of a line that comes in -/
structure s9 (l:bf) (az:List RA):Prop where
 sf:l.aI.length≤9223372036854775807
 side: ∀ x∈l.aI,0≤x.iN∧x.iN≤255
 sh:l.ai.length≤9223372036854775807
 oq:az.length=l.ai.length
 se:l.ae.length≤9223372036854775807
 Qy: ∀ (k:Nat) m (a:RA),l.ai[k]? =some m→az[k]? =some a→m.bw.length≤a.2∧m.bw.length≤9223372036854775807
def zJ (l:bf) (i:Nat):Prop:= ∀ (j:Nat) c,j<i→l.ai[j]? =some c→(c.bw.length:Int)≤10
theorem II {l:bf} {i:Nat} (h: ¬ (20<(l.aI.length:Int))∧ ¬ (8<(l.ai.length:Int))∧ ¬ (10<(l.ae.length:Int))) (hi:l.ai.length≤i) (hs:zJ l i): ¬ my l:=by
 rintro (A|⟨c,hc,B⟩)
 ·omega
 ·obtain ⟨k,hk⟩:=List.getElem?_of_mem hc
  have:=hs k c (by have:=(List.getElem?_eq_some_iff.1 hk).1; omega) hk
  omega
theorem IN {l:bf} {i:Nat} {c:au} (hc:l.ai[i]? =some c) (h:10<(c.bw.length:Int)):my l:= .inr ⟨c,aU hc,h⟩
theorem lL {α:Type} {l:List α} {P:Nat→α→Prop} {i:Nat} {x:α} (h: ∀ (j:Nat) y,j<i→l[j]? =some y→P j y) (hx:l[i]? =some x) (hp:P i x): ∀ (j:Nat) y,j<i+1→l[j]? =some y→P j y:=fun j y hj hy=>by
 by_cases e:j=i
 ·subst e; rw [hx] at hy; cases hy; exact hp
 ·exact h j y om hy
theorem xE {α:Type} {l:List α} {P:Nat→α→Prop} {i:Nat} (hi:l.length≤i) (h: ∀ (j:Nat) y,j<i→l[j]? =some y→P j y): ∀ (j:Nat) y,l[j]? =some y→P j y:=fun j y hy=>h j y (by have:=(List.getElem?_eq_some_iff.1 hy).1; omega) hy
theorem vW {α:Type} {l:List α} {P:α→Prop} {i:Nat} (hi:l.length≤i) (h: ∀ (j:Nat) y,j<i→l[j]? =some y→P y): ∀ y∈l,P y:=fun y hy=>by
 obtain ⟨k,hk⟩:=List.getElem?_of_mem hy
 exact xE (P:=fun _ y=>P y) hi h k y hk
theorem Lz {l:bf} (h: ¬ my l):(l.aI.length:Int)≤20∧(l.ai.length:Int)≤8∧(l.ae.length:Int)≤10∧ ∀ c∈l.ai,(c.bw.length:Int)≤10:=by
 unfold my at h
 rw [not_or] at h
 refine ⟨om,om,om,fun c hc=>?_⟩
 have:=h.2
 rcases Int.lt_or_le 10 (c.bw.length:Int) with q|q
 ·exact absurd ⟨c,hc,q⟩ this
 ·exact q
theorem s9.small {l:bf} {az:List RA} (h:s9 l az) (hg: ¬ my l):eB l az:=by
 have A:=Lz hg
 exact ⟨om,h.side,om,h.oq,om,fun k m a hm ha=>⟨(h.Qy k m a hm ha).1,by have:=A.2.2.2 m (aU hm); omega⟩⟩
def EJ (c:au) (x:cG) (k:Nat):Prop:= ∀ (j:Nat) o,j<k→c.bw[j]? =some o→ng c x o
def th (c:au) (m:Nat):Prop:= ∀ (i:Nat) x,i<m→c.bw[i]? =some x→EJ c x i
theorem IF {c:au} {m:Nat} (h1:0≤c.dh∧c.dh≤1000) (h2:1≤c.bw.length∧c.bw.length≤5) (hs: ∀ (i:Nat) x,c.bw[i]? =some x→fp c i x) (hm:c.bw.length≤m) (hp:th c m):eX c:=
 ⟨h1,h2,hs,fun i k x o hx hk ho=>hp i x (by have:=(List.getElem?_eq_some_iff.1 hx).1; omega) hx k o hk ho⟩
theorem ED {c:au} {m k:Nat} (h:th c m) (hk: ∀ y,c.bw[m]? =some y→EJ c y k) (e:k=m):th c (m+1):=by
 subst e
 intro i x hi hx
 by_cases e:i=k
 ·subst e; exact hk x hx
 ·exact h i x om hx
noncomputable def kz (c:au) (at_:Int) (i:Nat):aa:=if i=0 then dA else gn c at_ i
theorem DM {c:au} {at_:Int} {i:Nat} (h:eX c) (hi:c.bw.length≤i):kz c at_ i=hP c at_:=by
 have:=h.len
 unfold kz; rw [if_neg om,nu hi]
theorem Ae {c:au} {at_:Int} {i:Nat} {x:cG} (h:eX c) (ha:0≤at_∧at_≤90000000) (hx:c.bw[i]? =some x) (hi:i=0):
 kz c at_ (i+1)=⟨max (x.ew.Lo-rI c at_ x) (x.ew.Lo-rI c at_ x),min (x.ew.Hi+rI c at_ x) (x.ew.Hi+rI c at_ x)⟩:=by
 subst hi
 have hb:=h.tO hx
 have ho:=uf h.ry ha hb.1
 unfold kz
 rw [if_neg om,jN hx]
 unfold lv gn
 simp only [List.take_zero,List.foldl_nil,aa.mk.injEq]
 omega
theorem Bl {c:au} {at_:Int} {i:Nat} {x:cG} (hx:c.bw[i]? =some x) (hi: ¬ i=0):kz c at_ (i+1)=⟨max (kz c at_ i).Lo (x.ew.Lo-rI c at_ x),min (kz c at_ i).Hi (x.ew.Hi+rI c at_ x)⟩:=by
 unfold kz
 rw [if_neg om,if_neg hi,jN hx]; rfl
def gZ (ts:List an) (n:Nat):List aa:=(List.range n).map fun k=>eE ts 0 k
theorem CG {ts:List an} {n:Nat}:gZ ts (n+1)=gZ ts n++[eE ts 0 n]:=by simp [gZ,List.range_succ]
theorem ob {ts:List an} {n:Nat}:(gZ ts n).length=n:=by simp [gZ]
theorem ph {ts:List an} {n k:Nat} {x:aa} (h:(gZ ts n)[k]? =some x):x=eE ts 0 k:=by
 unfold gZ at h
 rw [fy] at h
 cases hk:(List.range n)[k]? with
 |none=>simp [hk] at h
 |some v=>
  have:=List.getElem?_eq_some_iff.1 hk
  simp at this
  simp [hk] at h
  rw [← h,← this.2]
theorem Db {ts:List an} {a b:cM} (h:b.aY<a.aY):jK ts a b=nT (jK ts b a):=by
 unfold jK
 rw [if_pos h,if_neg om]
 unfold wM
 rw [Int.min_comm b.aY a.aY,Int.max_comm b.aY a.aY]
 unfold nT l_
 simp only [aa.mk.injEq]
 omega
theorem pX {ts:List an} {a b:cM} (h: ¬ b.aY<a.aY):jK ts a b=l_ (l_ (eE ts a.aY.toNat (b.aY-a.aY).toNat) b.mq) (nT a.mq):=by
 unfold jK wM
 rw [if_neg h,Int.min_eq_left om,Int.max_eq_right om]
end
section
def iu (m:List ax) (a:cS):List av:=rd a.1.1 m.length 7 (List.zipWith ax.cells m a.2)::aS ax.gW m a.2
structure Pd (h:List ax) (a:cS):Prop where
 len:h.length≤1000000
 oq:a.2.length=h.length
 sig: ∀ d∈h,d.cz.ak.length≤1000000
structure fm (r:cm) (az:List RA) (ha:List cS):Prop where
 line:eB r.ah az
 iP:r.aJ.length≤1000000
 draw:r.bB.length≤12
 iQ:r.ar.length≤1000000
 has:ha.length=r.ar.length
 oz: ∀ (k:Nat) h (a:cS),r.ar[k]? =some h→ha[k]? =some a→Pd h a
structure qW (r:cm) (az:List RA) (ha:List cS):Prop where
 line:s9 r.ah az
 iP:r.aJ.length≤9223372036854775807
 draw:r.bB.length≤9223372036854775807
 iQ:r.ar.length≤9223372036854775807
 has:ha.length=r.ar.length
 oz: ∀ (k:Nat) h (a:cS),r.ar[k]? =some h→ha[k]? =some a→h.length≤9223372036854775807∧a.2.length=h.length∧ ∀ d∈h,d.cz.ak.length≤9223372036854775807
def oH (h:List ax):Prop:=8<(h.length:Int)∨ ∃ d∈h,15<(d.cz.ak.length:Int)
def oo (r:cm):Prop:=(my r.ah∨8<(r.aJ.length:Int)∨8<(r.bB.length:Int)∨5<(r.ar.length:Int))∨ ∃ h∈r.ar,oH h
noncomputable instance (r:cm):Decidable (oo r):=Classical.propDecidable _
theorem MJ {r:cm} (h: ¬ oo r): ¬ my r.ah∧(r.aJ.length:Int)≤8∧(r.bB.length:Int)≤8∧(r.ar.length:Int)≤5∧ ∀ h∈r.ar,(h.length:Int)≤8∧ ∀ d∈h,(d.cz.ak.length:Int)≤15:=by
 unfold oo at h
 obtain ⟨A,B⟩:=not_or.1 h
 obtain ⟨C,E⟩:=not_or.1 A
 refine ⟨C,om,om,om,fun x hx=>?_⟩
 have hn: ¬ oH x:=fun q=>B ⟨x,hx,q⟩
 obtain ⟨F,D⟩:=not_or.1 hn
 refine ⟨om,fun d hd=>?_⟩
 rcases Int.lt_or_le 15 (d.cz.ak.length:Int) with q|q
 ·exact absurd ⟨d,hd,q⟩ D
 ·exact q
theorem qW.small {r:cm} {az:List RA} {ha:List cS} (h:qW r az ha) (hg: ¬ oo r):fm r az ha:=by
 have B:=MJ hg
 refine ⟨h.line.small B.1,om,om,om,h.has,fun k x a hx A=>?_⟩
 have C:=B.2.2.2.2 x (aU hx)
 have D:=h.oz k x a hx A
 exact ⟨om,D.2.1,fun d hd=>by have:=C.2 d hd; omega⟩
def l9 (r:cE):Prop:=r.Start=0∧r.gf=0∧(r.ak.length:Int)=0
instance (r:cE):Decidable (l9 r):=by unfold l9; infer_instance
def iE (s:aa):Prop:=1≤s.Lo∧s.Lo≤s.Hi∧s.Hi≤600000
instance (s:aa):Decidable (iE s):=by unfold iE; infer_instance
def hU (l:bf) (d:ax):Prop:=if d.Out=true then d.eK=false∧d.Time=dA∧l9 d.cz else if d.eK=true then iE d.Time∧l9 d.cz else eO l d.cz l.bH=0∧d.Time=dA
noncomputable instance (l:bf) (d:ax):Decidable (hU l d):=Classical.propDecidable _
noncomputable def dC (l:bf) (d:ax):aa:=if d.Out=true∨d.eK=true then d.Time else zY l d.cz
/-- which kind a descent is of -/
def od (d:ax):Int:=if d.Out=true then 0 else if d.eK=true then 1 else 2
theorem MA {w:bR} (h:Hm w): ∀ (b:Nat) (p:aC×Int),p∈fwd w b→w.Start≤p.2:=by
 have hl: ∀ b,0≤bU w b:=fun b=>by
  unfold bU
  cases e:w.pE[b]? with
  |none=>simp
  |some x=>have:=h.least x (aU e); simp; omega
 intro b
 induction b with
 |zero=>intro p hp; simp only [fwd,bW] at hp; subst hp; exact Int.le_refl _
 |succ b ih=>
  intro q hq
  obtain ⟨p,hp,o,ho,e⟩:=fM.1 hq
  unfold kF at e
  split at e
  ·simp only [Option.some.injEq] at e
   subst e
   have:=ih p hp
   have:=hl b
   simp only; omega
  ·cases e
theorem NN {l:bf} {r:cE} {b:Int} (h:eO l r b=0):r.Start≤(eY l r b).Lo:=by
 have ho:eC l r (jz l b)=0:=by
  by_cases e:eC l r (jz l b)=0
  ·exact e
  ·rw [(ni e).1] at h; exact absurd h e
 obtain ⟨B,C,_⟩:=jM ho
 obtain ⟨ht,A⟩:=gE B
 have hw:=ov ht A C
 have hv:eY l r b=mh l r b.toNat:=by unfold eY; rw [if_pos h]
 have hn:mh l r b.toNat≠mg:=fun e=>by unfold eO at h; rw [if_pos ho,if_pos e] at h; omega
 have hh:=uz (l:=l3 (cr l r) b.toNat) fun q hq=>mL hq
 rw [hv]
 unfold mh at hn ⊢
 rcases hh with ⟨_,e⟩|hh
 ·exact absurd e hn
 ·obtain ⟨x,hx,ex⟩:=hh.lo
  obtain ⟨o,ho,p,hp,u,hu,e⟩:=g6.1 hx
  obtain ⟨_,_,rfl⟩:=ji.1 e
  have D:r.Start≤p.2:=MA hw _ p hp
  have E:0≤bU (cr l r) b.toNat:=by
   unfold bU
   cases e:(cr l r).pE[b.toNat]? with
   |none=>simp
   |some x=>have:=hw.least x (aU e); simp; omega
  simp only [jm] at ex
  omega
theorem FO {l:bf} {d:ax} (h:hU l d):0≤(dC l d).Lo∧(dC l d).Lo≤(dC l d).Hi∧(dC l d).Hi≤86400000:=by
 unfold hU at h
 unfold dC
 split at h
 ·rename_i q; rw [if_pos (Or.inl q),h.2.1]; simp [dA]
 ·rename_i q
  split at h
  ·rename_i A
   rw [if_pos (Or.inr A)]
   obtain ⟨⟨B,C,D⟩,_⟩:=h
   omega
  ·rename_i A
   rw [if_neg (fun z=>z.elim q A),zx h.1]
   have B:=w9 h.1
   have C:=(uK h.1).time
   have D:=NN h.1
   simp only
   omega
theorem Fj {l:bf} {d:ax} (h:d.Out=true):dC l d=d.Time:=if_pos (Or.inl h)
theorem zF {l:bf} {d:ax} (h:d.Out=false∧d.eK=true):dC l d=d.Time:=if_pos (Or.inr h.2)
theorem vz {l:bf} {d:ax} (h:d.Out=false∧d.eK=false):dC l d=zY l d.cz:=if_neg (by simp [h])
theorem qy {l:bf} {d:ax} (h:d.Out=true):hU l d=(d.eK=false∧d.Time=dA∧l9 d.cz):=if_pos h
theorem sT {l:bf} {d:ax} (h:d.Out=false∧d.eK=true):hU l d=(iE d.Time∧l9 d.cz):=by unfold hU; rw [if_neg (by simp [h]),if_pos h.2]
theorem tn {l:bf} {d:ax} (h:d.Out=false∧d.eK=false):hU l d=(eO l d.cz l.bH=0∧d.Time=dA):=by unfold hU; rw [if_neg (by simp [h]),if_neg (by simp [h])]
structure eV (r:cm):Prop where
 num:1≤(r.aJ.length:Int)∧(r.aJ.length:Int)≤5
 wm:0≤r.dW∧r.dW≤5
 nh:1≤(r.ar.length:Int)∧(r.ar.length:Int)≤3
 ids: ∀ (i:Nat) x,r.aJ[i]? =some x→(0≤x∧x≤9999)∧ ∀ y,0<i→r.aJ[i-1]? =some y→y<x
 draw:r.bB.Perm ((List.range r.aJ.length).map fun (k:Nat)=>(k:Int))
 oz: ∀ h∈r.ar,h.length=r.aJ.length∧ ∀ d∈h,hU r.ah d
noncomputable instance (r:cm):Decidable (eV r):=Classical.propDecidable _
noncomputable def bX (r:cm):Int:=if dx r.ah=0 then (if eV r then 0 else 60) else dx r.ah
end
section
theorem nt {α β:Type} {f g:α→Option β}: ∀ {l:List α},(∀ x∈l,f x=g x)→l.filterMap f=l.filterMap g
 |[],_=>rfl
 |x::l,h=>by simp only [List.filterMap_cons,h x cj,nt (l:=l) (fun y hy=>h y (cT _ hy))]
abbrev g3:=List (Int×aa)
/-- the sum of a sled in some heats, the first ones -/
noncomputable def gI (l:bf) (hs:List (List ax)) (i:Nat):Nat→Option aa
 |0=>some ⟨0,0⟩
 |k+1=>match gI l hs i k,(hs[k]?).bind (·[i]?) with
  |some s,some d=>if d.Out=true then none else some ⟨s.Lo+(dC l d).Lo/10,s.Hi+(dC l d).Hi/10⟩
  |_,_=>none
noncomputable def eh (l:bf) (hs:List (List ax)) (n h i:Nat):g3:=(List.range n).filterMap fun q=>(gI l hs q (if q<i then h+1 else h)).map fun s=>((q:Int),s)
noncomputable def eI (r:cm) (k:Nat):g3:=(List.range r.aJ.length).filterMap fun q=>(gI r.ah r.ar q k).map fun s=>((q:Int),s)
noncomputable def aF (r:cm):g3:=eI r r.ar.length
section
variable {l:bf} {hs:List (List ax)} {n h i q:Nat} {s:aa} {d:ax}
theorem Bh:eh l hs n h 0=(List.range n).filterMap fun q=>(gI l hs q h).map fun s=>((q:Int),s):=by
 unfold eh
 apply nt
 intro q _
 rw [if_neg (Nat.not_lt_zero _)]
theorem Md:eh l hs n h n=eh l hs n (h+1) 0:=by
 rw [Bh]
 unfold eh
 apply nt
 intro q hq
 rw [if_pos (List.mem_range.1 hq)]
theorem Gd {x:List ax} (hx:hs[h]? =some x) (hd:x[i]? =some d) (ho:d.Out=true):gI l hs i (h+1)=none:=by
 unfold gI
 rw [hx]
 simp only [Option.bind_some,hd]
 cases gI l hs i h with
 |none=>rfl
 |some s=>simp [ho]
theorem DE (h0:gI l hs i h=none):gI l hs i (h+1)=none:=by unfold gI; rw [h0]
theorem Ex {x:List ax} (hx:hs[h]? =some x) (hd:x[i]? =some d) (ho: ¬ d.Out=true) (hs0:gI l hs i h=some s):gI l hs i (h+1)=some ⟨s.Lo+(dC l d).Lo/10,s.Hi+(dC l d).Hi/10⟩:=by
 unfold gI
 rw [hx,hs0]
 simp only [Option.bind_some,hd,if_neg ho]
end
section
variable {l:bf} {hs:List (List ax)} {n h i q:Nat} {s t:aa}
theorem Qv {K β:Type} [DecidableEq K] {L Y:List (K×β)} {t:K}:(L++Y).lookup t=match L.lookup t with |some v=>some v|none=>Y.lookup t:=by
 induction L with
 |nil=>rfl
 |cons p L ih=>
  obtain ⟨k,u⟩:=p
  by_cases e:t==k
  ·simp [List.lookup,e]
  ·have:(t==k)=false:=by simpa using e
   simp only [List.cons_append,List.lookup,this,ih]
theorem qL {f:Nat→Option aa}: ∀ (n i:Nat),((List.range n).filterMap fun q=>(f q).map fun s=>((q:Int),s)).lookup (i:Int)=if i<n then f i else none
 |0,i=>by simp
 |n+1,i=>by
  rw [List.range_succ,List.filterMap_append,Qv,qL n i]
  by_cases c:i<n
  ·rw [if_pos c,if_pos om]
   cases e:f i with
   |some s=>rfl
   |none=>
    simp only
    cases e2:f n with
    |none=>simp [e2]
    |some u=>
     have:((i:Int)==(n:Int))=false:=by simp only [beq_eq_false_iff_ne,ne_eq]; omega
     simp [e2,List.lookup,this]
  ·rw [if_neg c]
   simp only
   by_cases A:i=n
   ·subst A
    rw [if_pos om]
    cases e2:f i with
    |none=>simp [e2]
    |some u=>simp [e2]
   ·rw [if_neg om]
    have:((i:Int)==(n:Int))=false:=by simp only [beq_eq_false_iff_ne,ne_eq]; omega
    cases e2:f n with
    |none=>simp [e2]
    |some u=>simp [e2,List.lookup,this]
theorem wx:(eh l hs n h i).lookup (q:Int)=if q<n then gI l hs q (if q<i then h+1 else h) else none:=qL n q
theorem PI {f g:Nat→Option aa} {n i:Nat} (hi:i<n) {s:aa} (hf:(f i).isSome=true) (hg:g i=some s) (hfg: ∀ q,q≠i→f q=g q):eT ((List.range n).filterMap fun q=>(f q).map fun s=>((q:Int),s)) (i:Int) s=(List.range n).filterMap fun q=>(g q).map fun s=>((q:Int),s):=by
 unfold eT
 rw [if_pos (by rw [qL,if_pos hi]; exact hf),List.map_filterMap]
 apply nt
 intro q _
 by_cases e:q=i
 ·subst e
  obtain ⟨u,hu⟩:=Option.isSome_iff_exists.1 hf
  rw [hu,hg]; simp
 ·rw [hfg q e]
  cases g q with
  |none=>rfl
  |some u=>
   have: ¬ ((q:Int)=(i:Int)):=by omega
   simp [this]
theorem Qa {f g:Nat→Option aa} {n i:Nat} (hg:g i=none) (hfg: ∀ q,q≠i→f q=g q):cD ((List.range n).filterMap fun q=>(f q).map fun s=>((q:Int),s)) (i:Int)=(List.range n).filterMap fun q=>(g q).map fun s=>((q:Int),s):=by
 unfold cD
 rw [List.filter_filterMap]
 apply nt
 intro q _
 by_cases e:q=i
 ·subst e
  rw [hg]
  cases f q with
  |none=>rfl
  |some u=>simp
 ·rw [hfg q e]
  cases g q with
  |none=>rfl
  |some u=>
   have: ¬ ((q:Int)=(i:Int)):=by omega
   simp [this]
theorem N7 (hi:i<n) (h0:(gI l hs i h).isSome=true) (h1:gI l hs i (h+1)=some s):eT (eh l hs n h i) (i:Int) s=eh l hs n h (i+1):=by
 unfold eh
 refine PI hi (by rw [if_neg (Nat.lt_irrefl i)]; exact h0) (by rw [if_pos (Nat.lt_succ_self i)]; exact h1) fun q hq=>?_
 by_cases c:q<i
 ·rw [if_pos c,if_pos om]
 ·rw [if_neg c,if_neg om]
theorem E2 (h1:gI l hs i (h+1)=none):cD (eh l hs n h i) (i:Int)=eh l hs n h (i+1):=by
 unfold eh
 refine Qa (by rw [if_pos (Nat.lt_succ_self i)]; exact h1) fun q hq=>?_
 by_cases c:q<i
 ·rw [if_pos c,if_pos om]
 ·rw [if_neg c,if_neg om]
end
def mJ (m:g3) (i:Int):g3:=m.filter fun p=> !decide (p.1=i)
def gH (m:g3) (i n:Int):Nat:=(mJ m i).countP fun p=>decide (p.2.Hi<n)
def jo (m:g3) (i n:Int):Nat:=(mJ m i).countP fun p=>decide (p.2.Lo<n)
def jx (m:g3) (i:Int) (own:aa):List Int:=own.Lo::((mJ m i).flatMap fun p=>[p.2.Lo+1,p.2.Hi+1]).filter fun n=>decide (own.Lo≤n∧n≤own.Hi)
def rZ (m:g3) (i:Int) (own:aa) (k:Int):Prop:= ∃ n∈jx m i own,(gH m i n:Int)+1≤k∧k≤(jo m i n:Int)+1
noncomputable instance (m:g3) (i:Int) (own:aa) (k:Int):Decidable (rZ m i own k):=Classical.propDecidable _
noncomputable def db (m:g3) (i:Int) (own:aa):List Int:=((List.range m.length).map fun (k:Nat)=>(k:Int)+1).filter fun k=>decide (rZ m i own k)
section
variable {m:g3} {i:Int} {own:aa}
theorem F5 {a b:Int} (h:a≤b):gH m i a≤gH m i b:=List.countP_mono_left fun p _ q=>dw (by have:=of_decide_eq_true q; omega)
theorem H7 {a b:Int} (h:a≤b):jo m i a≤jo m i b:=List.countP_mono_left fun p _ q=>dw (by have:=of_decide_eq_true q; omega)
/-- what a point stands for -/
theorem Ic {x:Int} (h1:own.Lo≤x) (h2:x≤own.Hi): ∃ n∈jx m i own,n≤x∧gH m i n=gH m i x∧jo m i n=jo m i x:=by
 -- the greatest point that is no greater
 have key: ∀ (d:Nat) (x:Int),own.Lo≤x→x≤own.Hi→(x-own.Lo).toNat=d→ ∃ n∈jx m i own,n≤x∧gH m i n=gH m i x∧jo m i n=jo m i x:=by
  intro d
  induction d with
  |zero=>
   intro x h1 h2 hd
   have:x=own.Lo:=by omega
   exact ⟨own.Lo,cj ..,om,by rw [this],by rw [this]⟩
  |succ d ih=>
   intro x h1 h2 hd
   by_cases c:x∈jx m i own
   ·exact ⟨x,c,Int.le_refl _,U,U⟩
   ·obtain ⟨n,hn,D,B,C⟩:=ih (x-1) om om om
    have A: ∀ p∈mJ m i,p.2.Lo+1≠x∧p.2.Hi+1≠x:=fun p hp=>by
     constructor<;>intro e<;>apply c<;>refine cT _ (List.mem_filter.2 ⟨List.mem_flatMap.2 ⟨p,hp,by rw [← e]; simp⟩,dw ⟨h1,h2⟩⟩)
    refine ⟨n,hn,om,?_,?_⟩
    ·rw [B]
     unfold gH
     apply List.countP_congr
     intro p hp
     have:=(A p hp).2
     rw [decide_eq_true_eq,decide_eq_true_eq]
     omega
    ·rw [C]
     unfold jo
     apply List.countP_congr
     intro p hp
     have:=(A p hp).1
     rw [decide_eq_true_eq,decide_eq_true_eq]
     omega
 exact key _ x h1 h2 U
theorem KV {n:Int} (ho:own.Lo≤own.Hi) (h:n∈jx m i own):own.Lo≤n∧n≤own.Hi:=by
 rcases List.mem_cons.1 h with rfl|h
 ·omega
 ·exact of_decide_eq_true (List.mem_filter.1 h).2
/-- a rank comes about at some sum -/
theorem qv (ho:own.Lo≤own.Hi) {k:Int}:rZ m i own k↔ ∃ x,own.Lo≤x∧x≤own.Hi∧(gH m i x:Int)+1≤k∧k≤(jo m i x:Int)+1:=by
 constructor
 ·rintro ⟨n,hn,A,B⟩
  have:=KV ho hn
  exact ⟨n,this.1,this.2,A,B⟩
 ·rintro ⟨x,A,B,E,F⟩
  obtain ⟨n,hn,_,C,D⟩:=Ic (m:=m) (i:=i) A B
  exact ⟨n,hn,by rw [C]; exact E,by rw [D]; exact F⟩
theorem Lg (hi:m.lookup i≠none) {x:Int}:jo m i x+1≤m.length:=by
 unfold jo
 refine Nat.lt_of_le_of_lt List.countP_le_length ?_
 unfold mJ
 obtain ⟨v,hv⟩:=Option.ne_none_iff_exists'.1 hi
 have hm: ∃ p∈m,p.1=i:=by
  clear hi
  induction m with
  |nil=>simp at hv
  |cons p m ih=>
   obtain ⟨a,b⟩:=p
   by_cases e:i=a
   ·exact ⟨_,cj ..,e.symm⟩
   ·have:(i==a)=false:=by simpa using e
    simp only [List.lookup,this] at hv
    obtain ⟨p,hp,e⟩:=ih hv
    exact ⟨p,cT _ hp,e⟩
 obtain ⟨p,hp,e⟩:=hm
 refine Nat.lt_of_le_of_ne (List.length_filter_le _ _) fun q=>?_
 have:=(List.filter_eq_self (p:=fun p:Int×aa=> !decide (p.1=i))).1 (List.filter_sublist.eq_of_length q) p hp
 simp [e] at this
theorem qD (hi:m.lookup i≠none) {k:Int}:k∈db m i own↔rZ m i own k:=by
 unfold db
 rw [List.mem_filter,sL,decide_eq_true_eq]
 constructor
 ·rintro ⟨_,h⟩; exact h
 ·intro h
  refine ⟨?_,h⟩
  obtain ⟨n,_,A,B⟩:=h
  have:=Lg hi (x:=n)
  exact ⟨(k-1).toNat,List.mem_range.2 om,om⟩
end
end
section
def qi (l:List Int):List (List Value):=l.map fun x=>[vI x]
theorem sP {l:List Int}:(qi l).length=l.length:=by simp [qi]
theorem Hf {l:List Int} {k:Nat} {x:Int} (h:l[k]? =some x):(qi l)[k]? =some [vI x]:=by simp [qi,h]
theorem Hv {l:List Int} {k:Nat} {x:List Value} (h:(qi l)[k]? =some x): ∃ y,l[k]? =some y∧x=[vI y]:=by
 simp only [qi,fy,Option.map_eq_some_iff] at h
 obtain ⟨y,hy,rfl⟩:=h
 exact ⟨y,hy,U⟩
theorem DY {l:List Int}: ∀ x∈qi l,x.length=1:=fun x hx=>by
 simp only [qi,sL] at hx
 obtain ⟨y,_,rfl⟩:=hx
 rfl
theorem x8 {l:List Int}:l.take (qi l).length=l:=by rw [sP,List.take_of_length_le (Nat.le_refl _)]
theorem lu {l:List Int} {k:Nat} {x:Int} (h:l[k]? =some x):l.take (k+1)=l.take k++[x]:=by
 rw [List.take_add_one,h]; rfl
def di (l:List Int):List Int:=l.mergeSort fun a b=>decide (a≤b)
theorem fE {l:List Int}:(di l).Perm l:=List.mergeSort_perm _ _
theorem kZ {l:List Int}:(di l).Pairwise (· ≤ ·):=by
 have:=List.pairwise_mergeSort (le:=fun (a b:Int)=>decide (a≤b)) (fun a b c A B=>by simp at A B ⊢; omega) (fun a b=>by simp; omega) l
 exact this.imp fun h=>by simpa using h
@[simp] theorem gp {l:List Int}:(di l).length=l.length:=fE.length_eq
theorem pV {l m:List Int} (h1:m.Perm l) (h2:m.Pairwise (· ≤ ·)):m=di l:=rm (h1.trans fE.symm) h2 kZ
end
section
open Go.RowKit
def sC (s:aN):List Value:=[vS s.a s.n s.c]
theorem yP: ∀ s,(sC s).length=1:=fun s=>rfl
theorem KS (l:List aN): ∀ v∈(l.map sC).flatten,v.oneCell'=true:=lZ (fun s=>rfl) l
def B_ (l:List aa) (a:RA):aN:=⟨a.1,l.length,a.2⟩
def DD (l:List aa) (a:RA):List Value:=[vS a.1 l.length a.2]
def LY (l:List aa) (a:RA):List av:=[rd a.1 l.length 2 (l.map aa.cells)]
def CW (l:List aa) (a:RA):List av:=[own a.1 a.2 JS 2 (l.map aa.cells)]
theorem yv {ls:List (List aa)} {az:List RA}:(List.zipWith B_ ls az).map sC=List.zipWith DD ls az:=by
 rw [List.map_zipWith]; rfl
theorem tp: ∀ (m:List aa) (a:RA) (w:World),(∀ X∈CW m a,X.holds w)→ ∀ X∈LY m a,X.holds w:=fun m a w h X hX=>by
 simp only [LY,bW] at hX
 subst hX
 have:=mZ (h _ (List.mem_singleton.2 rfl))
 simpa using this
theorem wh {l:List (List aa)} {bz:List RA}:(bq (aS CW l bz)).wr=true:=by
 show (aS CW l bz).all (·.wr)=true
 rw [e_]
 intro X hX
 obtain ⟨k,m,a,_,_,h⟩:=jH hX
 simp only [CW,bW] at h
 subst h; rfl
theorem mF {ls:List (List aa)} {az:List RA} (h:az.length=ls.length):(List.zipWith DD ls az).length=ls.length:=by simp [h]
noncomputable def gu (r:cm) (i:Nat):List (List aa):=(r.ar.take i).map fun h=>h.map (dC r.ah)
noncomputable def cR (r:cm):List (List aa):=gu r r.ar.length
section
variable {r:cm} {i:Nat} {h:List ax} {tz:List RA} {a:RA}
theorem uV (hh:r.ar[i]? =some h):gu r (i+1)=gu r i++[h.map (dC r.ah)]:=by unfold gu; rw [List.take_add_one,hh,List.map_append]; rfl
theorem kB (hi:i≤r.ar.length):(gu r i).length=i:=by unfold gu; rw [List.length_map,List.length_take]; omega
theorem dG:(cR r).length=r.ar.length:=kB (Nat.le_refl _)
theorem DA (hh:r.ar[i]? =some h):(cR r)[i]? =some (h.map (dC r.ah)):=by
 unfold cR gu
 rw [List.take_length,fy,hh]; rfl
theorem ym {m:List aa} (hh:r.ar[i]? =some h) (hm:(cR r)[i]? =some m):m=h.map (dC r.ah):=by
 rw [DA hh] at hm
 exact (Option.some.inj hm).symm
theorem tj (hh:r.ar[i]? =some h) (hl:tz.length=i):List.zipWith B_ (gu r (i+1)) (tz++[a])=List.zipWith B_ (gu r i) tz++[B_ (h.map (dC r.ah)) a]:=by
 have hi:=(List.getElem?_eq_some_iff.1 hh).1
 rw [uV hh,List.zipWith_append (by rw [kB om,hl])]
 rfl
theorem Cz (hh:r.ar[i]? =some h) (hl:tz.length=i):aS CW (gu r i) tz++[own a.1 a.2 JS 2 ((h.map (dC r.ah)).map aa.cells)]=aS CW (gu r (i+1)) (tz++[a]):=by
 have hi:=(List.getElem?_eq_some_iff.1 hh).1
 rw [uV hh,jD (by rw [kB om,hl])]
 simp [aS,CW]
end
theorem yd {lo hi:Int} {l:List Int}:pC lo hi l=true↔ ∀ x∈l,lo≤x∧x≤hi:=by
 unfold pC
 rw [Bool.not_eq_true',List.any_eq_false]
 constructor
 ·intro h x hx; have:=h x hx; simp only [decide_eq_true_eq] at this; omega
 ·intro h x hx; have:=h x hx; simp only [decide_eq_true_eq]; omega
abbrev GW (n:Nat):List Int:=(List.range n).map fun (k:Nat)=>(k:Int)
theorem vQ (n:Nat):(GW n).Pairwise (· ≤ ·):=by
 unfold GW
 rw [List.pairwise_map]
 exact List.pairwise_lt_range.imp fun h=>by omega
theorem u6 {l:List Int} {n:Nat} (h:l.Perm (GW n)):di l=GW n:=(pV h.symm (vQ n)).symm
theorem G0 {l:List Int} {n:Nat} (hl:l.length=n) (h: ∀ j,j<n→ ∀ x,(di l)[j]? =some x→x=(j:Int)):l.Perm (GW n):=by
 have e:di l=GW n:=by
  apply List.ext_getElem
  ·simp [hl]
  ·intro j A B
   have C:j<n:=by simpa using B
   have:=h j C _ (e8 A)
   simpa using this
 rw [← e]; exact fE.symm
def qQ (r:cm) (i:Nat):Prop:= ∀ j,j<i→(∀ x,(di r.bB)[j]? =some x→x=(j:Int))∧ ∀ x y,r.aJ[j]? =some x→0<j→r.aJ[j-1]? =some y→y<x
def DH (r:cm) (h:List ax):Prop:=h.length=r.aJ.length∧ ∀ d∈h,hU r.ah d
def jX (r:cm) (i:Nat):Prop:= ∀ (j:Nat) h,j<i→r.ar[j]? =some h→DH r h
def n8 (l:bf) (h:List ax) (k:Nat):Prop:= ∀ (j:Nat) d,j<k→h[j]? =some d→hU l d
section
variable {r:cm} {i:Nat}
theorem DV:qQ r 0:=fun j hj=>absurd hj (Nat.not_lt_zero _)
theorem wB {x:Int} (h:qQ r i) (hd:(di r.bB)[i]? =some x) (e:x=(i:Int)) (hs: ∀ x y,r.aJ[i]? =some x→0<i→r.aJ[i-1]? =some y→y<x):qQ r (i+1):=fun j hj=>by
 rcases Nat.lt_or_ge j i with q|q
 ·exact h j q
 ·obtain rfl:j=i:=by omega
  exact ⟨fun y hy=>by rw [hd] at hy; cases hy; exact e,hs⟩
theorem xR:jX r 0:=fun j h hj=>absurd hj (Nat.not_lt_zero _)
theorem xx {h:List ax} (hh:jX r i) (hx:r.ar[i]? =some h) (ho:DH r h):jX r (i+1):=fun j y hj hy=>by
 rcases Nat.lt_or_ge j i with q|q
 ·exact hh j y q hy
 ·obtain rfl:j=i:=by omega
  rw [hx] at hy; cases hy; exact ho
theorem u3 {l:bf} {h:List ax}:n8 l h 0:=fun j d hj=>absurd hj (Nat.not_lt_zero _)
theorem uT {l:bf} {h:List ax} {d:ax} (ht:n8 l h i) (hx:h[i]? =some d) (ho:hU l d):n8 l h (i+1):=fun j y hj hy=>by
 rcases Nat.lt_or_ge j i with q|q
 ·exact ht j y q hy
 ·obtain rfl:j=i:=by omega
  rw [hx] at hy; cases hy; exact ho
theorem Fp {h:List ax} (hl:h.length=r.aJ.length) (ht:n8 r.ah h i) (hi:h.length≤i):DH r h:=⟨hl,fun d hd=>by
 obtain ⟨j,hj⟩:=List.getElem?_of_mem hd
 exact ht j d (by have:=(List.getElem?_eq_some_iff.1 hj).1; omega) hj⟩
theorem KN {n:Nat} (hn:n=r.aJ.length) (h1:1≤(r.aJ.length:Int)∧(r.aJ.length:Int)≤5) (h2:r.bB.length=r.aJ.length) (h3:0≤r.dW∧r.dW≤5) (h4:1≤(r.ar.length:Int)∧(r.ar.length:Int)≤3) (h5:pC 0 9999 r.aJ=true)
 (h6:qQ r n) (h7:jX r i) (hi:r.ar.length≤i):eV r:=by
 subst hn
 refine ⟨h1,h3,h4,fun k x hx=>⟨yd.1 h5 x (aU hx),fun y hk hy=>?_⟩,G0 h2 fun j hj=>(h6 j hj).1,fun h hh=>?_⟩
 ·exact (h6 k (List.getElem?_eq_some_iff.1 hx).1).2 x y hx hk hy
 ·obtain ⟨j,hj⟩:=List.getElem?_of_mem hh
  exact h7 j h (by have:=(List.getElem?_eq_some_iff.1 hj).1; omega) hj
theorem eV.x5 (h:eV r):r.bB.length=r.aJ.length:=by have:=h.draw.length_eq; simpa using this
theorem eV.ins (h:eV r):pC 0 9999 r.aJ=true:=yd.2 fun x hx=>by
 obtain ⟨j,hj⟩:=List.getElem?_of_mem hx
 exact (h.ids j x hj).1
theorem eV.drawn (h:eV r) {x:Int} (hx:(di r.bB)[i]? =some x):x=(i:Int):=by
 rw [u6 h.draw] at hx
 have hi:=(List.getElem?_eq_some_iff.1 hx).1
 simp at hi
 rw [fy,List.getElem?_range hi] at hx
 exact (Option.some.inj hx).symm
theorem eV.Ag (h:eV r):jX r i:=fun j x _ hx=>h.oz x (aU hx)
theorem yg (h: ¬ dx r.ah=0):bX r=dx r.ah:=if_neg h
theorem kl (h:dx r.ah=0) (hn: ¬ eV r):bX r=60:=by unfold bX; rw [if_pos h,if_neg hn]
theorem AJ (h:dx r.ah=0) (hn:eV r):bX r=0:=by unfold bX; rw [if_pos h,if_pos hn]
theorem jk (h:bX r=0):dx r.ah=0∧eV r:=by
 unfold bX at h
 split at h
 ·split at h
  ·exact ⟨asm,asm⟩
  ·cases h
 ·exact absurd h asm
end
section
variable {r:cm} {k i n h:Nat} {s:aa} {l:bf} {hs:List (List ax)}
theorem z7: ∀ {k:Nat} {s:aa},jX r k→k≤r.ar.length→gI r.ah r.ar i k=some s→0≤s.Lo∧s.Lo≤s.Hi∧s.Hi≤8640000*(k:Int)
 |0,s,_,_,h=>by
  simp only [gI,Option.some.injEq] at h
  subst h; simp
 |k+1,s,hh,hk,h=>by
  unfold gI at h
  split at h
  ·rename_i u d hu hd
   split at h
   ·cases h
   ·cases h
    have A:=z7 (fun j x hj hx=>hh j x om hx) om hu
    obtain ⟨x,hx,hd⟩:=Option.bind_eq_some_iff.1 hd
    have B:=FO ((hh k x om hx).2 d (aU hd))
    simp only
    push_cast
    omega
  ·cases h
theorem NI:eT (eh l hs i 0 0) (i:Int) ⟨0,0⟩=eh l hs (i+1) 0 0:=by
 have A:(eh l hs i 0 0).lookup (i:Int)=none:=by rw [wx,if_neg (Nat.lt_irrefl i)]
 unfold eT
 rw [A]
 simp only [Option.isSome_none,Bool.false_eq_true,if_false]
 unfold eh
 rw [List.range_succ,List.filterMap_append]
 simp [gI]
theorem K6 (hi:i<n):(eh l hs n h i).lookup (i:Int)=gI l hs i h:=by rw [wx,if_pos hi,if_neg (Nat.lt_irrefl i)]
theorem Km {α β:Type} {f:α→β} {tr:List β} {ht:List α} {x:β} {d:α} (e:tr=ht.map f) (hx:tr[i]? =some x) (hd:ht[i]? =some d):x=f d:=by
 rw [e,fy,hd] at hx
 exact (Option.some.inj hx).symm
theorem Mz:eh r.ah r.ar r.aJ.length h 0=eI r h:=Bh
end
end
section
def ve (key:Int→Int) (l:List Int) (x:Int):List Int:=l.takeWhile (fun y=>decide (key y≤key x))++x::l.dropWhile (fun y=>decide (key y≤key x))
def eA (key:Int→Int) (l:List Int):List Int:=l.foldl (ve key) []
def Dt (key:Int→Int) (l:List Int):Prop:=l.Pairwise fun a b=>key a≤key b
section
variable {key:Int→Int} {l A B D:List Int} {x u v:Int} {i j:Nat}
theorem Ho:(ve key l x).Perm (x::l):=by
 unfold ve
 refine List.perm_middle.trans ?_
 rw [List.takeWhile_append_dropWhile]
theorem Oz (hA: ∀ y∈A,key y≤key x) (hB: ∀ y∈B,key x<key y):(A++B).takeWhile (fun y=>decide (key y≤key x))=A∧(A++B).dropWhile (fun y=>decide (key y≤key x))=B:=by
 induction A with
 |nil=>
  cases B with
  |nil=>simp
  |cons b B=>
   have h:=hB b cj
   have:decide (key b≤key x)=false:=cq om
   rw [List.nil_append,List.takeWhile_cons,List.dropWhile_cons,this]
   exact ⟨U,U⟩
 |cons a A ih=>
  have h:=ih fun y hy=>hA y (cT _ hy)
  have:decide (key a≤key x)=true:=dw (hA a cj)
  simp only [List.cons_append,List.takeWhile,List.dropWhile,this]
  exact ⟨by rw [h.1],h.2⟩
theorem xh (hA: ∀ y∈A,key y≤key x) (hB: ∀ y∈B,key x<key y):ve key (A++B) x=A++x::B:=by
 unfold ve
 rw [(Oz hA hB).1,(Oz hA hB).2]
theorem CD (x:Int): ∀ {l:List Int},Dt key l→ ∃ A B,l=A++B∧(∀ y∈A,key y≤key x)∧ ∀ y∈B,key x<key y
 |[],_=>⟨[],[],rfl,(fun y h=>by cases h),fun y h=>by cases h⟩
 |a::l,h=>by
  unfold Dt at h
  rw [List.pairwise_cons] at h
  by_cases c:key a≤key x
  ·obtain ⟨A,B,e,hA,hB⟩:=CD x (l:=l) h.2
   refine ⟨a::A,B,by rw [e]; rfl,fun y hy=>?_,hB⟩
   rcases List.mem_cons.1 hy with rfl|hy
   ·exact c
   ·exact hA y hy
  ·refine ⟨[],a::l,rfl,fun y hy=>(by cases hy),fun y hy=>?_⟩
   rcases List.mem_cons.1 hy with rfl|hy
   ·omega
   ·have:=h.1 y hy; omega
theorem Ma (h:Dt key l):Dt key (ve key l x):=by
 obtain ⟨A,B,rfl,hA,hB⟩:=CD x h
 rw [xh hA hB]
 unfold Dt at h ⊢
 rw [List.pairwise_append] at h ⊢
 refine ⟨h.1,List.pairwise_cons.2 ⟨fun y hy=>by have:=hB y hy; omega,h.2.1⟩,fun y hy z hz=>?_⟩
 rcases List.mem_cons.1 hz with rfl|hz
 ·exact hA y hy
 ·exact h.2.2 y hy z hz
theorem Bm:eA key (l++[x])=ve key (eA key l) x:=by unfold eA; rw [List.foldl_append]; rfl
theorem BL (h:l[i]? =some x):eA key (l.take (i+1))=ve key (eA key (l.take i)) x:=by rw [lu h,Bm]
theorem wG: ∀ {l m:List Int},(l.foldl (ve key) m).Perm (m++l)
 |[],m=>by simp
 |x::l,m=>(wG (l:=l) (m:=ve key m x)).trans (((Ho).append_right l).trans (by
  rw [List.cons_append]
  exact List.perm_middle.symm))
theorem qe:(eA key l).Perm l:=by simpa [eA] using wG (key:=key) (l:=l) (m:=[])
theorem CI: ∀ {l m:List Int},Dt key m→Dt key (l.foldl (ve key) m)
 |[],m,h=>h
 |x::l,m,h=>CI (l:=l) (Ma h)
theorem tR:Dt key (eA key l):=CI List.Pairwise.nil
theorem ke:(eA key l).length=l.length:=qe.length_eq
def AT (key:Int→Int) (l:List Int) (i j:Nat) (D:List Int):Prop:= ∃ A B x,l[i]? =some x∧A.length=j∧eA key (l.take i)=A++B∧(∀ y∈B,key x<key y)∧D=A++x::(B++l.drop (i+1))
def s_ (key:Int→Int) (l:List Int) (i:Nat) (D:List Int):Prop:=D=eA key (l.take i)++l.drop i
theorem KT (h:0<l.length):s_ key l 1 l:=by
 cases l with
 |nil=>simp at h
 |cons a l=>simp [s_,eA,ve]
theorem KU (hi:l.length≤i) (h:s_ key l i D):D=eA key l:=by
 subst h; rw [List.take_of_length_le hi,List.drop_of_length_le hi,List.append_nil]
theorem C8 (hi:i<l.length) (h:s_ key l i D):AT key l i i D:=by
 have hx:l[i]? =some l[i]:=e8 hi
 refine ⟨eA key (l.take i),[],l[i],hx,by rw [ke,List.length_take]; omega,sm,fun y hy=>(by cases hy),?_⟩
 rw [h,List.nil_append,List.drop_eq_getElem_cons hi]
theorem xT: ∀ {A:List Int},0<A.length→ ∃ A' y,A=A'++[y]:=fun {A} h=>⟨A.dropLast,A.getLast (by intro e; subst e; simp at h),(List.dropLast_concat_getLast _).symm⟩
theorem GY (hj:0<j) (h:AT key l i j D) (hu:D[j]? =some u) (hv:D[j-1]? =some v) (hlt:key u<key v):AT key l i (j-1) ((D.set j v).set (j-1) u):=by
 obtain ⟨A,B,x,hx,hl,he,hB,rfl⟩:=h
 obtain ⟨A',y,rfl⟩:=xT (A:=A) om
 simp only [List.length_append,List.length_cons,List.length_nil] at hl
 subst hl
 have C:(A'++[y]++x::(B++l.drop (i+1)))=A'++y::x::(B++l.drop (i+1)):=by simp
 rw [C] at hu hv ⊢
 rw [List.getElem?_append_right om,show A'.length+(0+1)-A'.length=1 by omega] at hu
 rw [show A'.length+(0+1)-1=A'.length by omega,List.getElem?_append_right (Nat.le_refl _),Nat.sub_self] at hv
 simp at hu hv
 subst hu hv
 refine ⟨A',y::B,x,hx,om,by rw [he]; simp,fun z hz=>?_,?_⟩
 ·rcases List.mem_cons.1 hz with rfl|hz
  ·exact hlt
  ·exact hB z hz
 ·rw [show A'.length+(0+1)-1=A'.length by omega,List.set_append_right _ _ om,List.set_append_right _ _ (Nat.le_refl _),show A'.length+(0+1)-A'.length=1 by omega,Nat.sub_self]
  simp
theorem x_ (h:AT key l i j D) (hc: ∀ A,A.length=j→(∃ C,D=A++C)→Dt key A→ ∀ x,l[i]? =some x→D[j]? =some x→ ∀ y∈A,key y≤key x):s_ key l (i+1) D:=by
 obtain ⟨A,B,x,hx,hl,he,hB,rfl⟩:=h
 unfold s_
 have E:Dt key (A++B):=he▸tR
 rw [BL hx,he,xh (hc A hl ⟨_,rfl⟩ (by unfold Dt at E ⊢; rw [List.pairwise_append] at E; exact E.1) x hx (by rw [List.getElem?_append_right om,← hl]; simp)) hB]
 simp
theorem zd (hj: ¬ 0<j) (h:AT key l i j D):s_ key l (i+1) D:=x_ h fun A hl _ _ x _ _ y hy=>by
 have:A=[]:=jv om
 subst this; cases hy
theorem yb (hj:0<j) (h:AT key l i j D) (hu:D[j]? =some u) (hv:D[j-1]? =some v) (hlt: ¬ key u<key v):s_ key l (i+1) D:=x_ h fun A hl hC hA x hx hd y hy=>by
 obtain ⟨C,hC⟩:=hC
 obtain ⟨A',z,rfl⟩:=xT (A:=A) om
 simp only [List.length_append,List.length_cons,List.length_nil] at hl
 rw [hd] at hu; cases hu
 have e:D[j-1]? =some z:=by
  rw [hC,List.append_assoc,List.getElem?_append_right om,show j-1-A'.length=0 by omega]; simp
 rw [e] at hv; cases hv
 unfold Dt at hA
 rw [List.pairwise_append] at hA
 rcases List.mem_append.1 hy with hy|hy
 ·have:=hA.2.2 y hy v sm; omega
 ·rw [bW] at hy; subst hy; omega
end
end
section
def rr (k:Nat) (l:List Int):List Int:=(l.take k).reverse++l.drop k
def Hr (l:List Int) (k i:Nat) (D:List Int):Prop:=D.length=l.length∧ ∀ p,p<l.length→D[p]? =l[if p<k∧(p<i∨k≤p+i) then k-1-p else p]?
section
variable {l D:List Int} {k i j:Nat} {u v:Int}
theorem jU:(rr k l).length=l.length:=by unfold rr; rw [List.length_append,List.length_reverse,List.length_take,List.length_drop]; omega
theorem LR:Hr l k 0 l:=⟨rfl,fun p hp=>by rw [if_neg om]⟩
theorem Ky (hk:k≤l.length) (hij:i<j) (hj:j+i+1=k) (h:Hr l k i D) (hu:D[i]? =some u) (hv:D[j]? =some v):Hr l k (i+1) ((D.set i v).set j u):=by
 refine ⟨by rw [List.length_set,List.length_set]; exact h.1,fun p hp=>?_⟩
 have hl:=h.1
 have hi:=h.2 i om
 have A:=h.2 j om
 rw [hu,if_neg om] at hi
 rw [hv,if_neg om] at A
 by_cases B:p=j
 ·subst B
  rw [List.getElem?_set_self (by rw [List.length_set]; omega),if_pos om,show k-1-p=i by omega,hi]
 ·rw [List.getElem?_set_ne (fun e=>B e.symm)]
  by_cases C:p=i
  ·subst C
   rw [List.getElem?_set_self om,if_pos om,show k-1-p=j by omega,A]
  ·rw [List.getElem?_set_ne (fun e=>C e.symm),h.2 p hp]
   by_cases c:p<k∧(p<i∨k≤p+i)
   ·rw [if_pos c,if_pos om]
   ·rw [if_neg c,if_neg om]
theorem M8 (hk:k≤l.length) (hi:k≤2*i+1) (h:Hr l k i D):D=rr k l:=by
 apply List.ext_getElem?
 intro p
 by_cases hp:p<l.length
 ·rw [h.2 p hp]
  unfold rr
  by_cases c:p<k
  ·rw [List.getElem?_append_left (by rw [List.length_reverse,List.length_take]; omega),List.getElem?_reverse (by rw [List.length_take]; omega),List.length_take,Nat.min_eq_left hk,List.getElem?_take]
   rw [if_pos (show k-1-p<k by omega)]
   by_cases A:p<k∧(p<i∨k≤p+i)
   ·rw [if_pos A]
   ·rw [if_neg A,show k-1-p=p by omega]
  ·rw [if_neg om,List.getElem?_append_right (by rw [List.length_reverse,List.length_take]; omega),List.length_reverse,List.length_take,Nat.min_eq_left hk,List.getElem?_drop,show k+(p-k)=p by omega]
 ·rw [List.getElem?_eq_none (by rw [h.1]; omega),List.getElem?_eq_none (by rw [jU]; omega)]
end
end
end Go.Proofs.YtdllkkdchkhimaaGreatDoor
