/-
 The statement raceNarrowed_said, part 4 of 8: Short, Grow, Global, RunA, Tab, Run, Comp, Ret, LoopK, MapK, Watch, Passes, Keys, MapR, RangeG, Nest, WMaps, WBounds, PassG, Drop, Spot, First, Line, Wrap, Goes, OpenW, Wheres, ExL6, LineR, Race, RaceS, Vals, RaceO, Ord, Rev.
 Conditions: none.
-/
import Derived.Test.YtadjgjnicdcjbaaGreatDoorTz1
import Derived.Test.YtadjgjnicdcjbaaGreatDoorTz2
import Derived.Test.YtadjgjnicdcjbaaGreatDoorTz3
import Derived.Test.YtadjgjnicdcjbaaGreatDoorProg
import Derived.KernelRfl
import Derived.WideKeyRuns
namespace Go.Proofs.YtadjgjnicdcjbaaGreatDoor
set_option maxRecDepth 100000
set_option maxHeartbeats 4000000
set_option linter.unusedVariables false
section
open Go.RowKit
/-- an operation that hands v to its slot d -/
structure SE (E:e_) (ops:Array Oper) (o:Oper) (D:List Deferred) (L:List (Nat×Value)) (C:List au) (v:Value) (d:Nat):Prop where
 h:SD E ops o D L C v
 o:o.dst=some d
 n:Nat.blt d E.n=true
theorem rS {E:e_} {ops:Array Oper} {Q:cW} {o:Oper} {rest:List Oper} {D:List Deferred} {L:List (Nat×Value)} {C:List au} {v:Value} {d:Nat}
 (h:SE E ops o D L C v d) (k:RJ E ops Q rest D ((d,v)::L) C):RJ E ops Q (o::rest) D L C:=SM h.h h.o h.n k
theorem dS {E:e_} {ops:Array Oper} {F:List (Nat×Value)→Prop} {o:Oper} {rest:List Oper} {D:List Deferred} {L:List (Nat×Value)} {C:List au} {v:Value} {d:Nat}
 (h:SE E ops o D L C v d) (k:DJ E ops D C F rest ((d,v)::L)):DJ E ops D C F (o::rest) L:=Tm h.h h.o h.n k
theorem eS {E:e_} {ops:Array Oper} {D:List Deferred} {C' C1:List au} {F:List (Nat×Value)→Prop} {bs:List Bool} {o:Oper} {l rest:List Oper} {L:List (Nat×Value)} {v:Value} {d:Nat}
 (hl:l=o::rest) (h:SE E ops o D L C' v d) (k:p8 E ops D C' C1 F bs rest ((d,v)::L)):p8 E ops D C' C1 F (false::bs) l L:=RQ h.h hl h.o h.n k
theorem fS {E:e_} {ops:Array Oper} {D:List Deferred} {C' C1:List au} {F:List (Nat×Value)→Prop} {bs:List Bool} {o:Oper} {l rest:List Oper} {L:List (Nat×Value)} {v:Value} {d:Nat}
 (hl:l=o::rest) (h:SE E ops o D L C1 v d) (k:p8 E ops D C' C1 F bs rest ((d,v)::L)):p8 E ops D C' C1 F (true::bs) l L:=RU h.h hl h.o h.n k
def gB (n:Nat) (ops:Array Oper) (L:List (Nat×Value)) (d:Nat) (g:Option (Nat×Bool)):Bool:=jq ops L g&&Nat.blt d n
theorem Pa {n:Nat} {ops:Array Oper} {L:List (Nat×Value)} {d:Nat} {g:Option (Nat×Bool)} (h:gB n ops L d g=true):jq ops L g=true:=by
 unfold gB at h; rw [cK] at h; exact h.1
theorem OH {n:Nat} {ops:Array Oper} {L:List (Nat×Value)} {d:Nat} {g:Option (Nat×Bool)} (h:gB n ops L d g=true):Nat.blt d n=true:=by
 unfold gB at h; rw [cK] at h; exact h.2
def vF (n:Nat) (ops:Array Oper) (L:List (Nat×Value)) (d:Nat) (g:Option (Nat×Bool)) (x:Operand):Option Value:=match gB n ops L d g with
 |true=>ev L x
 |false=>none
def bF (n:Nat) (ops:Array Oper) (L:List (Nat×Value)) (d:Nat) (g:Option (Nat×Bool)) (x y:Operand):Option (Value×Value):=match gB n ops L d g with
 |true=>match ev L x,ev L y with
  |some u,some v=>some (u,v)
  |_,_=>none
 |false=>none
def pF (n:Nat) (ops:Array Oper) (L:List (Nat×Value)) (d:Nat) (g:Option (Nat×Bool)) (c x y:Operand):Option Value:=match gB n ops L d g with
 |true=>match ev L c with
  |some (.bool true)=>ev L x
  |some (.bool false)=>ev L y
  |_=>none
 |false=>none
def xF (n:Nat) (ops:Array Oper) (L:List (Nat×Value)) (d:Nat) (g:Option (Nat×Bool)) (x:Operand) (i:Nat):Option Value:=match vF n ops L d g x with
 |some (.tuple vs)=>vs.toList[i]?
 |_=>none
def uF (n:Nat) (ops:Array Oper) (L:List (Nat×Value)) (d:Nat) (g:Option (Nat×Bool)) (xs ys:List Operand):Option (List Value×List Value):=match gB n ops L d g with
 |true=>match evs L xs,evs L ys with
  |some u,some v=>some (u,v)
  |_,_=>none
 |false=>none
def cF (n:Nat) (ops:Array Oper) (L:List (Nat×Value)) (d:Nat) (g:Option (Nat×Bool)) (fop:Operand) (xs:List Operand):Option (FuncId×List Value):=match gB n ops L d g with
 |true=>match ev L fop,evs L xs with
  |some (.func (.func f) fi ca),some vs=>some (f,fi.toList++vs++ca.toList)
  |_,_=>none
 |false=>none
theorem iZ {n:Nat} {ops:Array Oper} {L:List (Nat×Value)} {d:Nat} {g:Option (Nat×Bool)} {x:Operand} {v:Value} (h:vF n ops L d g x=some v):jq ops L g=true∧Nat.blt d n=true∧ev L x=some v:=by
 unfold vF at h
 split at h
 ·rename_i hb; exact ⟨Pa hb,OH hb,h⟩
 ·cases h
theorem qC {n:Nat} {ops:Array Oper} {L:List (Nat×Value)} {d:Nat} {g:Option (Nat×Bool)} {x y:Operand} {u v:Value} (h:bF n ops L d g x y=some (u,v)):jq ops L g=true∧Nat.blt d n=true∧ev L x=some u∧ev L y=some v:=by
 unfold bF at h
 split at h
 ·rename_i hb
  split at h
  ·rename_i hx hy; cases h; exact ⟨Pa hb,OH hb,hx,hy⟩
  ·cases h
 ·cases h
theorem QM {n:Nat} {ops:Array Oper} {L:List (Nat×Value)} {d:Nat} {g:Option (Nat×Bool)} {x y:List Operand} {u v:List Value} (h:uF n ops L d g x y=some (u,v)):jq ops L g=true∧Nat.blt d n=true∧evs L x=some u∧evs L y=some v:=by
 unfold uF at h
 split at h
 ·rename_i hb
  split at h
  ·rename_i hx hy; cases h; exact ⟨Pa hb,OH hb,hx,hy⟩
  ·cases h
 ·cases h
section
variable {E:e_} {ops:Array Oper} {Q:cW} {rest:List Oper} {D:List Deferred} {L:List (Nat×Value)} {C:List au}
variable {d:Nat} {ty:TypeId} {ps:String} {af:Array Edge} {g:Option (Nat×Bool)}
theorem SX {o:Oper} {v:Value} (h:SD E ops o D L C v) (ho:o.dst=some d) (hd:Nat.blt d E.n=true):SE E ops o D L C v d:=⟨h,ho,hd⟩
theorem MV {x:Operand} {v:Value} (h:vF E.n ops L d g x=some v):SE E ops ⟨some d,.move x,ty,ps,af,g⟩ D L C v d:=by
 obtain ⟨A,B,F⟩:=iZ h; exact ⟨E8 A F,rfl,B⟩
theorem AG {x:Operand} {v:Value} (h:vF E.n ops L d g x=some v):SE E ops ⟨some d,.assign x,ty,ps,af,g⟩ D L C v d:=by
 obtain ⟨A,B,F⟩:=iZ h; exact ⟨zc A F,rfl,B⟩
theorem OX {op:Op} (h:(Dg ops L g&&Nat.blt d E.n)=true):SE E ops ⟨some d,op,ty,ps,af,g⟩ D L C undef d:=by
 rw [cK] at h; exact ⟨IX h.1,rfl,h.2⟩
theorem NT {xt:TypeId} {x:Operand} {b:Bool} (h:vF E.n ops L d g x=some (.bool b)):SE E ops ⟨some d,.unOp .not xt x,ty,ps,af,g⟩ D L C (.bool !b) d:=by
 obtain ⟨A,B,F⟩:=iZ h; exact ⟨LZ A F,rfl,B⟩
theorem NG {xt:TypeId} {x:Operand} {n:Int} (h:vF E.n ops L d g x=some (.int .i64 n)) (hb:qK (-n)):SE E ops ⟨some d,.unOp .neg xt x,ty,ps,af,g⟩ D L C (.int .i64 (-n)) d:=by
 obtain ⟨A,B,F⟩:=iZ h; exact ⟨QC A F hb,rfl,B⟩
theorem PK {c x y:Operand} {v:Value} (h:pF E.n ops L d g c x y=some v):SE E ops ⟨some d,.pick c x y,ty,ps,af,g⟩ D L C v d:=by
 unfold pF at h
 split at h
 ·rename_i hb
  split at h
  ·rename_i hc; exact ⟨yZ (Pa hb) hc h,rfl,OH hb⟩
  ·rename_i hc; exact ⟨yo (Pa hb) hc h,rfl,OH hb⟩
  ·cases h
 ·cases h
theorem EX {x:Operand} {i:Nat} {v:Value} (h:xF E.n ops L d g x i=some v):SE E ops ⟨some d,.extract x i,ty,ps,af,g⟩ D L C v d:=by
 unfold xF at h
 split at h
 ·rename_i vs hv
  obtain ⟨A,B,F⟩:=iZ hv
  exact ⟨xj (vs:=vs.toList) A (by simpa using F) h,U,B⟩
 ·cases h
theorem LN {x:Operand} {t e:TypeId} {A:OA} {n c:Nat} (h:vF E.n ops L d g x=some (.slice A n c)) (ht:E.P.underlying t=some (.slice e)):
 SE E ops ⟨some d,.call {callee:= .builtin .len,args:= #[x],argTypes:= #[t]},ty,ps,af,g⟩ D L C (.int .i64 n) d:=by
 obtain ⟨B,F,G⟩:=iZ h; exact ⟨Lb B G ht,rfl,F⟩
theorem BI {op:BinOp} {xt yt:TypeId} {x y:Operand} {u v r:Value} (h:bF E.n ops L d g x y=some (u,v)) (hb:ic E.P op xt x y u v r):SE E ops ⟨some d,.binOp op xt x y yt,ty,ps,af,g⟩ D L C r d:=by
 obtain ⟨A,B,F,G⟩:=qC h; exact ⟨bS A F G hb,rfl,B⟩
theorem MN {x y:Operand} {ts:Array TypeId} {a b:Int} {k:IntKind} (h:bF E.n ops L d g x y=some (.int k a,.int k b)):
 SE E ops ⟨some d,.call {callee:= .builtin .min,args:= #[x,y],argTypes:=ts},ty,ps,af,g⟩ D L C (.int k (min a b)) d:=by
 obtain ⟨A,B,F,G⟩:=qC h; exact ⟨QQ A F G,rfl,B⟩
theorem MX {x y:Operand} {ts:Array TypeId} {a b:Int} {k:IntKind} (h:bF E.n ops L d g x y=some (.int k a,.int k b)):
 SE E ops ⟨some d,.call {callee:= .builtin .max,args:= #[x,y],argTypes:=ts},ty,ps,af,g⟩ D L C (.int k (max a b)) d:=by
 obtain ⟨A,B,F,G⟩:=qC h; exact ⟨P1 A F G,rfl,B⟩
theorem FA (o':Nat) {x:Operand} {b o s f k:Nat} (h:vF E.n ops L d g x=some (.pointer (some ⟨b,o,none⟩))) (hf:sL E.P s f=some k) (ho:o+k=o'):
 SE E ops ⟨some d,.fieldAddr s x f,ty,ps,af,g⟩ D L C (.pointer (some ⟨b,o',none⟩)) d:=by
 obtain ⟨A,B,F⟩:=iZ h; exact ⟨Pr A F hf ho,rfl,B⟩
theorem nN (k':Nat) {x:Operand} {A:OA} {n sz:Nat} {es:List (List Value)} {k0 s f k:Nat} (h:vF E.n ops L d g x=some (.pointer (lF A k0))) (hR:i_ C (rd A n sz es).holds) (hn:0<n*sz)
 (hf:sL E.P s f=some k) (ho:k0+k=k'):SE E ops ⟨some d,.fieldAddr s x f,ty,ps,af,g⟩ D L C (.pointer (lF A k')) d:=by
 obtain ⟨B,F,G⟩:=iZ h; exact ⟨Ll B G hR hn hf ho,rfl,F⟩
theorem UL (k':Nat) {x:Operand} {A:OA} {ad:Addr} {k0 s f k:Nat} (h:vF E.n ops L d g x=some (.pointer (lF A k0))) (hA:A=some ad)
 (hf:sL E.P s f=some k) (ho:k0+k=k'):SE E ops ⟨some d,.fieldAddr s x f,ty,ps,af,g⟩ D L C (.pointer (lF A k')) d:=by
 obtain ⟨B,F,G⟩:=iZ h; exact ⟨Iz B G hA hf ho,rfl,F⟩
theorem IA (k:Nat) {x ix:Operand} {A:OA} {n c sz e t:Nat} {es:List (List Value)} {j:Int} (h:bF E.n ops L d g x ix=some (.slice A n c,.int .i64 j)) (hR:i_ C (rd A n sz es).holds)
 (ht:tE E.P t=some (e,sz)) (hz:0<sz) (hj:j=(k:Int)) (hk:k<n):SE E ops ⟨some d,.indexAddr t x ix,ty,ps,af,g⟩ D L C (.pointer (lF A (k*sz))) d:=by
 obtain ⟨B,F,G,H⟩:=qC h; exact ⟨Sc B G H hR ht hz hj hk,rfl,F⟩
theorem TR (k o':Nat) {x ix:Operand} {b o n c sz e t:Nat} {j:Int} (h:bF E.n ops L d g x ix=some (.slice (some ⟨b,o,none⟩) n c,.int .i64 j))
 (ht:tE E.P t=some (e,sz)) (hj:j=(k:Int)) (hk:k<n) (ho:o+k*sz=o'):SE E ops ⟨some d,.indexAddr t x ix,ty,ps,af,g⟩ D L C (.pointer (some ⟨b,o',none⟩)) d:=by
 obtain ⟨A,B,F,G⟩:=qC h; exact ⟨Nv A F G ht hj hk ho,rfl,B⟩
/-- the whole of a block, a part of it, one cell -/
theorem LW (i:Nat) {x:Operand} {b t tt n:Nat} {cs:List Value} (h:vF E.n ops L d g x=some (.pointer (some ⟨b,0,none⟩))) (ht:tK E.P t=some (true,n)) (hC:C[i]? =some (bU b tt cs)) (hn:cs.length=n):
 SE E ops ⟨some d,.load t x,ty,ps,af,g⟩ D L C (.agg cs.toArray) d:=by
 obtain ⟨A,B,F⟩:=iZ h; exact ⟨wW A F ht (ph i hC sm) hn,rfl,B⟩
theorem LP (vs:List Value) (i:Nat) {x:Operand} {b o t tt n:Nat} {cs:List Value} (h:vF E.n ops L d g x=some (.pointer (some ⟨b,o,none⟩))) (ht:tK E.P t=some (true,n)) (hC:C[i]? =some (bU b tt cs)) (hv:(cs.drop o).take vs.length=vs) (hn:vs.length=n):
 SE E ops ⟨some d,.load t x,ty,ps,af,g⟩ D L C (.agg vs.toArray) d:=by
 obtain ⟨A,B,F⟩:=iZ h; exact ⟨wW A F ht (ph i hC hv) hn,rfl,B⟩
theorem Vz (vs:List Value) (i:Nat) {x:Operand} {b o t tt n:Nat} {cs:List Value} (h:vF E.n ops L d g x=some (.pointer (some ⟨b,o,none⟩))) (ht:tK E.P t=some (true,n)) (hC:C[i]? =some (bU b tt cs).ro) (hv:(cs.drop o).take vs.length=vs) (hn:vs.length=n):
 SE E ops ⟨some d,.load t x,ty,ps,af,g⟩ D L C (.agg vs.toArray) d:=by
 obtain ⟨A,B,F⟩:=iZ h; exact ⟨wW A F ht (vM i hC hv) hn,rfl,B⟩
theorem L1 (v:Value) (i:Nat) {x:Operand} {b o t tt n:Nat} {cs:List Value} (h:vF E.n ops L d g x=some (.pointer (some ⟨b,o,none⟩))) (ht:tK E.P t=some (false,n)) (hC:C[i]? =some (bU b tt cs)) (hv:(cs.drop o).take 1=[v]):
 SE E ops ⟨some d,.load t x,ty,ps,af,g⟩ D L C v d:=by
 obtain ⟨A,B,F⟩:=iZ h; exact ⟨uk A F ht (ph i hC hv),rfl,B⟩
theorem Ib (v:Value) (i:Nat) {x:Operand} {b o t tt n:Nat} {cs:List Value} (h:vF E.n ops L d g x=some (.pointer (some ⟨b,o,none⟩))) (ht:tK E.P t=some (false,n)) (hC:C[i]? =some (bU b tt cs).ro) (hv:(cs.drop o).take 1=[v]):
 SE E ops ⟨some d,.load t x,ty,ps,af,g⟩ D L C v d:=by
 obtain ⟨A,B,F⟩:=iZ h; exact ⟨uk A F ht (vM i hC hv),rfl,B⟩
theorem EV (i:Nat) {x:Operand} {b t tt n:Nat} {v:Value} (h:vF E.n ops L d g x=some (.pointer (some ⟨b,0,none⟩))) (ht:tK E.P t=some (false,n)) (hC:C[i]? =some (bU b tt [v])):
 SE E ops ⟨some d,.load t x,ty,ps,af,g⟩ D L C v d:=by
 obtain ⟨A,B,F⟩:=iZ h; exact ⟨uk A F ht (ph i hC rfl),rfl,B⟩
theorem TL (i:Nat) {x:Operand} {b t tt n:Nat} {v:Value} (h:vF E.n ops L d g x=some (.pointer (some ⟨b,0,none⟩))) (ht:tK E.P t=some (false,n)) (hC:C[i]? =some (bU b tt [v]).ro):
 SE E ops ⟨some d,.load t x,ty,ps,af,g⟩ D L C v d:=by
 obtain ⟨A,B,F⟩:=iZ h; exact ⟨uk A F ht (vM i hC rfl),rfl,B⟩
/-- what is read of a row -/
theorem gp (k o:Nat) (v:Value) {x:Operand} {A:OA} {t m n sz:Nat} {es:List (List Value)} {e:List Value} (h:vF E.n ops L d g x=some (.pointer (lF A m))) {nn:Nat} (ht:tK E.P t=some (false,nn)) (hR:i_ C (rd A n sz es).holds) (he:es[k]? =some e) (hm:m=k*sz+o) (hz:0<sz) (hv:(e.drop o).take 1=[v]):
 SE E ops ⟨some d,.load t x,ty,ps,af,g⟩ D L C v d:=by
 obtain ⟨B,F,G⟩:=iZ h; exact ⟨uk B G ht (OM hR he hm hz hv),rfl,F⟩
theorem oE (k o:Nat) (vs:List Value) {x:Operand} {A:OA} {t m n sz:Nat} {es:List (List Value)} {e:List Value} (h:vF E.n ops L d g x=some (.pointer (lF A m))) {nn:Nat} (ht:tK E.P t=some (true,nn)) (hR:i_ C (rd A n sz es).holds) (he:es[k]? =some e) (hm:m=k*sz+o) (hz:0<sz) (hv:(e.drop o).take vs.length=vs) (hn:vs.length=nn):
 SE E ops ⟨some d,.load t x,ty,ps,af,g⟩ D L C (.agg vs.toArray) d:=by
 obtain ⟨B,F,G⟩:=iZ h; exact ⟨wW B G ht (OM hR he hm hz hv) hn,rfl,F⟩
theorem CL {fop:Operand} {xs:Array Operand} {ts:Array TypeId} {f:FuncId} {args:List Value} {Cp:List au} {v:Value} (c:dV E.P f args Cp v) (hC:ke C Cp) (h:cF E.n ops L d g fop xs.toList=some (f,args)):
 SE E ops ⟨some d,.call {callee:= .value fop,args:=xs,argTypes:=ts},ty,ps,af,g⟩ D L C v d:=by
 unfold cF at h
 split at h
 ·rename_i hb
  split at h
  ·rename_i hf hx; cases h; exact ⟨Gc (Pa hb) hf hx rfl c hC,rfl,OH hb⟩
  ·cases h
 ·cases h
theorem FU {fn:Fn} {xs ys:Array Operand} {us vs:List Value} (h:uF E.n ops L d g xs.toList ys.toList=some (us,vs)):SE E ops ⟨some d,.makeFunc fn xs ys,ty,ps,af,g⟩ D L C (.func fn us.toArray vs.toArray) d:=by
 obtain ⟨A,B,F,G⟩:=QM h; exact ⟨M6 A F G,rfl,B⟩
theorem cX {fop:Operand} {xs:Array Operand} {ts:Array TypeId} {f:FuncId} {args:List Value} {Cp:List au} {α:Type} {V:α→Value} {p:α→Prop} {N:α→List au} (c:lD E.P f args Cp V p N) (hC:ke C Cp)
 (h:cF E.n ops L d g fop xs.toList=some (f,args)) (k: ∀ x,p x→RJ E ops Q rest D ((d,V x)::L) (N x++C)):
 RJ E ops Q (⟨some d,.call {callee:= .value fop,args:=xs,argTypes:=ts},ty,ps,af,g⟩::rest) D L C:=by
 unfold cF at h
 split at h
 ·rename_i hb
  split at h
  ·rename_i hf hx; cases h; exact Qm (Pa hb) hf hx rfl c hC (OH hb) k
  ·cases h
 ·cases h
/-- a box of a struct, of one cell -/
theorem fQ {t:TypeId} {x:Operand} {cs:List Value} (h:vF E.n ops L d g x=some (.agg cs.toArray)) (k: ∀ b,RJ E ops Q rest D ((d,.pointer (some ⟨b,0,none⟩))::L) (bU b t cs::C)):
 RJ E ops Q (⟨some d,.box t x,ty,ps,af,g⟩::rest) D L C:=by
 obtain ⟨A,B,F⟩:=iZ h; exact O9 A F rfl B k
theorem uT {t:TypeId} {x:Operand} {v:Value} (h:vF E.n ops L d g x=some v) (hv:v.cells.toList=[v]) (k: ∀ b,RJ E ops Q rest D ((d,.pointer (some ⟨b,0,none⟩))::L) (bU b t [v]::C)):
 RJ E ops Q (⟨some d,.box t x,ty,ps,af,g⟩::rest) D L C:=by
 obtain ⟨A,B,F⟩:=iZ h; exact O9 A F hv B k
theorem AL {t:TypeId} {cs:List Value} (h:gB E.n ops L d g=true) (hz:tZ E.P t=some cs) (k: ∀ b,RJ E ops Q rest D ((d,.pointer (some ⟨b,0,none⟩))::L) (bU b t cs::C)):
 RJ E ops Q (⟨some d,.alloc t,ty,ps,af,g⟩::rest) D L C:=Ov (Pa h) hz (OH h) k
/-- a store into the block at the place i of the state -/
def sF (ops:Array Oper) (L:List (Nat×Value)) (g:Option (Nat×Bool)) (x y:Operand):Option (Value×Value):=match jq ops L g with
 |true=>match ev L x,ev L y with
  |some u,some v=>some (u,v)
  |_,_=>none
 |false=>none
theorem Ev {ops:Array Oper} {L:List (Nat×Value)} {g:Option (Nat×Bool)} {x y:Operand} {u v:Value} (h:sF ops L g x y=some (u,v)):jq ops L g=true∧ev L x=some u∧ev L y=some v:=by
 unfold sF at h
 split at h
 ·rename_i hb
  split at h
  ·rename_i hx hy; cases h; exact ⟨hb,hx,hy⟩
  ·cases h
 ·cases h
theorem Sj {t n b o tt:Nat} {x y:Operand} {v:Value} {cs cs':List Value} {C':List au} (i:Nat) (h:sF ops L g x y=some (.pointer (some ⟨b,o,none⟩),v)) (ht:(tK E.P t).map (·.2)=some n) (hC:C[i]? =some (bU b tt cs))
 (hk:(v.cells.toList.length==n&&v.cells.toList.all Value.oneCell'&&Nat.ble (o+n) cs.length)=true) (hcs:cs.take o++v.cells.toList++cs.drop (o+n)=cs') (hC':C.set i (bU b tt cs')=C') (k:RJ E ops Q rest D L C'):
 RJ E ops Q (⟨none,.store t x y,ty,ps,af,g⟩::rest) D L C:=by
 obtain ⟨A,B,F⟩:=Ev h
 simp only [cK,beq_iff_eq] at hk
 exact jf i A B F ht U hk.1.1 hk.1.2 hC hk.2 hcs hC' k
/-- a store of a whole block, by a struct, by one cell -/
theorem OC {t n b tt:Nat} {x y:Operand} {cs cs':List Value} {C':List au} (i:Nat) (h:sF ops L g x y=some (.pointer (some ⟨b,0,none⟩),.agg cs'.toArray)) (ht:(tK E.P t).map (·.2)=some n) (hC:C[i]? =some (bU b tt cs))
 (hk:(Nat.beq cs'.length n&&cs'.all Value.oneCell'&&Nat.beq n cs.length)=true) (hC':C.set i (bU b tt cs')=C') (k:RJ E ops Q rest D L C'):
 RJ E ops Q (⟨none,.store t x y,ty,ps,af,g⟩::rest) D L C:=by
 obtain ⟨AA,J,K⟩:=Ev h
 simp only [cK] at hk
 obtain ⟨⟨A,B⟩,F⟩:=hk
 have H:=Nat.eq_of_beq_eq_true A
 have G:=Nat.eq_of_beq_eq_true F
 exact jf i AA J K ht U H B hC (by rw [Nat.zero_add,G]; exact Nat.ble_self_eq_true _) (by rw [Nat.zero_add,G,List.take_zero,List.drop_length]; show []++cs'++[]=cs'; simp) hC' k
theorem UP {t n b tt:Nat} {x y:Operand} {v u:Value} {C':List au} (i:Nat) (h:sF ops L g x y=some (.pointer (some ⟨b,0,none⟩),v)) (ht:(tK E.P t).map (·.2)=some n) (hC:C[i]? =some (bU b tt [u]))
 (hv:v.cells.toList=[v]) (hk:(Nat.beq n 1&&v.oneCell')=true) (hC':C.set i (bU b tt [v])=C') (k:RJ E ops Q rest D L C'):
 RJ E ops Q (⟨none,.store t x y,ty,ps,af,g⟩::rest) D L C:=by
 obtain ⟨G,H,AA⟩:=Ev h
 rw [cK] at hk
 obtain ⟨A,B⟩:=hk
 have F:=Nat.eq_of_beq_eq_true A
 subst F
 exact jf i G H AA ht hv U (by simp [B]) hC U U hC' k
theorem fO {t n b tt:Nat} {x y:Operand} {cs cs':List Value} (h:sF ops L g x y=some (.pointer (some ⟨b,0,none⟩),.agg cs'.toArray)) (ht:(tK E.P t).map (·.2)=some n) (hk:(Nat.beq cs'.length n&&cs'.all Value.oneCell'&&Nat.beq n cs.length)=true) (k:RJ E ops Q rest D L (bU b tt cs'::C)):RJ E ops Q (⟨none,.store t x y,ty,ps,af,g⟩::rest) D L (bU b tt cs::C):=OC 0 h ht rfl hk rfl k
theorem HJ {t n b tt:Nat} {x y:Operand} {v u:Value} (h:sF ops L g x y=some (.pointer (some ⟨b,0,none⟩),v)) (ht:(tK E.P t).map (·.2)=some n) (hv:v.cells.toList=[v]) (hk:(Nat.beq n 1&&v.oneCell')=true) (k:RJ E ops Q rest D L (bU b tt [v]::C)):RJ E ops Q (⟨none,.store t x y,ty,ps,af,g⟩::rest) D L (bU b tt [u]::C):=UP 0 h ht rfl hv hk rfl k
theorem t_ {t n b tt:Nat} {x y:Operand} {cs cs':List Value} {A0:au} (h:sF ops L g x y=some (.pointer (some ⟨b,0,none⟩),.agg cs'.toArray)) (ht:(tK E.P t).map (·.2)=some n) (hk:(Nat.beq cs'.length n&&cs'.all Value.oneCell'&&Nat.beq n cs.length)=true) (k:RJ E ops Q rest D L (A0::bU b tt cs'::C)):RJ E ops Q (⟨none,.store t x y,ty,ps,af,g⟩::rest) D L (A0::bU b tt cs::C):=OC 1 h ht rfl hk rfl k
theorem HO {t n b tt:Nat} {x y:Operand} {cs cs':List Value} {A0 A1:au} (h:sF ops L g x y=some (.pointer (some ⟨b,0,none⟩),.agg cs'.toArray)) (ht:(tK E.P t).map (·.2)=some n) (hk:(Nat.beq cs'.length n&&cs'.all Value.oneCell'&&Nat.beq n cs.length)=true) (k:RJ E ops Q rest D L (A0::A1::bU b tt cs'::C)):RJ E ops Q (⟨none,.store t x y,ty,ps,af,g⟩::rest) D L (A0::A1::bU b tt cs::C):=OC 2 h ht rfl hk rfl k
theorem VQ (cs':List Value) {t n b o tt:Nat} {x y:Operand} {v:Value} {cs:List Value} {A0 A1:au} (h:sF ops L g x y=some (.pointer (some ⟨b,o,none⟩),v)) (ht:(tK E.P t).map (·.2)=some n) (hk:(v.cells.toList.length==n&&v.cells.toList.all Value.oneCell'&&Nat.ble (o+n) cs.length)=true) (hcs:cs.take o++v.cells.toList++cs.drop (o+n)=cs') (k:RJ E ops Q rest D L (A0::A1::bU b tt cs'::C)):RJ E ops Q (⟨none,.store t x y,ty,ps,af,g⟩::rest) D L (A0::A1::bU b tt cs::C):=Sj 2 h ht rfl hk hcs rfl k
theorem TQ {t n b tt:Nat} {x y:Operand} {cs cs':List Value} {A0 A1 A2:au} (h:sF ops L g x y=some (.pointer (some ⟨b,0,none⟩),.agg cs'.toArray)) (ht:(tK E.P t).map (·.2)=some n) (hk:(Nat.beq cs'.length n&&cs'.all Value.oneCell'&&Nat.beq n cs.length)=true) (k:RJ E ops Q rest D L (A0::A1::A2::bU b tt cs'::C)):RJ E ops Q (⟨none,.store t x y,ty,ps,af,g⟩::rest) D L (A0::A1::A2::bU b tt cs::C):=OC 3 h ht rfl hk rfl k
theorem Ul {t n b tt:Nat} {x y:Operand} {v u:Value} {A0 A1 A2:au} (h:sF ops L g x y=some (.pointer (some ⟨b,0,none⟩),v)) (ht:(tK E.P t).map (·.2)=some n) (hv:v.cells.toList=[v]) (hk:(Nat.beq n 1&&v.oneCell')=true) (k:RJ E ops Q rest D L (A0::A1::A2::bU b tt [v]::C)):RJ E ops Q (⟨none,.store t x y,ty,ps,af,g⟩::rest) D L (A0::A1::A2::bU b tt [u]::C):=UP 3 h ht rfl hv hk rfl k
theorem Rt (cs':List Value) {t n b o tt:Nat} {x y:Operand} {v:Value} {cs:List Value} {A0 A1 A2:au} (h:sF ops L g x y=some (.pointer (some ⟨b,o,none⟩),v)) (ht:(tK E.P t).map (·.2)=some n) (hk:(v.cells.toList.length==n&&v.cells.toList.all Value.oneCell'&&Nat.ble (o+n) cs.length)=true) (hcs:cs.take o++v.cells.toList++cs.drop (o+n)=cs') (k:RJ E ops Q rest D L (A0::A1::A2::bU b tt cs'::C)):RJ E ops Q (⟨none,.store t x y,ty,ps,af,g⟩::rest) D L (A0::A1::A2::bU b tt cs::C):=Sj 3 h ht rfl hk hcs rfl k
theorem Ps {t n b tt:Nat} {x y:Operand} {cs cs':List Value} {A0 A1 A2 A3:au} (h:sF ops L g x y=some (.pointer (some ⟨b,0,none⟩),.agg cs'.toArray)) (ht:(tK E.P t).map (·.2)=some n) (hk:(Nat.beq cs'.length n&&cs'.all Value.oneCell'&&Nat.beq n cs.length)=true) (k:RJ E ops Q rest D L (A0::A1::A2::A3::bU b tt cs'::C)):RJ E ops Q (⟨none,.store t x y,ty,ps,af,g⟩::rest) D L (A0::A1::A2::A3::bU b tt cs::C):=OC 4 h ht rfl hk rfl k
theorem Vq (cs':List Value) {t n b o tt:Nat} {x y:Operand} {v:Value} {cs:List Value} {A0 A1 A2 A3:au} (h:sF ops L g x y=some (.pointer (some ⟨b,o,none⟩),v)) (ht:(tK E.P t).map (·.2)=some n) (hk:(v.cells.toList.length==n&&v.cells.toList.all Value.oneCell'&&Nat.ble (o+n) cs.length)=true) (hcs:cs.take o++v.cells.toList++cs.drop (o+n)=cs') (k:RJ E ops Q rest D L (A0::A1::A2::A3::bU b tt cs'::C)):RJ E ops Q (⟨none,.store t x y,ty,ps,af,g⟩::rest) D L (A0::A1::A2::A3::bU b tt cs::C):=Sj 4 h ht rfl hk hcs rfl k
theorem Ia {t n b tt:Nat} {x y:Operand} {cs cs':List Value} {A0 A1 A2 A3 A4:au} (h:sF ops L g x y=some (.pointer (some ⟨b,0,none⟩),.agg cs'.toArray)) (ht:(tK E.P t).map (·.2)=some n) (hk:(Nat.beq cs'.length n&&cs'.all Value.oneCell'&&Nat.beq n cs.length)=true) (k:RJ E ops Q rest D L (A0::A1::A2::A3::A4::bU b tt cs'::C)):RJ E ops Q (⟨none,.store t x y,ty,ps,af,g⟩::rest) D L (A0::A1::A2::A3::A4::bU b tt cs::C):=OC 5 h ht rfl hk rfl k
theorem O_ {t n b tt:Nat} {x y:Operand} {cs cs':List Value} {A0 A1 A2 A3 A4 A5:au} (h:sF ops L g x y=some (.pointer (some ⟨b,0,none⟩),.agg cs'.toArray)) (ht:(tK E.P t).map (·.2)=some n) (hk:(Nat.beq cs'.length n&&cs'.all Value.oneCell'&&Nat.beq n cs.length)=true) (k:RJ E ops Q rest D L (A0::A1::A2::A3::A4::A5::bU b tt cs'::C)):RJ E ops Q (⟨none,.store t x y,ty,ps,af,g⟩::rest) D L (A0::A1::A2::A3::A4::A5::bU b tt cs::C):=OC 6 h ht rfl hk rfl k
theorem VH {t n b tt:Nat} {x y:Operand} {v u:Value} {A0 A1 A2 A3 A4 A5:au} (h:sF ops L g x y=some (.pointer (some ⟨b,0,none⟩),v)) (ht:(tK E.P t).map (·.2)=some n) (hv:v.cells.toList=[v]) (hk:(Nat.beq n 1&&v.oneCell')=true) (k:RJ E ops Q rest D L (A0::A1::A2::A3::A4::A5::bU b tt [v]::C)):RJ E ops Q (⟨none,.store t x y,ty,ps,af,g⟩::rest) D L (A0::A1::A2::A3::A4::A5::bU b tt [u]::C):=UP 6 h ht rfl hv hk rfl k
theorem Vs (cs':List Value) {t n b o tt:Nat} {x y:Operand} {v:Value} {cs:List Value} {A0 A1 A2 A3 A4 A5:au} (h:sF ops L g x y=some (.pointer (some ⟨b,o,none⟩),v)) (ht:(tK E.P t).map (·.2)=some n) (hk:(v.cells.toList.length==n&&v.cells.toList.all Value.oneCell'&&Nat.ble (o+n) cs.length)=true) (hcs:cs.take o++v.cells.toList++cs.drop (o+n)=cs') (k:RJ E ops Q rest D L (A0::A1::A2::A3::A4::A5::bU b tt cs'::C)):RJ E ops Q (⟨none,.store t x y,ty,ps,af,g⟩::rest) D L (A0::A1::A2::A3::A4::A5::bU b tt cs::C):=Sj 6 h ht rfl hk hcs rfl k
theorem VK {t n b tt:Nat} {x y:Operand} {cs cs':List Value} {A0 A1 A2 A3 A4 A5 A6 A7:au} (h:sF ops L g x y=some (.pointer (some ⟨b,0,none⟩),.agg cs'.toArray)) (ht:(tK E.P t).map (·.2)=some n) (hk:(Nat.beq cs'.length n&&cs'.all Value.oneCell'&&Nat.beq n cs.length)=true) (k:RJ E ops Q rest D L (A0::A1::A2::A3::A4::A5::A6::A7::bU b tt cs'::C)):RJ E ops Q (⟨none,.store t x y,ty,ps,af,g⟩::rest) D L (A0::A1::A2::A3::A4::A5::A6::A7::bU b tt cs::C):=OC 8 h ht rfl hk rfl k
theorem Up (cs':List Value) {t n b o tt:Nat} {x y:Operand} {v:Value} {cs:List Value} {A0 A1 A2 A3 A4 A5 A6 A7 A8 A9:au} (h:sF ops L g x y=some (.pointer (some ⟨b,o,none⟩),v)) (ht:(tK E.P t).map (·.2)=some n) (hk:(v.cells.toList.length==n&&v.cells.toList.all Value.oneCell'&&Nat.ble (o+n) cs.length)=true) (hcs:cs.take o++v.cells.toList++cs.drop (o+n)=cs') (k:RJ E ops Q rest D L (A0::A1::A2::A3::A4::A5::A6::A7::A8::A9::bU b tt cs'::C)):RJ E ops Q (⟨none,.store t x y,ty,ps,af,g⟩::rest) D L (A0::A1::A2::A3::A4::A5::A6::A7::A8::A9::bU b tt cs::C):=Sj 10 h ht rfl hk hcs rfl k
theorem UQ {t n b tt:Nat} {x y:Operand} {cs cs':List Value} {A0 A1 A2 A3 A4 A5 A6 A7 A8 A9 A10:au} (h:sF ops L g x y=some (.pointer (some ⟨b,0,none⟩),.agg cs'.toArray)) (ht:(tK E.P t).map (·.2)=some n) (hk:(Nat.beq cs'.length n&&cs'.all Value.oneCell'&&Nat.beq n cs.length)=true) (k:RJ E ops Q rest D L (A0::A1::A2::A3::A4::A5::A6::A7::A8::A9::A10::bU b tt cs'::C)):RJ E ops Q (⟨none,.store t x y,ty,ps,af,g⟩::rest) D L (A0::A1::A2::A3::A4::A5::A6::A7::A8::A9::A10::bU b tt cs::C):=OC 11 h ht rfl hk rfl k
end
section
variable {E:e_} {y:Code} {Q:cW} {D:List Deferred} {L:List (Nat×Value)} {C:List au}
theorem WS {id:Nat} {ops:Array Oper} (h: ∀ K:Act→World→Prop,(∀ D L C,WJ E y Q D L C→KJ E K D L C)→RJ E ops (Exit.then K Q) ops.toList D L C):WJ E (.seq (.region id ops false) y) Q D L C:=ai fun K hK=>ak (h K hK)
theorem RK {ops:Array Oper} {K:Act→World→Prop} {Q':cW} (hK: ∀ D L C,WJ E y Q D L C→KJ E K D L C) (k:WJ E y Q D L C):RJ E ops (Exit.then K Q') [] D L C:=aF (aR (hK _ _ _ k))
theorem KK {K:Act→World→Prop} {Q':cW} (hK: ∀ D L C,WJ E y Q D L C→KJ E K D L C) (k:WJ E y Q D L C):KJ E (Exit.then K Q' .normal) D L C:=aR (hK _ _ _ k)
theorem WK {K:Act→World→Prop} {Q':cW} (hK: ∀ D L C,WJ E y Q D L C→KJ E K D L C) (k:WJ E y Q D L C):WJ E .skip (Exit.then K Q') D L C:=bV (aR (hK _ _ _ k))
end
theorem DT {p:Prop} [Decidable p] (h:decide p=true):p:=of_decide_eq_true h
theorem DF {p:Prop} [Decidable p] (h:decide p=false): ¬ p:=of_decide_eq_false h
theorem XT {p:Prop} [Decidable p] (h:(!decide p)=true): ¬ p:=by simpa using h
theorem XF {p:Prop} [Decidable p] (h:(!decide p)=false):p:=by simpa using h
/-- what a function hands back: one result, two, three, that lie in slots -/
theorem Q1 {E:e_} {fn:Func} {K:Act→World→Prop} {L:List (Nat×Value)} {C:List au} {t:Nat} {u v:Value} (hQ: ∀ D L C,LJ E fn (Bn E.w0 v) D L C→KJ E K D L C) (hS:E.S=tq) (hr:fn.results.toList=[.tmp t]) (hl:L.lookup t=some u) (e:u=v):KJ E K [] L C:=
 hQ _ _ _ (gX (vs:=[u]) (by rw [hr]; exact ⟨hl,trivial⟩) fun w hs=>EG e (by rw [hS] at hs; exact hs))
theorem Q2 {E:e_} {fn:Func} {K:Act→World→Prop} {L:List (Nat×Value)} {C:List au} {t s:Nat} {u x v:Value} (hQ: ∀ D L C,LJ E fn (Bn E.w0 v) D L C→KJ E K D L C) (hS:E.S=tq) (hr:fn.results.toList=[.tmp t,.tmp s]) (hl:L.lookup t=some u) (hm:L.lookup s=some x) (e:vT [u,x]=v):KJ E K [] L C:=
 hQ _ _ _ (gX (vs:=[u,x]) (by rw [hr]; exact ⟨hl,hm,trivial⟩) fun w hs=>EG e (by rw [hS] at hs; exact hs))
theorem N1 {E:e_} {ops:Array Oper} {D:List Deferred} {C' C1:List au} {F:List (Nat×Value)→List au→Prop} {tb rem:List Nat} {n:Nat} {L:List (Nat×Value)} {C:List au} (i:Nat)
 (h:CR E ops D C' C1 F tb n (rem.filter (· != i)) i L C) (hm:rem.filter (fun i=>rem.all fun j=> !iu (p5 ops) j i)=[i]:=by kernel_rfl):TN E ops D C' C1 F tb (n+1) rem L C:=iQ [i] hm (eI h kQ)
theorem NO {E:e_} {ops:Array Oper} {D:List Deferred} {C' C1:List au} {F:List (Nat×Value)→List au→Prop} {tb rem:List Nat} {n i:Nat} {L:List (Nat×Value)} {C:List au} {o:Oper} (ho:ops[i]? =some o) (ht:tb.contains i=false) (rem':List Nat)
 (h: ∀ K:Act→World→Prop,(∀ L' C'',(∀ w,St E.S E.w0 C'' w→St E.S E.w0 C' w)→TN E ops D C' C1 F tb n rem' L' C''→KJ E K D L' C'')→RJ E ops (NQ K) [o] D L C) (hr:rem=rem':=by kernel_rfl):CR E ops D C' C1 F tb n rem i L C:=U5 ho hr ht h
theorem RD {E:e_} {ops:Array Oper} {K:Act→World→Prop} {D:List Deferred} {L:List (Nat×Value)} {C C':List au} {X:List (Nat×Value)→List au→Prop} (hT: ∀ L' C'',(∀ w,St E.S E.w0 C'' w→St E.S E.w0 C' w)→X L' C''→KJ E K D L' C'')
 (k:Nat) (h2:C.drop k=C') (h:X L C):RJ E ops (NQ K) [] D L C:=aF (hT _ _ (fun w hs=>h2▸hs.take (List.drop_sublist k C)) h)
theorem aS {L L':List (Nat×Value)} (h:L'.map (fun p=>L.lookup p.1)=L'.map (fun p=>some p.2)):dw L L':=by
 induction L' with
 |nil=>exact dw.nil _
 |cons p t ih=>
  simp only [List.map_cons,List.cons.injEq] at h
  exact dw.cons h.1 (ih h.2)
theorem M8 {C:List au} {A A' B B' D D':au} (i j k:Nat) (h1:C[i]? =some A') (e1:A'.holds=A.holds) (h2:C[j]? =some B') (e2:B'.holds=B.holds) (h3:C[k]? =some D') (e3:D'.holds=D.holds):ke C [A,B,D]:=fq i h1 e1 (fq j h2 e2 (fq k h3 e3 aJ))
theorem bM {E:e_} {c:Operand} {x y:Code} {b:Bool} {Q:cW} {D:List Deferred} {L:List (Nat×Value)} {C:List au} (hc:ev L c=some (.bool b)) (h2:b=false→WJ E y Q D L C) (h1:b=true→WJ E x Q D L C):WJ E (.cond c x y) Q D L C:=cy hc h1 h2
theorem bZ {E:e_} {ops:Array Oper} {Q:cW} {rest:List Oper} {D:List Deferred} {L:List (Nat×Value)} {C:List au} {t:Nat} {b:Bool} (h:L.lookup t=some (.bool b)) (h2:b=false→RJ E ops Q rest D ((t,.bool false)::L) C) (h1:b=true→RJ E ops Q rest D ((t,.bool true)::L) C):RJ E ops Q rest D L C:=cN h h1 h2
theorem ji {E:e_} {ops:Array Oper} {Q:cW} {rest:List Oper} {D:List Deferred} {L:List (Nat×Value)} {C:List au} {t:Nat} {b:Bool} {os:List Oper} (h:L.lookup t=some (.bool b)) (h2:b=false→DJ E ops D C (fun L2=>RJ E ops Q rest D L2 C) os ((t,.bool false)::L)) (h1:b=true→DJ E ops D C (fun L2=>RJ E ops Q rest D L2 C) os ((t,.bool true)::L)):DJ E ops D C (fun L2=>RJ E ops Q rest D L2 C) os L:=iR h h1 h2
theorem cO {L:List (Nat×Value)}: ∀ (k:Nat) {L2:List (Nat×Value)} (q:dw L (L2.drop k)) (h:(L2.take k).map (fun p=>L.lookup p.1)=(L2.take k).map (fun p=>some p.2):=by rfl),dw L L2
 |0,_,q,_=>q
 |_+1,[],_,_=>dw.nil _
 |k+1,p::L2,q,h=>by
  obtain ⟨A,B⟩:=List.cons.inj (show L.lookup p.1::(L2.take k).map (fun p=>L.lookup p.1)=some p.2::(L2.take k).map (fun p=>some p.2) from h)
  exact dw.cons (t:=p.1) (v:=p.2) A (cO k q B)
theorem oX {E:e_} {ops:Array Oper} {Q:cW} {rest:List Oper} {D:List Deferred} {L:List (Nat×Value)} {C:List au} {d:Nat} {ty:TypeId} {ps:String} {af:Array Edge} {g:Option (Nat×Bool)} {op:Op} (k:RJ E ops Q rest D ((d,undef)::L) C) (h:(Dg ops L g&&Nat.blt d E.n)=true:=by rfl):RJ E ops Q (⟨some d,op,ty,ps,af,g⟩::rest) D L C:=rS (OX h) k
theorem dX {E:e_} {ops:Array Oper} {F:List (Nat×Value)→Prop} {rest:List Oper} {D:List Deferred} {L:List (Nat×Value)} {C:List au} {d:Nat} {ty:TypeId} {ps:String} {af:Array Edge} {g:Option (Nat×Bool)} {op:Op} (k:DJ E ops D C F rest ((d,undef)::L)) (h:(Dg ops L g&&Nat.blt d E.n)=true:=by rfl):DJ E ops D C F (⟨some d,op,ty,ps,af,g⟩::rest) L:=dS (OX h) k
end
section
open Go.RowKit
/-- what of a slice is left from k on -/
def Aq (A:OA) (c k sz:Nat):OA:=if c=k then A else A.map (·.add (k*sz))
section
variable {E:e_} {ops:Array Oper} {Q:cW} {rest:List Oper} {D:List Deferred} {L:List (Nat×Value)} {C:List au}
variable {d:Nat} {ty:TypeId} {ps:String} {af:Array Edge} {g:Option (Nat×Bool)}
theorem F3 {P:Program} {t e sz:Nat} (h:tE P t=some (e,sz)) (w:World):P.underlying t=some (.slice e)∧(sizeOf e).run P w= .ok sz w:=by
 unfold tE at h
 split at h
 ·rename_i e' hu
  split at h
  ·rename_i i hi
   cases h
   exact ⟨hu,by simp [sizeOf,typeInfo,hi]⟩
  ·cases h
 ·cases h
theorem vV {P:Program} {t e:Nat} (h:P.underlying t=some (.slice e)):P.underlying t=some (.slice (P.elem t)):=by
 rw [h]; simp [Program.elem,h]
theorem Ge {P:Program} {t e:Nat} (h:P.underlying t=some (.slice e)):P.elem t=e:=by simp [Program.elem,h]
/-- s[k:] -/
theorem VB (k:Nat) {x lo:Operand} {t e sz n c:Nat} {A:OA} {j:Int} (h:bF E.n ops L d g x lo=some (.slice A n c,.int .i64 j)) (ht:tE E.P t=some (e,sz)) (hj:j=(k:Int)) (hk:k≤n):
 SE E ops ⟨some d,.slice t x (some lo) none none,ty,ps,af,g⟩ D L C (.slice (Aq A c k sz) (n-k) (c-k)) d:=by
 obtain ⟨G,H,AA,J⟩:=qC h
 subst hj
 refine ⟨dE G sm fun a w B hs=>?_,U,H⟩
 obtain ⟨hu,hz⟩:=F3 ht w
 have hr:=run_slice_l (P:=E.P) w t A n c (vV hu) .i64 (k:Int) om om
 rw [Ge hu,hz] at hr
 simp only [Result.andThen,Int.toNat_natCast,sliced] at hr
 have F:=run_sliceAt_slice (P:=E.P) w t (.slice A n c) (some (.int .i64 (k:Int))) none none (vV hu)
 simp [execOp,B.ev AA,B.ev J,F,hr,Aq]
/-- s[:k] -/
theorem Vp (k:Nat) {x hi:Operand} {t e sz n c:Nat} {A:OA} {j:Int} (h:bF E.n ops L d g x hi=some (.slice A n c,.int .i64 j)) (ht:tE E.P t=some (e,sz)) (hj:j=(k:Int)) (hk:k≤c):
 SE E ops ⟨some d,.slice t x none (some hi) none,ty,ps,af,g⟩ D L C (.slice A k c) d:=by
 obtain ⟨H,AA,J,K⟩:=qC h
 subst hj
 refine ⟨dE H sm fun a w B hs=>?_,U,AA⟩
 obtain ⟨hu,hz⟩:=F3 ht w
 have hr:=run_slice_h (P:=E.P) w t A n c (vV hu) .i64 (k:Int) om om
 rw [Ge hu,hz] at hr
 have G:(if c=0 then A else A.map (·.add (0*sz)))=A:=by
  split
  ·rfl
  ·cases A with
   |none=>rfl
   |some ad=>simp [Addr.add]
 simp only [Result.andThen,Int.toNat_natCast,sliced,G,Nat.sub_zero] at hr
 have F:=run_sliceAt_slice (P:=E.P) w t (.slice A n c) none (some (.int .i64 (k:Int))) none (vV hu)
 simp [execOp,B.ev J,B.ev K,F,hr]
/-- an element of a row whose place is known -/
theorem VF (k:Nat) {x ix:Operand} {A:OA} {ad:Addr} {n c sz e t:Nat} {j:Int} (h:bF E.n ops L d g x ix=some (.slice A n c,.int .i64 j)) (hA:A=some ad) (ht:tE E.P t=some (e,sz)) (hj:j=(k:Int)) (hk:k<n):
 SE E ops ⟨some d,.indexAddr t x ix,ty,ps,af,g⟩ D L C (.pointer (lF A (k*sz))) d:=by
 obtain ⟨F,G,H,AA⟩:=qC h
 refine ⟨dE F sm fun a w B hs=>?_,U,G⟩
 subst hA hj
 simp [execOp,B.ev H,B.ev AA,lF,qn ht hk]
end
theorem Fv {w:World} {a:OA} {c e sz:Nat} {es:List (List Value)} (h:(own a c e sz es).holds w):es.length≤c:=by
 rcases h.2.2 with ⟨A,B⟩|⟨g,cap,cur,hv,_,_,C,_⟩
 ·omega
 ·injection hv with _ _ hc; omega
end
section
open Go.RowKit
/-- an array's length, its elements' type and their size -/
def aE (P:Program) (t:TypeId):Option (Nat×TypeId×Nat):=
 match P.underlying t with
 |some (.array n e)=>match P.info? e with
  |some i=>some (n,e,i.size)
  |none=>none
 |_=>none
theorem FF {P:Program} {t n e sz:Nat} (h:aE P t=some (n,e,sz)) (w:World):P.underlying t=some (.array n e)∧(sizeOf e).run P w= .ok sz w:=by
 unfold aE at h
 split at h
 ·rename_i n' e' hu
  split at h
  ·rename_i i hi
   cases h
   exact ⟨hu,by simp [sizeOf,typeInfo,hi]⟩
  ·cases h
 ·cases h
theorem vC {P:Program} {t n e sz:Nat} (h:aE P t=some (n,e,sz)) (a:Addr) (w:World):
 (Instr.sliceAt t (.pointer (some a)) none none none).run P w= .ok (.slice (some a) n n) w:=by
 obtain ⟨hu,hz⟩:=FF h w
 have A:a.add 0=a:=by simp [Addr.add]
 simp [Instr.sliceAt,underlying,hu,Instr.sureAddr,Instr.sliceBounds,hz,A]
theorem vt {P:Program} {t n e sz:Nat} (h:aE P t=some (n,e,sz)) (a:Addr) {k:Nat} (hk:k<n) (w:World):
 (Instr.indexAt t (.pointer (some a)) (.int .i64 (k:Int))).run P w= .ok (.pointer (some (a.add (k*sz)))) w:=by
 obtain ⟨hu,hz⟩:=FF h w
 have A: ¬ n≤k:=by omega
 simp [Instr.indexAt,underlying,hu,Instr.sureAddr,asIntOf,hz,A]
 try exact fun h=>absurd h A
 try omega
section
variable {E:e_} {ops:Array Oper} {Q:cW} {rest:List Oper} {D:List Deferred} {L:List (Nat×Value)} {C:List au}
variable {dst:Option Nat} {ty:TypeId} {ps:String} {af:Array Edge} {g:Option (Nat×Bool)}
theorem EY {x:Operand} {a:Addr} {t n e sz:Nat} (hg:jq ops L g=true) (hx:ev L x=some (.pointer (some a))) (ht:aE E.P t=some (n,e,sz)):
 SD E ops ⟨dst,.slice t x none none none,ty,ps,af,g⟩ D L C (.slice (some a) n n):=
 dE hg sm fun b w A hs=>by
  simp [execOp,A.ev hx,vC ht]
theorem Em {x ix:Operand} {a:Addr} {t n e sz k:Nat} {j:Int} (hg:jq ops L g=true) (hx:ev L x=some (.pointer (some a))) (hi:ev L ix=some (.int .i64 j)) (ht:aE E.P t=some (n,e,sz)) (hj:j=(k:Int)) (hk:k<n):
 SD E ops ⟨dst,.indexAddr t x ix,ty,ps,af,g⟩ D L C (.pointer (lF (some a) (k*sz))):=
 dE hg sm fun b w A hs=>by
  subst hj
  simp [execOp,A.ev hx,A.ev hi,lF,vt ht a hk]
end
end
section
open Go.RowKit
/-- a table of facts on the program's types -/
structure Dp where
 tk:List (Nat×Bool×Nat)
 fo:List (Nat×List (Option Nat))
 sl:List Nat
def Q8 {α:Type}:List (Nat×α)→Nat→Option α
 |[],_=>none
 |(k,v)::l,t=>match Nat.beq k t with
  |true=>some v
  |false=>Q8 l t
theorem AF {α:Type}: ∀ {l:List (Nat×α)} {t:Nat} {v:α},Q8 l t=some v→(t,v)∈l
 |[],t,v,h=>by simp [Q8] at h
 |(k,u)::l,t,v,h=>by
  unfold Q8 at h
  split at h
  ·rename_i hb
   cases h
   rw [Nat.eq_of_beq_eq_true hb]; exact cf
  ·exact cS _ (AF h)
def Mh:List Nat→Nat→Bool
 |[],_=>false
 |k::l,t=>match Nat.beq k t with
  |true=>true
  |false=>Mh l t
theorem CA: ∀ {l:List Nat} {t:Nat},Mh l t=true→t∈l
 |[],t,h=>by simp [Mh] at h
 |k::l,t,h=>by
  unfold Mh at h
  split at h
  ·rename_i hb
   rw [Nat.eq_of_beq_eq_true hb]; exact cf
  ·exact cS _ (CA h)
def Dp.Kp (T:Dp) (t:Nat):Option (Bool×Nat):=Q8 T.tk t
def Dp.foF (T:Dp) (s f:Nat):Option Nat:=match Q8 T.fo s with
 |some l=>match l[f]? with
  |some (some k)=>some k
  |_=>none
 |none=>none
structure k8 (P:Program) (T:Dp):Prop where
 tk: ∀ p∈T.tk,tK P p.1=some p.2
 fo: ∀ p∈T.fo,∀ f k,p.2[f]? =some (some k)→sL P p.1 f=some k
 sl: ∀ t∈T.sl,∃ e,P.underlying t=some (.slice e)
theorem k8.Kp {P:Program} {T:Dp} (h:k8 P T) {t:Nat} {r:Bool×Nat} (e:T.Kp t=some r):tK P t=some r:=h.tk _ (AF e)
theorem k8.foF {P:Program} {T:Dp} (h:k8 P T) {s f k:Nat} (e:T.foF s f=some k):sL P s f=some k:=by
 unfold Dp.foF at e
 split at e
 ·rename_i l hl
  split at e
  ·rename_i k' hk
   cases e
   exact h.fo _ (AF hl) f k hk
  ·cases e
 ·cases e
def TG (P:Program) (T:Dp):Bool:=(T.tk.all fun p=>decide (tK P p.1=some p.2))&&(T.fo.all fun p=>(List.range p.2.length).all fun f=>match p.2[f]? with
 |some (some k)=>decide (sL P p.1 f=some k)
 |_=>true)&&T.sl.all fun t=>match P.underlying t with
 |some (.slice _)=>true
 |_=>false
theorem PI {P:Program} {T:Dp} (h:TG P T=true):k8 P T:=by
 unfold TG at h
 rw [cK,cK] at h
 obtain ⟨⟨B,C⟩,D⟩:=h
 refine ⟨fun p hp=>by simpa using List.all_eq_true.1 B p hp,fun p hp f k hk=>?_,fun t ht=>?_⟩
 ·have A:=List.all_eq_true.1 (List.all_eq_true.1 C p hp) f (List.mem_range.2 (List.getElem?_eq_some_iff.1 hk).1)
  rw [hk] at A
  simpa using A
 ·have A:=List.all_eq_true.1 D t ht
  split at A
  ·rename_i e he; exact ⟨e,he⟩
  ·cases A
end
section
theorem NU:tK Tryz.prog 3=some (false,1):=by kernel_rfl
theorem VM:tK Tryz.prog 4=some (false,1):=by kernel_rfl
theorem T_:tK Tryz.prog 25=some (false,1):=by kernel_rfl
theorem Va:tK Tryz.prog 28=some (false,1):=by kernel_rfl
theorem UB:tK Tryz.prog 29=some (false,1):=by kernel_rfl
theorem Ub:tK Tryz.prog 31=some (true,7):=by kernel_rfl
theorem Vb:tK Tryz.prog 32=some (false,1):=by kernel_rfl
theorem U3:tK Tryz.prog 33=some (false,1):=by kernel_rfl
theorem RS:tK Tryz.prog 35=some (true,11):=by kernel_rfl
theorem UT:tK Tryz.prog 40=some (true,2):=by kernel_rfl
theorem Ud:tK Tryz.prog 41=some (false,1):=by kernel_rfl
theorem UY:tK Tryz.prog 43=some (true,3):=by kernel_rfl
theorem U1:tK Tryz.prog 45=some (true,7):=by kernel_rfl
theorem Qd:tK Tryz.prog 46=some (false,1):=by kernel_rfl
theorem Uq:tK Tryz.prog 64=some (false,1):=by kernel_rfl
theorem UU:tK Tryz.prog 67=some (false,1):=by kernel_rfl
theorem Vv:tK Tryz.prog 81=some (false,1):=by kernel_rfl
theorem Um:tK Tryz.prog 82=some (false,1):=by kernel_rfl
theorem UR:tK Tryz.prog 89=some (false,1):=by kernel_rfl
theorem S9:tK Tryz.prog 111=some (true,3):=by kernel_rfl
theorem Tx:tK Tryz.prog 114=some (true,9):=by kernel_rfl
theorem Sq:tK Tryz.prog 116=some (true,3):=by kernel_rfl
theorem TC:tK Tryz.prog 117=some (false,1):=by kernel_rfl
theorem Rg:tK Tryz.prog 119=some (true,2):=by kernel_rfl
theorem Ti:tK Tryz.prog 123=some (true,2):=by kernel_rfl
theorem Rv:tK Tryz.prog 144=some (true,1):=by kernel_rfl
theorem SA:tK Tryz.prog 145=some (true,4):=by kernel_rfl
theorem Tk:tK Tryz.prog 203=some (true,1):=by kernel_rfl
theorem Sn:tK Tryz.prog 236=some (false,1):=by kernel_rfl
theorem SG:tK Tryz.prog 238=some (true,3):=by kernel_rfl
theorem Ta:tK Tryz.prog 272=some (false,1):=by kernel_rfl
theorem Tz:tK Tryz.prog 278=some (false,1):=by kernel_rfl
theorem Sb:tK Tryz.prog 280=some (true,2):=by kernel_rfl
theorem B1:(tK Tryz.prog 3).map (·.2)=some 1:=by rw [NU]; rfl
theorem UI:(tK Tryz.prog 25).map (·.2)=some 1:=by rw [T_]; rfl
theorem Uf:(tK Tryz.prog 28).map (·.2)=some 1:=by rw [Va]; rfl
theorem UH:(tK Tryz.prog 29).map (·.2)=some 1:=by rw [UB]; rfl
theorem U2:(tK Tryz.prog 31).map (·.2)=some 7:=by rw [Ub]; rfl
theorem Ai:(tK Tryz.prog 32).map (·.2)=some 1:=by rw [Vb]; rfl
theorem UD:(tK Tryz.prog 33).map (·.2)=some 1:=by rw [U3]; rfl
theorem sE:(tK Tryz.prog 35).map (·.2)=some 11:=by rw [RS]; rfl
theorem cp:(tK Tryz.prog 40).map (·.2)=some 2:=by rw [UT]; rfl
theorem UO:(tK Tryz.prog 41).map (·.2)=some 1:=by rw [Ud]; rfl
theorem UK:(tK Tryz.prog 43).map (·.2)=some 3:=by rw [UY]; rfl
theorem Qy:(tK Tryz.prog 45).map (·.2)=some 7:=by rw [U1]; rfl
theorem TV:(tK Tryz.prog 46).map (·.2)=some 1:=by rw [Qd]; rfl
theorem MF:(tK Tryz.prog 64).map (·.2)=some 1:=by rw [Uq]; rfl
theorem Vj:(tK Tryz.prog 67).map (·.2)=some 1:=by rw [UU]; rfl
theorem SU:(tK Tryz.prog 81).map (·.2)=some 1:=by rw [Vv]; rfl
theorem UX:(tK Tryz.prog 82).map (·.2)=some 1:=by rw [Um]; rfl
theorem UA:(tK Tryz.prog 89).map (·.2)=some 1:=by rw [UR]; rfl
theorem KG:(tK Tryz.prog 111).map (·.2)=some 3:=by rw [S9]; rfl
theorem Lh:(tK Tryz.prog 114).map (·.2)=some 9:=by rw [Tx]; rfl
theorem sR:(tK Tryz.prog 116).map (·.2)=some 3:=by rw [Sq]; rfl
theorem SO:(tK Tryz.prog 117).map (·.2)=some 1:=by rw [TC]; rfl
theorem O5:(tK Tryz.prog 119).map (·.2)=some 2:=by rw [Rg]; rfl
theorem wi:(tK Tryz.prog 123).map (·.2)=some 2:=by rw [Ti]; rfl
theorem Fl:(tK Tryz.prog 144).map (·.2)=some 1:=by rw [Rv]; rfl
theorem Tb:(tK Tryz.prog 145).map (·.2)=some 4:=by rw [SA]; rfl
theorem JS:(tK Tryz.prog 203).map (·.2)=some 1:=by rw [Tk]; rfl
theorem Tg:(tK Tryz.prog 236).map (·.2)=some 1:=by rw [Sn]; rfl
theorem Tr:(tK Tryz.prog 238).map (·.2)=some 3:=by rw [SG]; rfl
theorem zd:(tK Tryz.prog 272).map (·.2)=some 1:=by rw [Ta]; rfl
theorem LV:(tK Tryz.prog 278).map (·.2)=some 1:=by rw [Tz]; rfl
theorem rK:(tK Tryz.prog 280).map (·.2)=some 2:=by rw [Sb]; rfl
theorem zt:aE Tryz.prog 152=some (3,151,2):=by kernel_rfl
theorem Pu:sL Tryz.prog 45 0=some 0:=by kernel_rfl
theorem UN:sD Tryz.prog 40=true:=by kernel_rfl
theorem Uk:sD Tryz.prog 69=true:=by kernel_rfl
theorem gU (l:List aa): ∀ v∈(l.map aa.cells).flatten,v.oneCell'=true:=mz (fun _=>rfl) l
theorem sh (l:List al): ∀ v∈(l.map al.cells).flatten,v.oneCell'=true:=mz (fun _=>rfl) l
theorem vz (l:List cw): ∀ v∈(l.map cw.cells).flatten,v.oneCell'=true:=mz (fun _=>rfl) l
theorem vx (l:List bB): ∀ v∈(l.map bB.cells).flatten,v.oneCell'=true:=mz (fun _=>rfl) l
theorem s_ (l:List aM): ∀ v∈(l.map aM.cells).flatten,v.oneCell'=true:=mz (fun _=>rfl) l
theorem Vo:tA Tryz.prog 25=some (114,9,72,(Value.agg [(vI 0),(vI 0),(vI 0),(vI 0),(vI 0),(vI 0),(vI 0),(Value.int .u8 0),(vI 0)].toArray)):=by kernel_rfl
theorem Vr:tA Tryz.prog 28=some (119,2,32,(Value.agg [(vI 0),(vS none 0 0)].toArray)):=by kernel_rfl
theorem Vc:tA Tryz.prog 29=some (121,4,32,(Value.agg [(vI 0),(vI 0),(vI 0),(vI 0)].toArray)):=by kernel_rfl
theorem pZ:tA Tryz.prog 32=some (3,1,8,(vI 0)):=by kernel_rfl
theorem Uo:tA Tryz.prog 33=some (46,1,24,(vS none 0 0)):=by kernel_rfl
theorem Ug:tA Tryz.prog 41=some (123,2,16,(Value.agg [(vI 0),(vI 0)].toArray)):=by kernel_rfl
theorem Uv:tA Tryz.prog 46=some (45,7,64,(Value.agg [(vB false),(vB false),(vI 0),(vI 0),(vI 0),(vI 0),(vS none 0 0)].toArray)):=by kernel_rfl
theorem U_:tA Tryz.prog 59=some (32,1,24,(vS none 0 0)):=by kernel_rfl
theorem Ei:tA Tryz.prog 82=some (40,2,16,(Value.agg [(vI 0),(vI 0)].toArray)):=by kernel_rfl
theorem Sf:tA Tryz.prog 89=some (82,1,24,(vS none 0 0)):=by kernel_rfl
theorem Q_:tA Tryz.prog 117=some (116,3,24,(Value.agg [(vI 0),(vI 0),(vI 0)].toArray)):=by kernel_rfl
theorem ON:tA Tryz.prog 227=some (241,3,72,(Value.agg [(vS none 0 0),(vS none 0 0),(vS none 0 0)].toArray)):=by kernel_rfl
theorem RV:tA Tryz.prog 236=some (4,1,1,(vB false)):=by kernel_rfl
theorem SH:tA Tryz.prog 271=some (64,1,8,(Value.map none)):=by kernel_rfl
theorem BP:tA Tryz.prog 272=some (278,1,8,(Value.map none)):=by kernel_rfl
theorem Uj:tB Tryz.prog 27=some ([(vS none 0 0)],[(0,1)]):=by kernel_rfl
theorem Ur:tB Tryz.prog 31=some ([(vS none 0 0),(vI 0),(vS none 0 0),(vS none 0 0),(vI 0),(vI 0),(vI 0)],[(0,1),(1,1),(2,1),(3,1),(4,1),(5,1),(6,1)]):=by kernel_rfl
theorem Hm:tB Tryz.prog 35=some ([(vS none 0 0),(vI 0),(vS none 0 0),(vS none 0 0),(vI 0),(vI 0),(vI 0),(vS none 0 0),(vS none 0 0),(vI 0),(vS none 0 0)],[(0,7),(7,1),(8,1),(9,1),(10,1)]):=by kernel_rfl
theorem gn:tB Tryz.prog 40=some ([(vI 0),(vI 0)],[(0,1),(1,1)]):=by kernel_rfl
theorem UJ:tB Tryz.prog 43=some ([(vI 0),(vI 0),(vS none 0 0)],[(0,1),(1,1),(2,1)]):=by kernel_rfl
theorem QG:tB Tryz.prog 45=some ([(vB false),(vB false),(vI 0),(vI 0),(vI 0),(vI 0),(vS none 0 0)],[(0,1),(1,1),(2,2),(4,3)]):=by kernel_rfl
theorem U4:tB Tryz.prog 91=some ([(vS none 0 0),(vI 0),(vS none 0 0),(vS none 0 0),(vI 0),(vI 0),(vI 0),(vS none 0 0),(vS none 0 0),(vI 0),(vS none 0 0),(vS none 0 0),(Value.map none)],[(0,11),(11,1),(12,1)]):=by kernel_rfl
theorem RL:tB Tryz.prog 111=some ([(vI 0),(vI 0),(vI 0)],[(0,1),(1,2)]):=by kernel_rfl
theorem Td:tB Tryz.prog 114=some ([(vI 0),(vI 0),(vI 0),(vI 0),(vI 0),(vI 0),(vI 0),(Value.int .u8 0),(vI 0)],[(0,1),(1,2),(3,2),(5,2),(7,1),(8,1)]):=by kernel_rfl
theorem O4:tB Tryz.prog 116=some ([(vI 0),(vI 0),(vI 0)],[(0,1),(1,2)]):=by kernel_rfl
theorem Rf:tB Tryz.prog 119=some ([(vI 0),(vS none 0 0)],[(0,1),(1,1)]):=by kernel_rfl
theorem Ig:tB Tryz.prog 121=some ([(vI 0),(vI 0),(vI 0),(vI 0)],[(0,3),(3,1)]):=by kernel_rfl
theorem Ga:tB Tryz.prog 123=some ([(vI 0),(vI 0)],[(0,1),(1,1)]):=by kernel_rfl
theorem Gn:tB Tryz.prog 144=some ([Value.nilFunc],[(0,1)]):=by kernel_rfl
theorem Sl:tB Tryz.prog 145=some ([Value.nilFunc,Value.nilFunc,Value.nilFunc,Value.nilFunc],[(0,1),(1,1),(2,1),(3,1)]):=by kernel_rfl
theorem S6:tB Tryz.prog 166=some ([(vI 0),(vI 0)],[(0,1),(1,1)]):=by kernel_rfl
theorem Rm:tB Tryz.prog 203=some ([(vS none 0 0)],[(0,1)]):=by kernel_rfl
theorem Ra:tB Tryz.prog 241=some ([(vS none 0 0),(vS none 0 0),(vS none 0 0)],[(0,1),(1,1),(2,1)]):=by kernel_rfl
theorem R_:tB Tryz.prog 274=some ([(vS none 0 0),(vI 0),(vS none 0 0),(vS none 0 0),(vI 0),(vI 0),(vI 0),(vI 0),(vI 0),(vS none 0 0),(vS none 0 0),(vS none 0 0),(vS none 0 0),(vS none 0 0)],[(0,7),(7,3),(10,1),(11,1),(12,1),(13,1)]):=by kernel_rfl
theorem Cy:tB Tryz.prog 280=some ([(vI 0),(vI 0)],[(0,1),(1,1)]):=by kernel_rfl
theorem yi:tE Tryz.prog 25=some (114,9):=by kernel_rfl
theorem Ar:tE Tryz.prog 28=some (119,2):=by kernel_rfl
theorem vw:tE Tryz.prog 29=some (121,4):=by kernel_rfl
theorem cv:tE Tryz.prog 32=some (3,1):=by kernel_rfl
theorem rF:tE Tryz.prog 33=some (46,1):=by kernel_rfl
theorem z5:tE Tryz.prog 41=some (123,2):=by kernel_rfl
theorem wK:tE Tryz.prog 46=some (45,7):=by kernel_rfl
theorem pg:tE Tryz.prog 59=some (32,1):=by kernel_rfl
theorem Uy:tE Tryz.prog 74=some (109,1):=by kernel_rfl
theorem jF:tE Tryz.prog 82=some (40,2):=by kernel_rfl
theorem MR:tE Tryz.prog 89=some (82,1):=by kernel_rfl
theorem qE:tE Tryz.prog 117=some (116,3):=by kernel_rfl
theorem Ky:tE Tryz.prog 148=some (151,2):=by kernel_rfl
theorem Kj:tE Tryz.prog 218=some (111,3):=by kernel_rfl
theorem F2:tE Tryz.prog 227=some (241,3):=by kernel_rfl
theorem O0:tE Tryz.prog 236=some (4,1):=by kernel_rfl
theorem OF:tE Tryz.prog 270=some (266,1):=by kernel_rfl
theorem FJ:tE Tryz.prog 271=some (64,1):=by kernel_rfl
theorem n_:tE Tryz.prog 272=some (278,1):=by kernel_rfl
theorem AE:(match Tryz.prog.underlying 40 with |some (.struct fs)=>(fs[0]?).map (fun fl=>tK Tryz.prog fl.type)|_=>none)=some (some (false,1)):=by kernel_rfl
theorem Az:(match Tryz.prog.underlying 40 with |some (.struct fs)=>(fs[1]?).map (fun fl=>tK Tryz.prog fl.type)|_=>none)=some (some (false,1)):=by kernel_rfl
theorem VD:tV Tryz.prog 3=some (vI 0):=by kernel_rfl
theorem xH:tV Tryz.prog 40=some (Value.agg [(vI 0),(vI 0)].toArray):=by kernel_rfl
theorem Fk:tX Tryz.prog 145=some (4,144):=by kernel_rfl
theorem Gd:tX Tryz.prog 166=some (2,3):=by kernel_rfl
theorem ja:tZ Tryz.prog 3=some [(vI 0)]:=by kernel_rfl
theorem VL:tZ Tryz.prog 4=some [(vB false)]:=by kernel_rfl
theorem z8:tZ Tryz.prog 12=some [(Value.int .u64 0)]:=by kernel_rfl
theorem U6:tZ Tryz.prog 31=some [(vS none 0 0),(vI 0),(vS none 0 0),(vS none 0 0),(vI 0),(vI 0),(vI 0)]:=by kernel_rfl
theorem vu:tZ Tryz.prog 32=some [(vS none 0 0)]:=by kernel_rfl
theorem z_:tZ Tryz.prog 35=some [(vS none 0 0),(vI 0),(vS none 0 0),(vS none 0 0),(vI 0),(vI 0),(vI 0),(vS none 0 0),(vS none 0 0),(vI 0),(vS none 0 0)]:=by kernel_rfl
theorem cZ:tZ Tryz.prog 40=some [(vI 0),(vI 0)]:=by kernel_rfl
theorem US:tZ Tryz.prog 43=some [(vI 0),(vI 0),(vS none 0 0)]:=by kernel_rfl
theorem Oe:tZ Tryz.prog 45=some [(vB false),(vB false),(vI 0),(vI 0),(vI 0),(vI 0),(vS none 0 0)]:=by kernel_rfl
theorem U7:tZ Tryz.prog 46=some [(vS none 0 0)]:=by kernel_rfl
theorem S8:tZ Tryz.prog 64=some [(Value.map none)]:=by kernel_rfl
theorem Ux:tZ Tryz.prog 67=some [(Value.map none)]:=by kernel_rfl
theorem Sp:tZ Tryz.prog 81=some [(Value.pointer none)]:=by kernel_rfl
theorem Tc:tZ Tryz.prog 82=some [(vS none 0 0)]:=by kernel_rfl
theorem BE:tZ Tryz.prog 111=some [(vI 0),(vI 0),(vI 0)]:=by kernel_rfl
theorem Fa:tZ Tryz.prog 114=some [(vI 0),(vI 0),(vI 0),(vI 0),(vI 0),(vI 0),(vI 0),(Value.int .u8 0),(vI 0)]:=by kernel_rfl
theorem rR:tZ Tryz.prog 116=some [(vI 0),(vI 0),(vI 0)]:=by kernel_rfl
theorem Jl:tZ Tryz.prog 119=some [(vI 0),(vS none 0 0)]:=by kernel_rfl
theorem Sd:tZ Tryz.prog 121=some [(vI 0),(vI 0),(vI 0),(vI 0)]:=by kernel_rfl
theorem FH:tZ Tryz.prog 123=some [(vI 0),(vI 0)]:=by kernel_rfl
theorem Gk:tZ Tryz.prog 144=some [Value.nilFunc]:=by kernel_rfl
theorem SW:tZ Tryz.prog 145=some [Value.nilFunc,Value.nilFunc,Value.nilFunc,Value.nilFunc]:=by kernel_rfl
theorem Jr:tZ Tryz.prog 203=some [(vS none 0 0)]:=by kernel_rfl
theorem O6:tZ Tryz.prog 238=some [(vS none 0 0),(vS none 0 0),(vS none 0 0)]:=by kernel_rfl
theorem RW:tZ Tryz.prog 241=some [(vS none 0 0),(vS none 0 0),(vS none 0 0)]:=by kernel_rfl
theorem Rl:tZ Tryz.prog 266=some [Value.nilFunc]:=by kernel_rfl
theorem tY:tZ Tryz.prog 280=some [(vI 0),(vI 0)]:=by kernel_rfl
theorem oz:Tryz.prog.underlying 3=some (.int .i64):=by kernel_rfl
theorem VE:Tryz.prog.underlying 4=some .bool:=by kernel_rfl
theorem O2:Tryz.prog.underlying 5=some (.int .u8):=by kernel_rfl
theorem VJ:Tryz.prog.underlying 9=some .string:=by kernel_rfl
theorem PC:Tryz.prog.underlying 25=some (.slice 114):=by kernel_rfl
theorem Tp:Tryz.prog.underlying 28=some (.slice 119):=by kernel_rfl
theorem Qf:Tryz.prog.underlying 29=some (.slice 121):=by kernel_rfl
theorem SV:Tryz.prog.underlying 32=some (.slice 3):=by kernel_rfl
theorem To:Tryz.prog.underlying 33=some (.slice 46):=by kernel_rfl
theorem RM:Tryz.prog.underlying 41=some (.slice 123):=by kernel_rfl
theorem Si:Tryz.prog.underlying 46=some (.slice 45):=by kernel_rfl
theorem l8:Tryz.prog.underlying 64=some (.map 3 40):=by kernel_rfl
theorem Cq:Tryz.prog.underlying 67=some (.map 3 4):=by kernel_rfl
theorem Q9:Tryz.prog.underlying 74=some (.slice 109):=by kernel_rfl
theorem OS:Tryz.prog.underlying 109=some (.int .u32):=by kernel_rfl
theorem Pf:Tryz.prog.underlying 117=some (.slice 116):=by kernel_rfl
theorem Tt:Tryz.prog.underlying 136=some (.int .u64):=by kernel_rfl
theorem Sh:Tryz.prog.underlying 179=some (.int .u64):=by kernel_rfl
theorem oQ:Tryz.prog.underlying 278=some (.map 280 3):=by kernel_rfl
theorem Qu:fL Tryz.prog 40=some [(3,0),(3,1)]:=by kernel_rfl
theorem O3 (d:Nat) (s z:aa) (w:World):(Op.equalIn (d+2) 40 (.agg s.cells.toArray) (.agg z.cells.toArray)).run Tryz.prog w= .ok (decide (s=z)) w:=by
 have hc:(decide (s.Lo=z.Lo)&&(decide (s.Hi=z.Hi)&&true))=decide (s=z):=by rw [Bool.eq_iff_iff]; simp [aa.ext_iff]
 rw [← hc]
 exact xY (d+1) Qu w (tj w (jL NU U w) (jL NU U w) (v9 _ oz w) (tj w (jL NU U w) (jL NU U w) (v9 _ oz w) (Gl w)))
theorem tU (x y:Operand) (s z:aa):ic Tryz.prog .eql 40 x y (.agg s.cells.toArray) (.agg z.cells.toArray) (.bool (decide (s=z))):=HY x y (C8 Qu) fun w=>O3 9998 s z w
theorem S7 (x y:Operand) (s z:aa):ic Tryz.prog .neq 40 x y (.agg s.cells.toArray) (.agg z.cells.toArray) (.bool (!decide (s=z))):=GD x y (C8 Qu) fun w=>O3 9998 s z w
theorem Pm:fL Tryz.prog 280=some [(3,0),(3,1)]:=by kernel_rfl
theorem PW (d:Nat) (s z:aC) (w:World):(Op.equalIn (d+2) 280 (.agg s.cells.toArray) (.agg z.cells.toArray)).run Tryz.prog w= .ok (decide (s=z)) w:=by
 have hc:(decide (s.right=z.right)&&(decide (s.eQ=z.eQ)&&true))=decide (s=z):=by rw [Bool.eq_iff_iff]; simp [aC.ext_iff]
 rw [← hc]
 exact xY (d+1) Pm w (tj w (jL NU U w) (jL NU U w) (v9 _ oz w) (tj w (jL NU U w) (jL NU U w) (v9 _ oz w) (Gl w)))
theorem cq:Tryz.prog.follows .mixedOrders=true:=by kernel_rfl
def TT:Dp:=⟨[(1,false,1),(2,false,1),(3,false,1),(4,false,1),(5,false,1),(6,false,1),(7,true,4),(8,true,4),(12,false,1),(15,false,1),(16,false,1),(17,false,1),(18,true,1),(19,true,1),(21,false,1),(22,false,1),(23,false,1),(24,false,1),(25,false,1),(26,true,1),(27,true,1),(28,false,1),(29,false,1),(30,true,7),(31,true,7),(32,false,1),(33,false,1),(34,true,11),(35,true,11),(36,false,1),(37,false,1),(38,false,1),(39,true,2),(40,true,2),(41,false,1),(42,true,3),(43,true,3),(44,true,7),(45,true,7),(46,false,1),(47,false,1),(49,false,1),(50,false,1),(52,false,1),(54,false,1),(55,false,1),(57,false,1),(58,false,1),(59,false,1),(61,false,1),(62,false,1),(63,false,1),(64,false,1),(66,false,1),(67,false,1),(69,false,1),(70,false,1),(71,false,1),(72,false,1),(73,false,1),(74,false,1),(75,false,1),(76,false,1),(77,false,1),(78,false,1),(79,false,1),(80,false,1),(81,false,1),(82,false,1),(84,false,1),(86,false,1),(87,false,1),(88,false,1),(89,false,1),(90,true,13),(91,true,13),(92,false,1),(93,false,1),(94,false,1),(95,false,1),(96,false,1),(97,false,1),(98,false,1),(99,false,1),(100,false,1),(101,false,1),(102,false,1),(103,false,1),(104,false,1),(105,false,1),(106,false,1),(107,false,1),(108,false,1),(109,false,1),(110,true,3),(111,true,3),(112,false,1),(113,true,9),(114,true,9),(115,true,3),(116,true,3),(117,false,1),(118,true,2),(119,true,2),(120,true,4),(121,true,4),(122,true,2),(123,true,2),(124,false,1),(125,false,1),(126,false,1),(127,false,1),(128,false,1),(129,false,1),(130,false,1),(131,false,1),(132,false,1),(133,false,1),(134,false,1),(135,false,1),(136,false,1),(137,false,1),(139,false,1),(140,false,1),(141,false,1),(142,false,1),(143,false,1),(144,true,1),(145,true,4),(146,false,1),(147,false,1),(148,false,1),(149,false,1),(150,true,2),(151,true,2),(152,true,6),(153,false,1),(154,false,1),(155,false,1),(156,false,1),(157,false,1),(158,false,1),(159,false,1),(160,false,1),(161,false,1),(162,false,1),(163,false,1),(164,false,1),(165,false,1),(166,true,2),(167,false,1),(168,false,1),(169,false,1),(171,false,1),(172,false,1),(173,false,1),(174,false,1),(176,false,1),(177,false,1),(178,false,1),(179,false,1),(180,false,1),(181,false,1),(183,false,1),(184,false,1),(185,false,1),(186,false,1),(187,false,1),(188,false,1),(189,false,1),(190,false,1),(191,false,1),(192,false,1),(193,false,1),(194,false,1),(195,false,1),(196,false,1),(197,false,1),(198,false,1),(199,false,1),(200,false,1),(201,false,1),(202,true,1),(203,true,1),(205,false,1),(206,false,1),(208,false,1),(209,false,1),(210,false,1),(211,false,1),(213,false,1),(214,false,1),(215,false,1),(217,false,1),(218,false,1),(219,false,1),(220,false,1),(221,false,1),(222,false,1),(223,false,1),(224,false,1),(225,false,1),(226,false,1),(227,false,1),(229,false,1),(230,false,1),(231,false,1),(232,false,1),(233,false,1),(234,false,1),(235,false,1),(236,false,1),(237,true,3),(238,true,3),(239,false,1),(240,true,3),(241,true,3),(242,false,1),(243,false,1),(244,false,1),(245,false,1),(248,true,0),(249,true,0),(250,true,0),(251,false,1),(252,false,1),(253,false,1),(254,false,1),(255,false,1),(256,false,1),(257,false,1),(258,true,11),(259,true,11),(261,false,1),(262,false,1),(263,false,1),(265,false,1),(266,false,1),(267,false,1),(268,false,1),(269,false,1),(270,false,1),(271,false,1),(272,false,1),(273,true,14),(274,true,14),(275,false,1),(276,false,1),(277,false,1),(278,false,1),(279,true,2),(280,true,2),(281,false,1),(282,false,1),(283,false,1),(284,false,1)],[(7,[some 0,some 1,some 2,some 3]),(8,[some 0,some 1,some 2,some 3]),(18,[some 0]),(19,[some 0]),(26,[some 0]),(27,[some 0]),(30,[some 0,some 1,some 2,some 3,some 4,some 5,some 6]),(31,[some 0,some 1,some 2,some 3,some 4,some 5,some 6]),(34,[some 0,some 7,some 8,some 9,some 10]),(35,[some 0,some 7,some 8,some 9,some 10]),(39,[some 0,some 1]),(40,[some 0,some 1]),(42,[some 0,some 1,some 2]),(43,[some 0,some 1,some 2]),(44,[some 0,some 1,some 2,some 4]),(45,[some 0,some 1,some 2,some 4]),(90,[some 0,some 11,some 12]),(91,[some 0,some 11,some 12]),(110,[some 0,some 1]),(111,[some 0,some 1]),(113,[some 0,some 1,some 3,some 5,some 7,some 8]),(114,[some 0,some 1,some 3,some 5,some 7,some 8]),(115,[some 0,some 1]),(116,[some 0,some 1]),(118,[some 0,some 1]),(119,[some 0,some 1]),(120,[some 0,some 3]),(121,[some 0,some 3]),(122,[some 0,some 1]),(123,[some 0,some 1]),(144,[some 0]),(150,[some 0,some 1]),(151,[some 0,some 1]),(202,[some 0]),(203,[some 0]),(237,[some 0,some 1,some 2]),(238,[some 0,some 1,some 2]),(240,[some 0,some 1,some 2]),(241,[some 0,some 1,some 2]),(258,[some 0,some 1,some 2,some 3,some 4,some 5,some 6,some 7,some 8,some 9,some 10]),(259,[some 0,some 1,some 2,some 3,some 4,some 5,some 6,some 7,some 8,some 9,some 10]),(273,[some 0,some 7,some 10,some 11,some 12,some 13]),(274,[some 0,some 7,some 10,some 11,some 12,some 13]),(279,[some 0,some 1]),(280,[some 0,some 1])],[25,28,29,32,33,41,46,59,74,82,89,117,148,218,227,236,270,271,272]⟩
theorem pR:k8 Tryz.prog TT:=PI kr
theorem b_ {t:TypeId} {x:Bool×Nat} (h:TT.Kp t=some x:=by rfl):tK Tryz.prog t=some x:=pR.Kp h
theorem fx {s f k:Nat} (h:TT.foF s f=some k:=by rfl):sL Tryz.prog s f=some k:=pR.foF h
end
section
open Go.RowKit
/-- blocks that are read -/
def MM (C:List au) (M:List (Nat×List Value)):Prop:= ∀ p∈M,∀ o vs,(p.2.drop o).take vs.length=vs→At C (some ⟨p.1,o,none⟩) vs
theorem I {C:List au}:MM C []:=fun p h=>by cases h
theorem mc {C:List au} {b t:Nat} {cs:List Value} {M:List (Nat×List Value)} (i:Nat) (hC:C[i]? =some (bU b t cs)) (h:MM C M):MM C ((b,cs)::M):=fun p hp o vs hv=>by
 rcases List.mem_cons.1 hp with rfl|hp
 ·exact ph i hC hv
 ·exact h p hp o vs hv
theorem mr {C:List au} {b t:Nat} {cs:List Value} {M:List (Nat×List Value)} (i:Nat) (hC:C[i]? =some (bU b t cs).ro) (h:MM C M):MM C ((b,cs)::M):=fun p hp o vs hv=>by
 rcases List.mem_cons.1 hp with rfl|hp
 ·exact vM i hC hv
 ·exact h p hp o vs hv
def pG:List Prop→Prop
 |[]=>True
 |p::l=>p∧pG l
theorem jY {p:Prop} {l:List Prop} (h:p) (h2:pG l):pG (p::l):=⟨h,h2⟩
/-- the value of an operation, what it asks for, and what is left of the list of places -/
def pv (T:Dp) (ops:Array Oper) (M:List (Nat×List Value)) (L:List (Nat×Value)) (hs:List Nat) (g:Option (Nat×Bool)) (op:Op):Option (Value×List Prop×List Nat):=
 match Dg ops L g with
 |true=>some (undef,[],hs)
 |false=>match jq ops L g with
  |false=>none
  |true=>match op with
   | .move x=>match ev L x with
    |some v=>some (v,[],hs)
    |none=>none
   | .assign x=>match ev L x with
    |some v=>some (v,[],hs)
    |none=>none
   | .pick c x y=>match ev L c with
    |some (.bool true)=>match ev L x with
     |some v=>some (v,[],hs)
     |none=>none
    |some (.bool false)=>match ev L y with
     |some v=>some (v,[],hs)
     |none=>none
    |_=>none
   | .unOp .not _ x=>match ev L x with
    |some (.bool b)=>some (.bool !b,[],hs)
    |_=>none
   | .extract x i=>match ev L x with
    |some (.tuple vs)=>match vs.toList[i]? with
     |some v=>some (v,[],hs)
     |none=>none
    |_=>none
   | .fieldAddr s x f=>match ev L x with
    |some (.pointer (some ⟨b,o,none⟩))=>match T.foF s f with
     |some k=>some (.pointer (some ⟨b,o+k,none⟩),[],hs)
     |none=>none
    |_=>none
   | .binOp op _ x y _=>match ev L x with
    |some (.int .i64 a)=>match ev L y with
     |some (.int .i64 b)=>match op with
      | .lss=>some (.bool (decide (a<b)),[],hs)
      | .leq=>some (.bool (decide (a≤b)),[],hs)
      | .gtr=>some (.bool (decide (b<a)),[],hs)
      | .geq=>some (.bool (decide (b≤a)),[],hs)
      | .eql=>some (.bool (decide (a=b)),[],hs)
      | .neq=>some (.bool (!decide (a=b)),[],hs)
      | .add=>some (.int .i64 (a+b),[-9223372036854775808≤a+b,a+b≤9223372036854775807],hs)
      | .sub=>some (.int .i64 (a-b),[-9223372036854775808≤a-b,a-b≤9223372036854775807],hs)
      |_=>none
     |_=>none
    |_=>none
   | .load t x=>match ev L x with
    |some (.pointer (some ⟨b,o,none⟩))=>match M[hs.headD 0]? with
     |some (b',cs)=>match T.Kp t with
      |some (false,_)=>match cs[o]? with
       |some v=>some (v,[b'=b],hs.tail)
       |none=>none
      |some (true,n)=>match Nat.beq o 0 with
       |true=>match Nat.beq cs.length n with
        |true=>some (.agg cs.toArray,[b'=b],hs.tail)
        |false=>none
       |false=>none
      |none=>none
     |none=>none
    |_=>none
   | .call c=>match c with
    |{callee:= .builtin .len,args:=xs,argTypes:=ts}=>match xs.toList with
     |[x]=>match ts.toList with
      |[t]=>match ev L x with
       |some (.slice A n c)=>match Mh T.sl t with
        |true=>some (.int .i64 n,[],hs)
        |false=>none
       |_=>none
      |_=>none
     |_=>none
    |_=>none
   |_=>none
section
variable {E:e_} {T:Dp} {ops:Array Oper} {M:List (Nat×List Value)} {D:List Deferred} {L:List (Nat×Value)} {C:List au} {hs hs':List Nat}
theorem vc {cs:List Value} {o:Nat} {v:Value} (h:cs[o]? =some v):(cs.drop o).take [v].length=[v]:=by
 obtain ⟨hl,rfl⟩:=List.getElem?_eq_some_iff.1 h
 rw [List.drop_eq_getElem_cons hl]; rfl
theorem Rx {o:Oper} {v:Value} {S:List Prop} (hT:k8 E.P T) (hM:MM C M) (h:pv T ops M L hs o.guard o.op=some (v,S,hs')) (hS:pG S):SD E ops o D L C v:=by
 obtain ⟨dst,op,ty,ps,af,g⟩:=o
 unfold pv at h
 simp only at h
 split at h
 ·rename_i hg
  cases h
  exact IX hg
 ·split at h
  ·cases h
  ·rename_i hg
   split at h
   ·split at h
    ·rename_i hx; cases h; exact E8 hg hx
    ·cases h
   ·split at h
    ·rename_i hx; cases h; exact zc hg hx
    ·cases h
   ·split at h
    ·rename_i hc
     split at h
     ·rename_i hx; cases h; exact yZ hg hc hx
     ·cases h
    ·rename_i hc
     split at h
     ·rename_i hx; cases h; exact yo hg hc hx
     ·cases h
    ·cases h
   ·split at h
    ·rename_i hx; cases h; exact LZ hg hx
    ·cases h
   ·split at h
    ·rename_i vs hx
     split at h
     ·rename_i v' hv; cases h; exact xj (vs:=vs.toList) hg (by simpa using hx) hv
     ·cases h
    ·cases h
   ·split at h
    ·rename_i hx
     split at h
     ·rename_i hk; cases h; exact Pr hg hx (hT.foF hk) rfl
     ·cases h
    ·cases h
   ·split at h
    ·rename_i hx
     split at h
     ·rename_i hy
      split at h
      ·cases h; exact bS hg hx hy gQ
      ·cases h; exact bS hg hx hy TE
      ·cases h; exact bS hg hx hy S0
      ·cases h; exact bS hg hx hy FL
      ·cases h; exact bS hg hx hy mq
      ·cases h; exact bS hg hx hy j6
      ·cases h; exact bS hg hx hy (gY ⟨hS.1,hS.2.1⟩)
      ·cases h; exact bS hg hx hy (qk ⟨hS.1,hS.2.1⟩)
      ·cases h
     ·cases h
    ·cases h
   ·split at h
    ·rename_i hx
     split at h
     ·rename_i b' cs hm
      have A:=aT hm
      split at h
      ·rename_i hk
       split at h
       ·rename_i hv
        cases h
        obtain rfl:=hS.1
        exact uk hg hx (hT.Kp hk) (hM _ A _ _ (vc hv))
       ·cases h
      ·rename_i n hk
       split at h
       ·rename_i ho
        split at h
        ·rename_i hn
         cases h
         obtain rfl:=hS.1
         have H:=Nat.eq_of_beq_eq_true ho
         subst H
         exact wW hg hx (hT.Kp hk) (hM _ A 0 cs sm) (Nat.eq_of_beq_eq_true hn)
        ·cases h
       ·cases h
      ·cases h
     ·cases h
    ·cases h
   ·split at h
    ·rename_i xs ts
     split at h
     ·rename_i x G
      split at h
      ·rename_i t F
       split at h
       ·rename_i hx
        split at h
        ·rename_i B
         cases h
         obtain ⟨e,he⟩:=hT.sl t (CA B)
         have AA:xs= #[x]:=by apply Array.ext'; simpa using G
         have J:ts= #[t]:=by apply Array.ext'; simpa using F
         subst AA J
         exact Lb hg hx he
        ·cases h
       ·cases h
      ·cases h
     ·cases h
    ·cases h
   ·cases h
def pr (T:Dp) (n:Nat) (ops:Array Oper) (M:List (Nat×List Value)):Nat→List Nat→List (Nat×Value)→List Oper→Option (List (Nat×Value)×List Oper×List Prop)
 |0,_,L,rest=>some (L,rest,[])
 |k+1,hs,L,[]=>none
 |k+1,hs,L,o::rest=>match o.dst with
  |none=>none
  |some d=>match Nat.blt d n with
   |false=>none
   |true=>match pv T ops M L hs o.guard o.op with
    |none=>none
    |some (v,S,hs')=>match pr T n ops M k hs' ((d,v)::L) rest with
     |none=>none
     |some (L',rest',S')=>some (L',rest',S++S')
theorem xV: ∀ {S S':List Prop},pG (S++S')→pG S∧pG S'
 |[],S',h=>⟨trivial,h⟩
 |p::S,S',h=>⟨⟨h.1,(xV h.2).1⟩,(xV h.2).2⟩
/-- whatever is closed under single steps -/
theorem IT {J:List Oper→List (Nat×Value)→Prop} (hT:k8 E.P T) (hM:MM C M) (hJ: ∀ o rest L d v,SD E ops o D L C v→o.dst=some d→Nat.blt d E.n=true→J rest ((d,v)::L)→J (o::rest) L):
 ∀ (k:Nat) (hs:List Nat) (L:List (Nat×Value)) (rest:List Oper) {L':List (Nat×Value)} {rest':List Oper} {S:List Prop},pr T E.n ops M k hs L rest=some (L',rest',S)→pG S→J rest' L'→J rest L
 |0,hs,L,rest,L',rest',S,h,hS,hj=>by
  unfold pr at h
  cases h
  exact hj
 |k+1,hs,L,[],L',rest',S,h,hS,hj=>by unfold pr at h; cases h
 |k+1,hs,L,o::rest,L',rest',S,h,hS,hj=>by
  unfold pr at h
  split at h
  ·cases h
  ·rename_i d hd
   split at h
   ·cases h
   ·rename_i hn
    split at h
    ·cases h
    ·rename_i v S1 A hv
     split at h
     ·cases h
     ·rename_i L1 G S2 hr
      cases h
      obtain ⟨B,F⟩:=xV hS
      exact hJ o rest L d v (Rx hT hM hv B) hd hn (IT hT hM hJ k A _ rest hr F hj)
variable {Q:cW} {rest rest':List Oper} {L0 L':List (Nat×Value)} {S:List Prop} {F:List (Nat×Value)→Prop}
/-- a run of operations, one after the other -/
theorem rP (k:Nat) (hs:List Nat) (hM:MM C M) (j:RJ E ops Q rest' D L' C) (hT:k8 E.P T:=by exact pR) (h:pr T E.n ops M k hs L rest=some (L0,rest',S):=by rfl) (hL:L0=L':=by (try dsimp only)<;>rfl) (hS:pG S:=by repeat' first|exact True.intro |refine jY ?_ ?_ |exact rfl|omega|(dsimp only; omega)):RJ E ops Q rest D L C:=by
 subst hL
 exact IT (J:=fun r L=>RJ E ops Q r D L C) hT hM (fun o rest L d v A B F G=>SM A B F G) k hs L rest h hS j
theorem dP (k:Nat) (hs:List Nat) (hM:MM C M) (j:DJ E ops D C F rest' L') (hT:k8 E.P T:=by exact pR) (h:pr T E.n ops M k hs L rest=some (L0,rest',S):=by rfl) (hL:L0=L':=by (try dsimp only)<;>rfl) (hS:pG S:=by repeat' first|exact True.intro |refine jY ?_ ?_ |exact rfl|omega):DJ E ops D C F rest L:=by
 subst hL
 exact IT (J:=fun r L=>DJ E ops D C F r L) hT hM (fun o rest L d v A B G H=>Tm A B G H) k hs L rest h hS j
end
section
variable {P:Program} {r:Option Nat} {n:Nat} {B:BS} {w0:World} {ops:Array Oper} {M:List (Nat×List Value)} {D:List Deferred} {L L':List (Nat×Value)} {C:List au} {Q:cW} {rest rest':List Oper} {S:List Prop} {F:List (Nat×Value)→Prop}
theorem fy (k:Nat) (hs:List Nat) (hM:MM C M) (h:pr TT n ops M k hs L rest=some (L',rest',S)) (j:RJ ⟨P,r,n,B,w0⟩ ops Q rest' D L' C) (hS:pG S:=by repeat' first|exact True.intro |refine jY ?_ ?_ |exact rfl|omega|(dsimp only; omega)) (hT:k8 P TT:=by exact pR):RJ ⟨P,r,n,B,w0⟩ ops Q rest D L C:=rP k hs hM j hT h rfl hS
theorem my (k:Nat) (hs:List Nat) (hM:MM C M) (h:pr TT n ops M k hs L rest=some (L',rest',S)) (j:DJ ⟨P,r,n,B,w0⟩ ops D C F rest' L') (hS:pG S:=by repeat' first|exact True.intro |refine jY ?_ ?_ |exact rfl|omega|(dsimp only; omega)) (hT:k8 P TT:=by exact pR):DJ ⟨P,r,n,B,w0⟩ ops D C F rest L:=dP k hs hM j hT h rfl hS
theorem a_ (k:Nat) (h:pr TT n ops [] k [] L rest=some (L',rest',S)) (j:RJ ⟨P,r,n,B,w0⟩ ops Q rest' D L' C) (hS:pG S:=by repeat' first|exact True.intro |refine jY ?_ ?_ |exact rfl|omega|(dsimp only; omega)) (hT:k8 P TT:=by exact pR):RJ ⟨P,r,n,B,w0⟩ ops Q rest D L C:=rP k [] I j hT h rfl hS
theorem lv (k:Nat) (h:pr TT n ops [] k [] L rest=some (L',rest',S)) (j:DJ ⟨P,r,n,B,w0⟩ ops D C F rest' L') (hS:pG S:=by repeat' first|exact True.intro |refine jY ?_ ?_ |exact rfl|omega|(dsimp only; omega)) (hT:k8 P TT:=by exact pR):DJ ⟨P,r,n,B,w0⟩ ops D C F rest L:=dP k [] I j hT h rfl hS
end
end
section
open Go.RowKit
/-- parts of a context, reckoned to the end -/
def o6 (C:List au):List Nat→Option (List au)
 |[]=>some []
 |i::is=>match C[i]? with
  |some A=>match o6 C is with
   |some l=>some (A::l)
   |none=>none
  |none=>none
theorem jz {C:List au}: ∀ {is:List Nat} {C':List au},o6 C is=some C'→kf C is=C'
 |[],C',h=>by cases h; rfl
 |i::is,C',h=>by
  unfold o6 at h
  split at h
  ·rename_i A hA
   split at h
   ·rename_i l hl
    cases h
    show List.filterMap (C[·]?) (i::is)=A::l
    rw [List.filterMap_cons_some hA]
    exact congrArg _ (jz hl)
   ·cases h
  ·cases h
/-- a part of a context in place of the whole -/
theorem aI {S:BS} {w0:World} {C C':List au} (is:List Nat) (hn:decide is.Nodup=true:=by rfl) (hC:kf C is=C':=by rfl): ∀ w,St S w0 C w→St S w0 C' w:=fun w h=>St.kf is hn hC h
theorem RY {S:BS} {w0:World} {C C':List au} (is:List Nat) (hC:o6 C is=some C') (hn:decide is.Nodup=true:=by rfl): ∀ w,St S w0 C w→St S w0 C' w:=fun w h=>St.kf is hn (jz hC) h
def OD (C:List au) (i:Nat) (B:au):Option (List au):=match i,C with
 |0,_::C=>some (B::C)
 |i+1,A::C=>match OD C i B with
  |some l=>some (A::l)
  |none=>none
 |_,[]=>none
theorem Fb: ∀ {C:List au} {i:Nat} {B:au} {C':List au},OD C i B=some C'→C.set i B=C'
 |[],0,B,C',h=>by cases h
 |[],i+1,B,C',h=>by cases h
 |A::C,0,B,C',h=>by cases h; rfl
 |A::C,i+1,B,C',h=>by
  unfold OD at h
  split at h
  ·rename_i l hl
   cases h
   exact congrArg _ (Fb hl)
  ·cases h
theorem fP {E:e_} {K:Act→World→Prop} {D:List Deferred} {L:List (Nat×Value)} {C C':List au} {A B:au} (i:Nat) (hC:C[i]? =some A) (hh:(∀ w,A.holds w→B.holds w)∧(∀ b,B.fg b→A.fg b)∧ ∀ b,B.wf b→A.wf b) (hC':OD C i B=some C') (h:KJ E K D L C'):KJ E K D L C:=KM i hC hh (Fb hC') h
/-- the operations of a region but these; marks of some places -/
def T1 (n:Nat) (T:List Nat):List Nat:=(List.range n).filter fun i=> !T.contains i
def VC (k:Nat) (t:List Nat):List Bool:=(List.range k).map fun i=>t.contains i
theorem dD {E:e_} {id:Nat} {ops:Array Oper} {Q:cW} {D:List Deferred} {L:List (Nat×Value)} {C:List au} (hm:E.P.follows .mixedOrders=true) (T fe tb i1 i2:List Nat) {C' C1:List au} {free:List Nat} {Q4 tbb:List Bool}
 (h1:o6 C i1=some C') (h2:o6 C i2=some C1) (hf:free=T1 ops.size T) (hfe:Q4=VC free.length fe) (htb:tbb=VC T.length tb)
 (h:p8 E ops D C' C1 (fun L'=>TJ E ops D C' C1 (fun L C=>KJ E (Q .normal) D L C) tbb (eU ops T) L' C) Q4 (eU ops free) L)
 (hc:NH ops free T Q4 tbb=true:=by kernel_rfl) (n1:decide i1.Nodup=true:=by rfl) (n2:decide i2.Nodup=true:=by rfl):WJ E (.region id ops true) Q D L C:=
 Ny hm free T Q4 tbb C' C1 hc (RY i1 h1 n1) (RY i2 h2 n2) h
end
section
open Go.RowKit
def vH (T:Dp) (M:List (Nat×List Value)) (L:List (Nat×Value)):List ResultVar→List Nat→Option (List Value×List Prop)
 |[],_=>some ([],[])
 | .tmp t::rs,hs=>match L.lookup t with
  |some v=>match vH T M L rs hs with
   |some (vs,S)=>some (v::vs,S)
   |none=>none
  |none=>none
 | .cell a t::rs,hs=>match L.lookup a with
  |some (.pointer (some ⟨b,o,none⟩))=>match M[hs.headD 0]? with
   |some (b',cs)=>match T.Kp t with
    |some (false,_)=>match cs[o]? with
     |some v=>match vH T M L rs hs.tail with
      |some (vs,S)=>some (v::vs,(b'=b)::S)
      |none=>none
     |none=>none
    |some (true,n)=>match Nat.beq o 0 with
     |true=>match Nat.beq cs.length n with
      |true=>match vH T M L rs hs.tail with
       |some (vs,S)=>some (.agg cs.toArray::vs,(b'=b)::S)
       |none=>none
      |false=>none
     |false=>match vH T M L rs hs.tail with
      |some (vs,S)=>some (.agg ((cs.drop o).take n).toArray::vs,(b'=b)::(((cs.drop o).take n).length=n)::S)
      |none=>none
    |none=>none
   |none=>none
  |_=>none
theorem nR {P:Program} {T:Dp} {M:List (Nat×List Value)} {L:List (Nat×Value)} {C:List au} (hT:k8 P T) (hM:MM C M): ∀ (rs:List ResultVar) (hs:List Nat) {vs:List Value} {S:List Prop},vH T M L rs hs=some (vs,S)→pG S→G9 P L C rs vs
 |[],_,vs,S,h,hS=>by unfold vH at h; cases h; exact trivial
 | .tmp t::rs,hs,vs,S,h,hS=>by
  unfold vH at h
  split at h
  ·rename_i v hv
   split at h
   ·rename_i vs' S' hr
    cases h
    exact ⟨hv,nR hT hM rs hs hr hS⟩
   ·cases h
  ·cases h
 | .cell a t::rs,hs,vs,S,h,hS=>by
  unfold vH at h
  split at h
  ·rename_i b o hl
   split at h
   ·rename_i b' cs hm
    have A:=aT hm
    split at h
    ·rename_i hk
     split at h
     ·rename_i v hv
      split at h
      ·rename_i vs' S' hr
       cases h
       obtain ⟨rfl,hS⟩:=hS
       exact ⟨⟨_,hl,.inr ⟨_,hT.Kp hk,hM _ A _ _ (vc hv)⟩⟩,nR hT hM rs _ hr hS⟩
      ·cases h
     ·cases h
    ·rename_i n hk
     split at h
     ·rename_i ho
      split at h
      ·rename_i hn
       split at h
       ·rename_i vs' S' hr
        cases h
        obtain ⟨rfl,hS⟩:=hS
        have D:=Nat.eq_of_beq_eq_true ho
        subst D
        exact ⟨⟨_,hl,.inl ⟨_,cs,hT.Kp hk,hM _ A 0 cs sm,Nat.eq_of_beq_eq_true hn,U⟩⟩,nR hT hM rs _ hr hS⟩
       ·cases h
      ·cases h
     ·split at h
      ·rename_i vs' S' hr
       cases h
       obtain ⟨rfl,B,hS⟩:=hS
       exact ⟨⟨_,hl,.inl ⟨_,_,hT.Kp hk,hM _ A o _ (by rw [B]),B,U⟩⟩,nR hT hM rs _ hr hS⟩
      ·cases h
    ·cases h
   ·cases h
  ·cases h
section
variable {P:Program} {n:Nat} {fn:Func} {w0:World} {K:Act→World→Prop} {L:List (Nat×Value)} {C:List au} {M:List (Nat×List Value)} {vs:List Value} {S:List Prop} {u x v:Value}
theorem Ic (hQ: ∀ D L C,LJ ⟨P,none,n,tq,w0⟩ fn (Bn w0 v) D L C→KJ ⟨P,none,n,tq,w0⟩ K D L C) (hs:List Nat) (hM:MM C M) (h:vH TT M L fn.results.toList hs=some ([u],S)) (e:u=v) (hS:pG S:=by repeat' first|exact True.intro |refine jY rfl ?_) (hT:k8 P TT:=by exact pR):KJ ⟨P,none,n,tq,w0⟩ K [] L C:=
 hQ _ _ _ (gX (nR hT hM _ _ h hS) fun w hs=>EG e hs)
theorem lp (hQ: ∀ D L C,LJ ⟨P,none,n,tq,w0⟩ fn (Bn w0 v) D L C→KJ ⟨P,none,n,tq,w0⟩ K D L C) (hs:List Nat) (hM:MM C M) (h:vH TT M L fn.results.toList hs=some (u::x::vs,S)) (e:Value.tuple (u::x::vs).toArray=v) (hS:pG S:=by repeat' first|exact True.intro |refine jY rfl ?_) (hT:k8 P TT:=by exact pR):KJ ⟨P,none,n,tq,w0⟩ K [] L C:=
 hQ _ _ _ (gX (nR hT hM _ _ h hS) fun w hs=>EG e hs)
theorem LX {α:Type} {V:α→Value} {p:α→Prop} {N:α→List au} (hQ: ∀ D L C,LJ ⟨P,none,n,tq,w0⟩ fn (I2 w0 V p N) D L C→KJ ⟨P,none,n,tq,w0⟩ K D L C) (x:α) (is hs:List Nat) (hM:MM C M) (h:vH TT M L fn.results.toList hs=some (vs,S)) (hw:(N x).all (·.wr)=true) (hN:kf C is=N x) (hV:QX vs=V x) (hp:p x) (hn:decide is.Nodup=true:=by rfl) (hS:pG S:=by repeat' first|exact True.intro |refine jY rfl ?_) (hT:k8 P TT:=by exact pR):KJ ⟨P,none,n,tq,w0⟩ K [] L C:=
 hQ _ _ _ (gX (nR hT hM _ _ h hS) fun w hs=>JB x is hV hp hn hN hw hs)
theorem LM {A:au} {α:Type} {V:α→Value} {p:α→Prop} {A':α→au} (hQ: ∀ D L C,LJ ⟨P,none,n,⟨A.wf,fun _=>True⟩,w0⟩ fn (NP w0 A V p A') D L C→KJ ⟨P,none,n,⟨A.wf,fun _=>True⟩,w0⟩ K D L C) (x:α) (i:Nat) (hs:List Nat) (hM:MM C M) (h:vH TT M L fn.results.toList hs=some (vs,S)) (hw:(A' x).wr=true) (hC:C[i]? =some (A' x)) (hV:QX vs=V x) (hp:p x) (hS:pG S:=by repeat' exact True.intro) (hT:k8 P TT:=by exact pR):KJ ⟨P,none,n,⟨A.wf,fun _=>True⟩,w0⟩ K [] L C:=
 hQ _ _ _ (gX (nR hT hM _ _ h hS) fun w hs=>SN x i hV hp hC hw hs)
end
end
section
open Go.RowKit
def E6 {α:Type _}:List α→List α→Option (List α)
 |[],m=>some m
 |a::l,m=>match E6 l m with
  |some r=>some (a::r)
  |none=>none
theorem FY {α:Type _}: ∀ {l m r:List α},E6 l m=some r→l++m=r
 |[],m,r,h=>by cases h; rfl
 |a::l,m,r,h=>by
  unfold E6 at h
  split at h
  ·rename_i r' hr
   cases h
   exact congrArg (a:: ·) (FY hr)
  ·cases h
def TI (L:List (Nat×Value)):List Nat→Option (List (Nat×Value))
 |[]=>some []
 |t::ts=>match L.lookup t with
  |some v=>match TI L ts with
   |some r=>some ((t,v)::r)
   |none=>none
  |none=>none
theorem Fs {L M:List (Nat×Value)} (k:dw L M): ∀ {ts:List Nat} {r:List (Nat×Value)},TI L ts=some r→dw L (r++M)
 |[],r,h=>by cases h; exact k
 |t::ts,r,h=>by
  unfold TI at h
  split at h
  ·rename_i v hv
   split at h
   ·rename_i r' hr
    cases h
    exact dw.cons hv (Fs k hr)
   ·cases h
  ·cases h
section
variable {E:e_} {Q:cW} {D:List Deferred} {L L0:List (Nat×Value)} {C C0:List au} {ι:Type} {Li:ι→List (Nat×Value)} {Ci:ι→List au}
theorem bK {c:Code} (kL kC:List Nat) (hL:TI L kL=some L0) (hC0:o6 C kC=some C0) (S:ι→List (Nat×Value)) (G:ι→List au) (hLi: ∀ x,E6 L0 (S x)=some (Li x)) (hCi: ∀ x,E6 C0 (G x)=some (Ci x)) (μ:ι→Nat) (x0:ι)
 (h0:dw L (S x0)) (hC: ∀ w,St E.S E.w0 C w→St E.S E.w0 (Ci x0) w)
 (round: ∀ x (J:Act→World→Prop),(∀ y D' L' C',D'=D→μ y<μ x→dw L' (Li y)→(∀ w,St E.S E.w0 C' w→St E.S E.w0 (Ci y) w)→KJ E J D' L' C')→WJ E c (Exit.then J Q) D (Li x) (Ci x)):WJ E (.loop c) Q D L C:=
 QR Li Ci μ x0 (FY (hLi x0)▸Fs h0 hL) hC round
theorem og {x y:Code} (kL kC:List Nat) (hL:TI L kL=some L0) (hC0:o6 C kC=some C0) (S:ι→List (Nat×Value)) (G:ι→List au) (hLi: ∀ x,E6 L0 (S x)=some (Li x)) (hCi: ∀ x,E6 C0 (G x)=some (Ci x))
 (hy: ∀ z,WJ E y Q D (Li z) (Ci z)) (h: ∀ K:Act→World→Prop,(∀ z,KJ E K D (Li z) (Ci z))→WJ E x (Exit.then K Q) D L C):WJ E (.seq x y) Q D L C:=PU Li Ci hy h
end
end
section
open Go.RowKit
set_option linter.unusedSectionVars false
/-- what is asked of keys -/
structure um (P:Program) (kt:Nat) {K:Type} (kV:K→Value):Prop where
 check: ∀ (e:Bool) (x:K) (w:World),(Instr.checkKey e 10000 kt (kV x)).run P w= .ok () w
 find: ∀ (x:K) (w:World) (es:List MapEntry),(∀ e∈es,∃ k,e.key=kV k)→
  ((Instr.findKey kt (kV x) es).run P w= .ok none w∧ ∀ e∈es,e.key≠kV x)∨ ∃ j e,(Instr.findKey kt (kV x) es).run P w= .ok (some (j,e.val)) w∧es[j]? =some e∧e.key=kV x
 bits: ∀ x,Instr.sameBits 10000 (kV x) (kV x)=true
 inj: ∀ x y,kV x=kV y→x=y
section
variable {K:Type} [DecidableEq K] {kV:K→Value}
def ew {β:Type} (l:List (K×β)) (x:K) (y:β):List (K×β):=if (l.lookup x).isSome then l.map (fun p=>if p.1=x then (x,y) else p) else l++[(x,y)]
def cj {β:Type} (l:List (K×β)) (x:K):List (K×β):=l.filter fun p=> !decide (p.1=x)
def bG {β γ:Type} (f:β→γ) (l:List (K×β)):List (K×γ):=l.map fun p=>(p.1,f p.2)
theorem G0 {β γ:Type} (f:β→γ) (l:List (K×β)):(bG f l).length=l.length:=by simp [bG]
theorem mO {β γ:Type} (f:β→γ) (x:K): ∀ l:List (K×β),(bG f l).lookup x=(l.lookup x).map f
 |[]=>rfl
 |p::l=>by
  obtain ⟨k,v⟩:=p
  have ih:=mO f x l
  by_cases h:x=k
  ·subst h; simp [bG,List.lookup]
  ·have:(x==k)=false:=by simpa using h
   simp only [bG,List.map_cons,List.lookup,this] at ih ⊢
   exact ih
theorem gI {β γ:Type} (f:β→γ) (l:List (K×β)) (x:K) (y:β):bG f (ew l x y)=ew (bG f l) x (f y):=by
 unfold ew
 rw [mO,Option.isSome_map]
 split
 ·simp only [bG,List.map_map]
  refine List.map_congr_left fun p _=>?_
  simp only [Function.comp]
  split<;>rfl
 ·simp [bG]
theorem lL {β γ:Type} (f:β→γ) (l:List (K×β)) (x:K):bG f (cj l x)=cj (bG f l) x:=by
 unfold cj bG
 rw [List.filter_map]
 rfl
theorem g5 {β:Type} {x:K}: ∀ {l:List (K×β)},l.lookup x=none↔ ∀ p∈l,p.1≠x
 |[]=>by simp
 |p::l=>by
  obtain ⟨k,v⟩:=p
  by_cases h:x=k
  ·subst h; simp [List.lookup]
  ·have hb:(x==k)=false:=by simpa using h
   simp only [List.lookup,hb,ed,forall_eq_or_imp]
   rw [g5 (l:=l)]
   exact ⟨fun q=>⟨fun e=>h e.symm,q⟩,fun q=>q.2⟩
theorem jQ {β:Type} {x:K} {y:β}: ∀ {l:List (K×β)},(l.map (·.1)).Nodup→((x,y)∈l↔l.lookup x=some y)
 |[],_=>by simp
 |p::l,hn=>by
  obtain ⟨k,v⟩:=p
  simp only [List.map_cons,List.nodup_cons] at hn
  by_cases h:x=k
  ·subst h
   simp only [List.lookup,beq_self_eq_true,ed,Prod.mk.injEq,true_and,Option.some.injEq]
   constructor
   ·rintro (e|e)
    ·exact e.symm
    ·exact absurd (List.mem_map.2 ⟨_,e,U⟩) hn.1
   ·intro e; exact .inl e.symm
  ·have hb:(x==k)=false:=by simpa using h
   simp only [List.lookup,hb,ed,Prod.mk.injEq,h,false_and,false_or]
   exact jQ hn.2
structure iU (kV:K→Value) (es:Array MapEntry) (c:Nat) (m:List (K×Value)):Prop where
 list:es.toList.map (fun (e:MapEntry)=>(e.key,e.val))=m.map (fun p=>(kV p.1,p.2))
 keys:(m.map (·.1)).Nodup
 KS: ∀ e∈es.toList,e.born<c
 born:(es.toList.map (·.born)).Nodup
def hE (kV:K→Value) (b:Nat) (m:List (K×Value)):au where
 fg k:=k=b
 wf k:=k=b
 holds w:= ∃ es c,w.heap[b]? =some (.map es c)∧iU kV es c m
 wr:=true
 ki _ h:=h
 whole _ _ h:=h
 lt w h k hk:=by obtain ⟨es,c,he,_⟩:=h; exact hk▸d_ he
 ou w w' hk h:=by obtain ⟨es,c,he,hm⟩:=h; exact ⟨es,c,(hk b rfl).trans he,hm⟩
theorem iU.nil:iU kV #[] 0 []:=⟨rfl,List.nodup_nil,sm,List.nodup_nil⟩
theorem iU.size {es:Array MapEntry} {c:Nat} {m:List (K×Value)} (h:iU kV es c m):es.size=m.length:=by
 have:=congrArg List.length h.list
 simpa using this
theorem EI {P:Program} {kt:Nat} (hk:um P kt kV) (x:K): ∀ (es:List MapEntry) (m:List (K×Value)),es.map (fun (e:MapEntry)=>(e.key,e.val))=m.map (fun p=>(kV p.1,p.2))→
 ((∀ e∈es,e.key≠kV x)→m.lookup x=none)∧ ∀ (j:Nat) (e:MapEntry),es[j]? =some e→e.key=kV x→m[j]? =some (x,e.val):=by
 intro es m h
 refine ⟨fun hn=>g5.2 fun p hp e=>?_,fun j e he hx=>?_⟩
 ·have:(kV p.1,p.2)∈es.map (fun (e:MapEntry)=>(e.key,e.val)):=by rw [h]; exact List.mem_map.2 ⟨p,hp,rfl⟩
  obtain ⟨z,hz,B⟩:=List.mem_map.1 this
  simp only [Prod.mk.injEq] at B
  exact hn z hz (by rw [B.1,e])
 ·have A:(es.map (fun (e:MapEntry)=>(e.key,e.val)))[j]? =some (e.key,e.val):=by rw [fw,he]; rfl
  rw [h,fw] at A
  cases hm:m[j]? with
  |none=>simp [hm] at A
  |some p=>
   simp only [hm,Option.map_some,Option.some.injEq,Prod.mk.injEq] at A
   have:=hk.inj _ _ (A.1.trans hx)
   obtain ⟨k,v⟩:=p
   simp only at this A
   rw [this,A.2]
theorem oL {P:Program} {w:World} {kt:Nat} {x:K} {es:Array MapEntry} {c:Nat} {m:List (K×Value)} (hk:um P kt kV) (h:iU kV es c m):
 ((Instr.findKey kt (kV x) es.toList).run P w= .ok none w∧m.lookup x=none)∨
 ∃ j v,(Instr.findKey kt (kV x) es.toList).run P w= .ok (some (j,v)) w∧m[j]? =some (x,v)∧m.lookup x=some v:=by
 obtain ⟨D,E⟩:=EI hk x es.toList m h.list
 rcases hk.find x w es.toList (fun e he=>by
  have:(e.key,e.val)∈m.map (fun p=>(kV p.1,p.2)):=by rw [← h.list]; exact List.mem_map.2 ⟨e,he,rfl⟩
  obtain ⟨p,_,hp⟩:=List.mem_map.1 this
  simp only [Prod.mk.injEq] at hp
  exact ⟨p.1,hp.1.symm⟩) with ⟨A,B⟩|⟨j,e,A,B,C⟩
 ·exact .inl ⟨A,D B⟩
 ·have:=E j e B C
  exact .inr ⟨j,e.val,A,this,(jQ h.keys).1 (aT this)⟩
theorem iK {P:Program} {w:World} {kt:Nat} {x:K} (hk:um P kt kV) (e:Bool):(Instr.checkKey e 10000 kt (kV x)).run P w= .ok () w:=hk.check e x w
section
variable {E:e_} {ops:Array Oper} {Q:cW} {rest:List Oper} {D:List Deferred} {L:List (Nat×Value)} {C:List au}
variable {dst:Option Tmp} {d:Nat} {ty:TypeId} {ps:String} {af:Array Edge} {g:Option (Nat×Bool)}
theorem nj {t:TypeId} (hg:jq ops L g=true) (hd:Nat.blt d E.n=true) (k: ∀ b,RJ E ops Q rest D ((d,.map (some b))::L) (hE kV b []::C)):RJ E ops Q (⟨some d,.makeMap t none,ty,ps,af,g⟩::rest) D L C:=by
 intro a w B hs
 have hd':d<E.n:=by rw [← Nat.blt_eq]; exact hd
 unfold rI
 rw [if_pos (dN B hg)]
 refine gO (v:= .map (some w.heap.size)) (w':=w.alloc (.map #[] 0)) sm ?_ ?_
 ·simp [execOp,Instr.makeMap,newObj,Sem.run]
 ·refine k _ _ _ (B.put hd' _) (hs.grow (dL.alloc no w _) (N:=[hE kV w.heap.size []]) ⟨fun A hA=>?_,fun A hA b hb=>?_,List.pairwise_singleton _ _⟩)
  ·simp at hA; subst hA; exact ⟨#[],0,heap_alloc_new w _,iU.nil⟩
  ·simp at hA; subst hA; exact Nat.le_of_eq (Eq.symm hb)
theorem iU.push {es:Array MapEntry} {c:Nat} {m:List (K×Value)} (h:iU kV es c m) {x:K} (hx:m.lookup x=none) (v:Value):iU kV (es.push {key:=kV x,val:=v,born:=c}) (c+1) (m++[(x,v)]):=by
 refine ⟨by simp [h.list],?_,?_,?_⟩
 ·rw [List.map_append,List.nodup_append]
  refine ⟨h.keys,sm,fun a ha b hb=>?_⟩
  simp at hb; subst hb
  obtain ⟨p,hp,rfl⟩:=List.mem_map.1 ha
  exact g5.1 hx p hp
 ·intro e he
  simp only [Array.toList_push,kB,bR] at he
  rcases he with he|rfl
  ·exact Nat.lt_succ_of_lt (h.KS e he)
  ·exact Nat.lt_succ_self _
 ·simp only [Array.toList_push,List.map_append,List.map_cons,List.map_nil]
  rw [List.nodup_append]
  refine ⟨h.born,sm,fun a ha b hb=>?_⟩
  simp at hb; subst hb
  obtain ⟨p,hp,rfl⟩:=List.mem_map.1 ha
  exact Nat.ne_of_lt (h.KS p hp)
theorem Ou {m:List (K×Value)} {j:Nat} {x:K} {v0 v:Value} (hn:(m.map (·.1)).Nodup) (hj:m[j]? =some (x,v0)):m.map (fun p=>if p.1=x then (x,v) else p)=m.set j (x,v):=by
 refine List.ext_getElem? fun i=>?_
 rw [fw,List.getElem?_set]
 by_cases e:j=i
 ·subst e
  have hl:=(List.getElem?_eq_some_iff.1 hj).1
  rw [hj]; simp [hl]
 ·rw [if_neg e]
  cases hi:m[i]? with
  |none=>rfl
  |some p=>
   simp only [Option.map_some]
   rw [if_neg]
   intro hp
   have B:(m.map (·.1))[i]? =some x:=by rw [fw,hi]; simp [hp]
   have C:(m.map (·.1))[j]? =some x:=by rw [fw,hj]; rfl
   have A:=(List.getElem?_eq_some_iff.1 B).1
   exact e (((List.getElem?_inj A hn).1 (B.trans C.symm)).symm)
theorem iU.set {es:Array MapEntry} {c:Nat} {m:List (K×Value)} (h:iU kV es c m) {x:K} {j:Nat} {v0:Value} (hj:m[j]? =some (x,v0)) (hx:m.lookup x=some v0) (v:Value):
 iU kV (es.modify j fun e=>{e with key:=kV x,val:=v}) c (ew m x v):=by
 have C:ew m x v=m.set j (x,v):=by unfold ew; rw [hx]; simpa using Ou h.keys hj
 have hl:=(List.getElem?_eq_some_iff.1 hj).1
 have E:=h.size
 have A:j<es.size:=by omega
 have B:(es.modify j fun e=>{e with key:=kV x,val:=v}).toList=es.toList.set j {(es[j]) with key:=kV x,val:=v}:=by
  refine List.ext_getElem? fun i=>?_
  rw [Array.getElem?_toList,Array.getElem?_modify,List.getElem?_set]
  by_cases e:j=i
  ·subst e; simp [A]
  ·simp [e]
 have D:(es.toList.set j {(es[j]) with key:=kV x,val:=v}).map (·.born)=es.toList.map (·.born):=by
  rw [List.map_set]
  refine List.ext_getElem? fun i=>?_
  rw [List.getElem?_set]
  by_cases e:j=i
  ·subst e; simp [A]
  ·rw [if_neg e]
 refine ⟨?_,?_,?_,?_⟩
 ·rw [B,C,List.map_set,List.map_set,h.list]
 ·rw [C,List.map_set]
  have:(m.map (·.1)).set j x=m.map (·.1):=by
   refine List.ext_getElem? fun i=>?_
   rw [List.getElem?_set]
   by_cases e:j=i
   ·subst e; simp [hl]; simpa using (congrArg Prod.fst ((List.getElem?_eq_some_iff.1 hj).2)).symm
   ·rw [if_neg e]
  simp only [this]
  exact h.keys
 ·intro e he
  rw [B] at he
  have hb:e.born∈(es.toList.set j {(es[j]) with key:=kV x,val:=v}).map (·.born):=List.mem_map.2 ⟨e,he,rfl⟩
  rw [D] at hb
  obtain ⟨e',he',hq⟩:=List.mem_map.1 hb
  rw [← hq]; exact h.KS e' he'
 ·rw [B,D]; exact h.born
/-- m[x] = y -/
theorem iY {t kt et:TypeId} {xm xk xv:Operand} {b:Nat} {x:K} {v:Value} {m m':List (K×Value)} {C':List au} (i:Nat) (hg:jq ops L g=true) (hm:ev L xm=some (.map (some b))) (hk:ev L xk=some (kV x)) (hv:ev L xv=some v)
 (ht:E.P.underlying t=some (.map kt et)) (hkt:um E.P kt kV) (hC:C[i]? =some (hE kV b m)) (hm':ew m x v=m') (hC':C.set i (hE kV b m')=C') (k:RJ E ops Q rest D L C'):
 RJ E ops Q (⟨none,.mapUpdate t xm xk xv,ty,ps,af,g⟩::rest) D L C:=by
 subst hm' hC'
 intro a w A hs
 unfold rI
 rw [if_pos (dN A hg)]
 obtain ⟨es,c,he,hi⟩:=hs.holds _ (aT hC)
 have B:(getObj b).run E.P w= .ok (.map es c) w:=MapKept.run_getObj_map he
 rcases oL (P:=E.P) (w:=w) (x:=x) hkt hi with ⟨AA,F⟩|⟨j,N,AA,F,J⟩
 ·refine ry (w':={w with heap:=w.heap.setIfInBounds b (.map (es.push {key:=kV x,val:=v,born:=c}) (c+1))}) sm ?_ ?_
  ·simp [execOp,A.ev hm,A.ev hk,A.ev hv,Instr.mapUpdate,run_underlying ht,B,iK hkt,AA,MapKept.run_setObj_map _ he]
  ·refine k _ _ ⟨A.defers,A.size,A.at_⟩ (hs.Dk (b:=b) i hC U U (mU _) (fun _ h=>h) ⟨_,_,o4 he,?_⟩)
   have:ew m x v=m++[(x,v)]:=by unfold ew; rw [F]; rfl
   rw [this]; exact hi.push F v
 ·have M:=hi.size
  have G:j<es.size:=by have:=(List.getElem?_eq_some_iff.1 F).1; omega
  have H:(es[j]).key=kV x:=by
   have:=congrArg (fun l=>l[j]?) hi.list
   simp [G,F] at this
   exact this.1
  refine ry (w':={w with heap:=w.heap.setIfInBounds b (.map (es.modify j fun e=>{e with key:=kV x,val:=v}) c)}) sm ?_ ?_
  ·simp [execOp,A.ev hm,A.ev hk,A.ev hv,Instr.mapUpdate,run_underlying ht,B,iK hkt,AA,MapKept.run_setObj_map _ he,Instr.keyThatStays,G,H,hkt.bits x]
  ·exact k _ _ ⟨A.defers,A.size,A.at_⟩ (hs.Dk (b:=b) i hC U U (mU _) (fun _ h=>h) ⟨_,_,o4 he,hi.set F J v⟩)
theorem iU.del {es:Array MapEntry} {c:Nat} {m:List (K×Value)} (h:iU kV es c m) {x:K} {j:Nat} {v0:Value} (hj:m[j]? =some (x,v0)):iU kV (es.eraseIdxIfInBounds j) c (cj m x):=by
 have hl:=(List.getElem?_eq_some_iff.1 hj).1
 have D:=h.size
 have A:j<es.size:=by omega
 have B:(es.eraseIdxIfInBounds j).toList=es.toList.eraseIdx j:=by simp [Array.eraseIdxIfInBounds,A]
 have E:cj m x=m.eraseIdx j:=by
  have hn:=h.keys
  clear h D A B
  induction m generalizing j with
  |nil=>simp at hj
  |cons p m ih=>
   obtain ⟨k,v⟩:=p
   simp only [List.map_cons,List.nodup_cons] at hn
   cases j with
   |zero=>
    simp at hj
    obtain ⟨rfl,rfl⟩:=hj
    simp only [cj,List.eraseIdx_zero,List.tail_cons]
    rw [List.filter_cons_of_neg sm]
    refine List.filter_eq_self.2 fun p hp=>?_
    have:p.1≠k:=fun e=>hn.1 (List.mem_map.2 ⟨p,hp,e⟩)
    simpa using this
   |succ j=>
    simp only [List.getElem?_cons_succ] at hj
    have C:k≠x:=fun e=>hn.1 (List.mem_map.2 ⟨_,aT hj,e.symm⟩)
    simp only [cj,List.eraseIdx_cons_succ] at ih ⊢
    rw [List.filter_cons_of_pos (by simpa using C),ih hj (by simpa using (List.getElem?_eq_some_iff.1 hj).1) hn.2]
 have sub:(es.eraseIdxIfInBounds j).toList.Sublist es.toList:=by rw [B]; exact List.eraseIdx_sublist _ _
 refine ⟨?_,?_,fun e he=>h.KS e (sub.subset he),h.born.sublist (sub.map _)⟩
 ·rw [B,E,ChangeMaps.map_eraseIdx,ChangeMaps.map_eraseIdx,h.list]
 ·rw [E]; exact h.keys.sublist ((List.eraseIdx_sublist _ _).map _)
theorem DB {m:List (K×Value)} {x:K} (h:m.lookup x=none):cj m x=m:=List.filter_eq_self.2 fun p hp=>by simpa using g5.1 h p hp
/-- y, ok := m[x] -/
theorem L9 {t kt et:TypeId} {xm xk:Operand} {b:Nat} {x:K} {z:Value} {m:List (K×Value)} (hg:jq ops L g=true) (hm:ev L xm=some (.map (some b))) (hk:ev L xk=some (kV x))
 (ht:E.P.underlying t=some (.map kt et)) (hkt:um E.P kt kV) (hz:tV E.P et=some z) (hC:i_ C (hE kV b m).holds):
 SD E ops ⟨dst,.lookup t xm xk true,ty,ps,af,g⟩ D L C (.tuple [(m.lookup x).getD z,.bool (m.lookup x).isSome].toArray):=
 dE hg sm fun a w A hs=>by
  obtain ⟨es,c,he,hi⟩:=hs.has hC
  have B:(getObj b).run E.P w= .ok (.map es c) w:=MapKept.run_getObj_map he
  rcases oL (P:=E.P) (w:=w) (x:=x) hkt hi with ⟨F,G⟩|⟨j,AA,F,G,H⟩
  ·simp [execOp,Instr.lookup,A.ev hm,A.ev hk,run_underlying ht,B,iK hkt,F,G,IZ hz]
  ·simp [execOp,Instr.lookup,A.ev hm,A.ev hk,run_underlying ht,B,iK hkt,F,H]
/-- m[x] -/
theorem HW {t kt et:TypeId} {xm xk:Operand} {b:Nat} {x:K} {z:Value} {m:List (K×Value)} (hg:jq ops L g=true) (hm:ev L xm=some (.map (some b))) (hk:ev L xk=some (kV x))
 (ht:E.P.underlying t=some (.map kt et)) (hkt:um E.P kt kV) (hz:tV E.P et=some z) (hC:i_ C (hE kV b m).holds):
 SD E ops ⟨dst,.lookup t xm xk false,ty,ps,af,g⟩ D L C ((m.lookup x).getD z):=
 dE hg sm fun a w A hs=>by
  obtain ⟨es,c,he,hi⟩:=hs.has hC
  have B:(getObj b).run E.P w= .ok (.map es c) w:=MapKept.run_getObj_map he
  rcases oL (P:=E.P) (w:=w) (x:=x) hkt hi with ⟨F,G⟩|⟨j,AA,F,G,H⟩
  ·simp [execOp,Instr.lookup,A.ev hm,A.ev hk,run_underlying ht,B,iK hkt,F,G,IZ hz]
  ·simp [execOp,Instr.lookup,A.ev hm,A.ev hk,run_underlying ht,B,iK hkt,F,H]
/-- len(m) -/
theorem L8 {t kt et:TypeId} {xm:Operand} {b:Nat} {m:List (K×Value)} (hg:jq ops L g=true) (hm:ev L xm=some (.map (some b))) (ht:E.P.underlying t=some (.map kt et)) (hC:i_ C (hE kV b m).holds):
 SD E ops ⟨dst,.call {callee:= .builtin .len,args:= #[xm],argTypes:= #[t]},ty,ps,af,g⟩ D L C (.int .i64 (m.length:Int)):=
 dE hg sm fun a w B hs=>by
  obtain ⟨es,c,he,hi⟩:=hs.has hC
  have A:(getObj b).run E.P w= .ok (.map es c) w:=MapKept.run_getObj_map he
  simp [execOp,resolve,invoke,builtin,B.ev hm,Builtin.len_,run_underlying ht,A,hi.size,goInt]
theorem kx {β:Type} {t kt et:TypeId} {xm xk:Operand} {b:Nat} {x:K} {f:β→Value} {z:β} {l:List (K×β)} (hg:jq ops L g=true) (hm:ev L xm=some (.map (some b))) (hk:ev L xk=some (kV x))
 (ht:E.P.underlying t=some (.map kt et)) (hkt:um E.P kt kV) (hz:tV E.P et=some (f z)) (hC:i_ C (hE kV b (bG f l)).holds):
 SD E ops ⟨dst,.lookup t xm xk true,ty,ps,af,g⟩ D L C (.tuple [f ((l.lookup x).getD z),.bool (l.lookup x).isSome].toArray):=by
 have:=L9 (dst:=dst) (ty:=ty) (ps:=ps) (af:=af) (D:=D) hg hm hk ht hkt hz hC
 rw [mO] at this
 have A:((l.lookup x).map f).getD (f z)=f ((l.lookup x).getD z):=by cases l.lookup x<;>rfl
 rw [A,Option.isSome_map] at this
 exact this
theorem kM {β:Type} {t kt et:TypeId} {xm xk:Operand} {b:Nat} {x:K} {f:β→Value} {z:β} {l:List (K×β)} (hg:jq ops L g=true) (hm:ev L xm=some (.map (some b))) (hk:ev L xk=some (kV x))
 (ht:E.P.underlying t=some (.map kt et)) (hkt:um E.P kt kV) (hz:tV E.P et=some (f z)) (hC:i_ C (hE kV b (bG f l)).holds):
 SD E ops ⟨dst,.lookup t xm xk false,ty,ps,af,g⟩ D L C (f ((l.lookup x).getD z)):=by
 have:=HW (dst:=dst) (ty:=ty) (ps:=ps) (af:=af) (D:=D) hg hm hk ht hkt hz hC
 rw [mO] at this
 have A:((l.lookup x).map f).getD (f z)=f ((l.lookup x).getD z):=by cases l.lookup x<;>rfl
 rw [A] at this
 exact this
theorem EJ {β:Type} {t kt et:TypeId} {xm:Operand} {b:Nat} {f:β→Value} {l:List (K×β)} (hg:jq ops L g=true) (hm:ev L xm=some (.map (some b))) (ht:E.P.underlying t=some (.map kt et)) (hC:i_ C (hE kV b (bG f l)).holds):
 SD E ops ⟨dst,.call {callee:= .builtin .len,args:= #[xm],argTypes:= #[t]},ty,ps,af,g⟩ D L C (.int .i64 (l.length:Int)):=by
 have:=L8 (dst:=dst) (ty:=ty) (ps:=ps) (af:=af) (D:=D) hg hm ht hC
 rwa [G0] at this
end
theorem dF {β:Type} {x:K} {y:β} {l:List (K×β)} (h:(x,y)∈l):(cj l x).length<l.length:=by
 unfold cj
 exact List.length_filter_lt_length_iff_exists.2 ⟨_,h,sm⟩
theorem j1 {β:Type} {x:K} {p:K×β} {l:List (K×β)}:p∈cj l x↔p∈l∧p.1≠x:=by simp [cj]
/-- an iterator over a map: what is left; what came last -/
def yz (kV:K→Value) (r b:Nat) (m left:List (K×Value)) (cur:Option (K×Value)):au where
 fg k:=k=r∨k=b
 wf k:=k=r∨k=b
 holds w:=r≠b∧ ∃ (es:Array MapEntry) (c since:Nat) (seen:Array Nat) (st:Nat),w.heap[b]? =some (.map es c)∧iU kV es c m∧w.heap[r]? =some (.mapIter (some b) since seen st)∧(∀ e∈es.toList,e.born<since)∧since≤st∧since≤c∧
  (leftOf es seen).toList.map (fun (e:MapEntry)=>(e.key,e.val))=left.map (fun p=>(kV p.1,p.2))∧
  ∀ p,cur=some p→ ∃ (e:MapEntry) (seen0:Array Nat),e∈es.toList∧seen=seen0.push e.born∧st=c∧e.key=kV p.1∧e.val=p.2
 wr:=true
 ki _ h:=h
 whole _ _ h:=h
 lt w h k hk:=by
  obtain ⟨_,es,c,since,seen,st,h1,_,h2,_⟩:=h
  rcases hk with rfl|rfl
  ·exact d_ h2
  ·exact d_ h1
 ou w w' hk h:=by
  obtain ⟨hne,es,c,since,seen,st,h1,h2,h3,h4⟩:=h
  exact ⟨hne,es,c,since,seen,st,(hk b (.inr rfl)).trans h1,h2,(hk r (.inl rfl)).trans h3,h4⟩
theorem yb {r b:Nat} {m left:List (K×Value)} {cur:Option (K×Value)}:(∀ w,(yz kV r b m left cur).holds w→(yz kV r b m left none).holds w)∧(∀ k,(yz kV r b m left none).fg k→(yz kV r b m left cur).fg k)∧ ∀ k,(yz kV r b m left none).wf k→(yz kV r b m left cur).wf k:=
 ⟨fun w h=>by
  obtain ⟨A,es,c,since,seen,st,B,C,D,E,F,h5',G,_⟩:=h
  exact ⟨A,es,c,since,seen,st,B,C,D,E,F,h5',G,fun p hp=>by cases hp⟩,fun _ h=>h,fun _ h=>h⟩
theorem JW {r b:Nat} {m left:List (K×Value)} {cur:Option (K×Value)}:(∀ w,(yz kV r b m left cur).holds w→(hE kV b m).holds w)∧(∀ k,(hE kV b m).fg k→(yz kV r b m left cur).fg k)∧ ∀ k,(hE kV b m).wf k→(yz kV r b m left cur).wf k:=
 ⟨fun w h=>by
  obtain ⟨C,es,c,since,seen,st,A,B,_⟩:=h
  exact ⟨es,c,A,B⟩,fun _ h=> .inr h,fun _ h=> .inr h⟩
theorem Bm {es:Array MapEntry} {c:Nat} {m:List (K×Value)} (hinj: ∀ x y,kV x=kV y→x=y) (hi:iU kV es c m) {x y:MapEntry} (hx:x∈es.toList) (hy:y∈es.toList) (e:x.key=y.key):x=y:=by
 have hk:(es.toList.map (·.key))=(m.map (·.1)).map kV:=by
  have:=congrArg (List.map Prod.fst) hi.list
  simpa [Function.comp_def] using this
 have h:(es.toList.map (·.key)).Nodup:=by
  rw [hk,List.nodup_iff_pairwise_ne,List.pairwise_map]
  exact hi.keys.imp (fun B he=>B (hinj _ _ he))
 obtain ⟨i,A⟩:=List.getElem?_of_mem hx
 obtain ⟨j,hj⟩:=List.getElem?_of_mem hy
 have C:(es.toList.map (·.key))[i]? =some x.key:=by rw [fw,A]; rfl
 have D:(es.toList.map (·.key))[j]? =some x.key:=by rw [fw,hj,e]; rfl
 have E:=(List.getElem?_inj (List.getElem?_eq_some_iff.1 C).1 h).1 (C.trans D.symm)
 subst E
 exact Option.some.inj (A.symm.trans hj)
section
variable {E:e_} {ops:Array Oper} {Q:cW} {rest:List Oper} {D:List Deferred} {L:List (Nat×Value)} {C:List au}
variable {dst:Option Tmp} {d:Nat} {ty:TypeId} {ps:String} {af:Array Edge} {g:Option (Nat×Bool)}
theorem uL {t kt et:TypeId} {xm:Operand} {b:Nat} {m:List (K×Value)} (i:Nat) (hg:jq ops L g=true) (hm:ev L xm=some (.map (some b))) (ht:E.P.underlying t=some (.map kt et)) (hC:C[i]? =some (hE kV b m)) (hd:Nat.blt d E.n=true)
 (k: ∀ r,RJ E ops Q rest D ((d,.pointer (some ⟨r,0,none⟩))::L) (C.set i (yz kV r b m m none))):RJ E ops Q (⟨some d,.range t xm,ty,ps,af,g⟩::rest) D L C:=by
 intro a w A hs
 have hd':d<E.n:=by rw [← Nat.blt_eq]; exact hd
 unfold rI
 rw [if_pos (dN A hg)]
 obtain ⟨es,c,he,hi⟩:=hs.holds _ (aT hC)
 have F:b<w.heap.size:=d_ he
 have B:(getObj b).run E.P w= .ok (.map es c) w:=MapKept.run_getObj_map he
 refine gO (v:= .pointer (some ⟨w.heap.size,0,none⟩)) (w':=w.alloc (.mapIter (some b) c #[] c)) sm ?_ ?_
 ·simp [execOp,Instr.range,A.ev hm,run_underlying ht,B,newObj,Sem.run]
 ·refine k _ _ _ (A.put hd' _) (hs.mv i hC ⟨⟨om,es,c,c,#[],c,?_,hi,heap_alloc_new w _,hi.KS,Nat.le_refl _,Nat.le_refl _,?_,fun p hp=>by cases hp⟩,dL.alloc _ w _,fun q hq=>?_,fun q hq=>?_⟩)
  ·rw [Below.heap_alloc w _ b F]; exact he
  ·have:leftOf es #[]=es:=by unfold leftOf; exact Array.filter_eq_self.2 sm
   rw [this]; exact hi.list
  ·rcases hq with rfl|rfl
   ·exact .inr (Nat.le_refl _)
   ·exact .inl U
  ·rcases hq with rfl|rfl
   ·exact .inr (Nat.le_refl _)
   ·exact .inl U
theorem w5 {es:Array MapEntry} {c:Nat} {m left:List (K×Value)} {seen:Array Nat} (hinj: ∀ x y,kV x=kV y→x=y) (hi:iU kV es c m) (h:(leftOf es seen).toList.map (fun (e:MapEntry)=>(e.key,e.val))=left.map (fun p=>(kV p.1,p.2))):(left.map (·.1)).Nodup:=by
 have B:((leftOf es seen).toList.map (·.key)).Sublist (es.toList.map (·.key)):=by
  unfold leftOf; rw [Array.toList_filter]; exact List.filter_sublist.map _
 have D:(es.toList.map (·.key))=(m.map (·.1)).map kV:=by
  have:=congrArg (List.map Prod.fst) hi.list
  simpa [Function.comp_def] using this
 have E:((leftOf es seen).toList.map (·.key))=(left.map (·.1)).map kV:=by
  have:=congrArg (List.map Prod.fst) h
  simpa [Function.comp_def] using this
 rw [D,E] at B
 have F:((m.map (·.1)).map kV).Nodup:=by
  rw [List.nodup_iff_pairwise_ne,List.pairwise_map]
  exact hi.keys.imp (fun A he=>A (hinj _ _ he))
 have C:=F.sublist B
 rw [List.nodup_iff_pairwise_ne,List.pairwise_map] at C
 rw [List.nodup_iff_pairwise_ne]
 exact C.imp (fun A he=>A (by rw [he]))
theorem Kw (hinj: ∀ x y,kV x=kV y→x=y) {xi:Operand} {r b:Nat} {m left:List (K×Value)} {cur:Option (K×Value)} (i:Nat) (hg:jq ops L g=true) (hm:ev L xi=some (.pointer (some ⟨r,0,none⟩))) (hC:C[i]? =some (yz kV r b m left cur)) (hd:Nat.blt d E.n=true)
 (k0:left=[]→RJ E ops Q rest D ((d,.tuple [.bool false].toArray)::L) C)
 (k1: ∀ x v,(x,v)∈left→(left.map (·.1)).Nodup→RJ E ops Q rest D ((d,.tuple [.bool true,kV x,v].toArray)::L) (C.set i (yz kV r b m (cj left x) (some (x,v))))):
 RJ E ops Q (⟨some d,.next xi false,ty,ps,af,g⟩::rest) D L C:=by
 intro a w G hs
 have hd':d<E.n:=by rw [← Nat.blt_eq]; exact hd
 unfold rI
 rw [if_pos (dN G hg)]
 obtain ⟨R,es,c,since,seen,st,X,hi,Y,J,V,M,A,_⟩:=hs.holds _ (aT hC)
 rcases run_next_at (P:=E.P) w ty r b since st seen es c Y X J V with ⟨Z,hr⟩|⟨e,he,N,H,hr⟩
 ·refine gO (v:= .tuple #[.bool false]) (w':=w) sm ?_ ?_
  ·simp [execOp,G.ev hm,hr]
  ·refine k0 ?_ _ _ (G.put hd' _) hs
   have:(leftOf es seen).toList=[]:=by rw [← List.length_eq_zero_iff,Array.length_toList]; exact Z
   rw [this] at A
   exact List.map_eq_nil_iff.1 A.symm
 ·have O:(e.key,e.val)∈left.map (fun p=>(kV p.1,p.2)):=by rw [← A]; exact List.mem_map.2 ⟨e,he,rfl⟩
  obtain ⟨p,hp,S⟩:=List.mem_map.1 O
  obtain ⟨x,v⟩:=p
  simp only [Prod.mk.injEq] at S
  obtain ⟨hk,hv⟩:=S
  refine gO (v:= .tuple #[.bool true,e.key,e.val]) (w':=ChangeMaps.setBlock N r (.mapIter (some b) since (seen.push e.born) c)) sm ?_ ?_
  ·simp [execOp,G.ev hm,hr]
  ·rw [← hk,← hv]
   have AA:=w5 hinj hi A
   have F:e∈es.toList:=by unfold leftOf at he; rw [Array.toList_filter] at he; exact (List.mem_filter.1 he).1
   have f:c=c:=rfl
   have B:N.heap=w.heap:=by rcases H with rfl|rfl<;>rfl
   refine k1 x v hp AA _ _ (G.put hd' _) (hs.mv i hC ⟨⟨R,es,c,since,seen.push e.born,c,?_,hi,?_,J,M,M,?_,fun q hq=>?_⟩,?_,fun q hq=> .inl hq,fun q hq=> .inl hq⟩)
   ·show (N.heap.setIfInBounds r _)[b]? =_
    rw [Array.getElem?_setIfInBounds_ne R,B]; exact X
   ·show (N.heap.setIfInBounds r _)[r]? =_
    rw [Array.getElem?_setIfInBounds_self_of_lt (by rw [B]; exact d_ Y)]
   ·have T:leftOf es (seen.push e.born)=(leftOf es seen).filter (fun z=> !(z.born==e.born)):=by
     unfold leftOf
     rw [Array.filter_filter]
     congr 1
     funext z
     simp only [Array.contains_push,Bool.not_or]
     rw [Bool.and_comm]
    rw [T,Array.toList_filter]
    have key: ∀ (l:List MapEntry) (ll:List (K×Value)),(∀ z∈l,z∈es.toList)→l.map (fun (e:MapEntry)=>(e.key,e.val))=ll.map (fun p=>(kV p.1,p.2))→
     (l.filter (fun z=> !(z.born==e.born))).map (fun (e:MapEntry)=>(e.key,e.val))=(cj ll x).map (fun p=>(kV p.1,p.2)):=by
     intro l
     induction l with
     |nil=>intro ll _ h; cases ll with
      |nil=>rfl
      |cons p ll=>simp at h
     |cons z l ih=>
      intro ll hz h
      cases ll with
      |nil=>simp at h
      |cons p ll=>
       simp only [List.map_cons,List.cons.injEq,Prod.mk.injEq] at h
       have ih':=ih ll (fun y hy=>hz y (by simp [hy])) h.2
       have AB:(z.born=e.born)↔(p.1=x):=by
        constructor
        ·intro hb
         have:z=e:=Dj hi.born (hz z sm) F hb
         rw [this] at h
         have:=h.1.1.symm.trans hk.symm
         exact hinj _ _ this
        ·intro hx
         have W:z.key=e.key:=by rw [h.1.1,hx,hk]
         rw [Bm hinj hi (hz z sm) F W]
       unfold cj at ih' ⊢
       by_cases hx:p.1=x
       ·rw [List.filter_cons_of_neg (by simp [AB.2 hx]),List.filter_cons_of_neg (by simp [hx])]; exact ih'
       ·rw [List.filter_cons_of_pos (by simpa using fun hb=>hx (AB.1 hb)),List.filter_cons_of_pos (by simpa using hx)]
        simp only [List.map_cons,h.1.1,h.1.2,ih']
    exact key _ _ (fun z hz=>by unfold leftOf at hz; rw [Array.toList_filter] at hz; exact (List.mem_filter.1 hz).1) A
   ·cases hq
    exact ⟨e,seen,F,U,U,hk.symm,hv.symm⟩
   ·refine ⟨?_,?_,?_,?_,fun q hq hn=>?_⟩
    ·rcases H with rfl|rfl<;>rfl
    ·rcases H with rfl|rfl<;>rfl
    ·rcases H with rfl|rfl<;>rfl
    ·show w.heap.size≤(N.heap.setIfInBounds r _).size
     simp [B]
    ·show (N.heap.setIfInBounds r _)[q]? =_
     rw [Array.getElem?_setIfInBounds_ne (fun e=>hn (.inl e.symm)),B]
theorem sI {xi:Operand} {r b:Nat} {m left:List (K×Value)} {x:K} {v:Value} (i:Nat) (hg:jq ops L g=true) (hm:ev L xi=some (.pointer (some ⟨r,0,none⟩))) (hC:C[i]? =some (yz kV r b m left (some (x,v)))):
 SD E ops ⟨dst,.entry xi,ty,ps,af,g⟩ D L C (.tuple [kV x,v].toArray):=
 dE hg sm fun a w F hs=>by
  obtain ⟨N,es,c,since,seen,st,J,hi,M,H,O,AA,G,B⟩:=hs.holds _ (aT hC)
  obtain ⟨e,A,he,rfl,rfl,hk,hv⟩:=B _ rfl
  have:=run_entry_at (P:=E.P) w r b since A es st e M J he hi.born
  simp [execOp,F.ev hm,this,hk,hv]
theorem sj (hinj: ∀ x y,kV x=kV y→x=y) {β:Type} {f:β→Value} {xi:Operand} {r b:Nat} {m:List (K×Value)} {ll:List (K×β)} {cur:Option (K×Value)} (i:Nat) (hg:jq ops L g=true) (hm:ev L xi=some (.pointer (some ⟨r,0,none⟩))) (hC:C[i]? =some (yz kV r b m (bG f ll) cur)) (hd:Nat.blt d E.n=true)
 (k0:ll=[]→RJ E ops Q rest D ((d,.tuple [.bool false].toArray)::L) C)
 (k1: ∀ x y,(x,y)∈ll→(ll.map (·.1)).Nodup→RJ E ops Q rest D ((d,.tuple [.bool true,kV x,f y].toArray)::L) (C.set i (yz kV r b m (bG f (cj ll x)) (some (x,f y))))):
 RJ E ops Q (⟨some d,.next xi false,ty,ps,af,g⟩::rest) D L C:=by
 refine Kw hinj i hg hm hC hd (fun h=>k0 (List.map_eq_nil_iff.1 h)) (fun x v B hn=>?_)
 obtain ⟨p,hp,A⟩:=List.mem_map.1 B
 simp only [Prod.mk.injEq] at A
 obtain ⟨rfl,rfl⟩:=A
 have:=k1 p.1 p.2 hp (by simpa [bG,Function.comp_def] using hn)
 rwa [lL] at this
end
end
end
section
structure bO where
 Start:Int
 f_:Int
 pX:List Int
 vq:List (List (Int×aa))
 cQ:Int
 eM:Int
 QU:Int
def bO.n (w:bO):Nat:=w.pX.length
def fh (s:Int):aC:=if s<0 then ⟨0,1⟩ else ⟨1,0⟩
def dj (a b:aC):aC:=⟨a.right+b.right,a.eQ+b.eQ⟩
def s8 (w:bO) (b:Nat):List (Int×aa):=(w.vq[b]?).getD []
def il (w:bO) (b:Nat):List (Int×aa):=(-1,⟨w.Start,w.f_⟩)::s8 w b
def bQ (w:bO) (b:Nat):Int:=(w.pX[b]?).getD 0
def kH (w:bO) (b:Nat) (p:aC×Int) (o:Int×aa):Option (aC×Int):=if max (p.2+bQ w b) o.2.Lo≤min o.2.Hi w.f_ then some (dj p.1 (fh o.1),max (p.2+bQ w b) o.2.Lo) else none
def fwd (w:bO):Nat→List (aC×Int)
 |0=>[(⟨0,0⟩,w.Start)]
 |b+1=>(fwd w b).flatMap fun p=>(il w b).filterMap (kH w b p)
def nP (w:bO) (b:Nat) (p:aC×Int) (o:Int×aa):Option (aC×Int):=if o.2.Lo≤min p.2 o.2.Hi then some (dj p.1 (fh o.1),min p.2 o.2.Hi-bQ w b) else none
def bwd (w:bO):Nat→List (aC×Int)
 |0=>[(⟨0,0⟩,w.f_)]
 |k+1=>(⟨0,0⟩,w.f_)::(bwd w k).flatMap fun p=>(il w (w.n-(k+1))).filterMap (nP w (w.n-(k+1)) p)
def back (w:bO) (b:Nat):List (aC×Int):=bwd w (w.n-b)
def ku (w:bO) (t:aC):Bool:=decide (t.eQ≤w.cQ∧w.QU-t.right≤w.eM)
theorem fK {w:bO} {b:Nat} {q:aC×Int}:q∈fwd w (b+1)↔ ∃ p∈fwd w b,∃ o∈il w b,kH w b p o=some q:=by
 simp only [fwd,List.mem_flatMap,List.mem_filterMap]
theorem uI {w:bO} {b:Nat} (h:w.n≤b):back w b=[(⟨0,0⟩,w.f_)]:=by
 unfold back; rw [Nat.sub_eq_zero_of_le h]; rfl
theorem oI {w:bO} {b:Nat} (h:b<w.n) {q:aC×Int}:q∈back w b↔q=(⟨0,0⟩,w.f_)∨ ∃ p∈back w (b+1),∃ o∈il w b,nP w b p o=some q:=by
 unfold back
 have e:w.n-b=(w.n-(b+1))+1:=by omega
 rw [e]
 simp only [bwd,ed,List.mem_flatMap,List.mem_filterMap]
 rw [show w.n-(w.n-(b+1)+1)=b by omega]
def tR (m c:List (aC×Int)):Prop:=(∀ t v,m.lookup t=some v→(t,v)∈c)∧ ∀ t y,(t,y)∈c→ ∃ v,m.lookup t=some v∧v≤y
def uV (m c:List (aC×Int)):Prop:=(∀ t v,m.lookup t=some v→(t,v)∈c)∧ ∀ t y,(t,y)∈c→ ∃ v,m.lookup t=some v∧y≤v
def u9 (m c:List (aC×Int)):Prop:= ∀ t v,m.lookup t=some v→(t,v)∈c
theorem mI {K β:Type} [DecidableEq K] {m:List (K×β)} {x t:K} {y:β}:(ew m x y).lookup t=if t=x then some y else m.lookup t:=by
 unfold ew
 by_cases hx:(m.lookup x).isSome
 ·rw [if_pos hx]
  have key: ∀ l:List (K×β),(l.lookup x).isSome∨True→(l.map (fun p=>if p.1=x then (x,y) else p)).lookup t=if t=x then (if (l.lookup x).isSome then some y else none) else l.lookup t:=by
   intro l _
   induction l with
   |nil=>simp
   |cons p l ih=>
    obtain ⟨k,v⟩:=p
    have ih:=ih (.inr trivial)
    by_cases hk:k=x
    ·subst hk
     by_cases ht:t=k
     ·subst ht; simp [List.lookup]
     ·have:(t==k)=false:=by simpa using ht
      simp only [List.map_cons,if_true,List.lookup,this,ih,if_neg ht]
    ·have hk':(x==k)=false:=by simpa using fun e=>hk e.symm
     by_cases ht:t=k
     ·subst ht; simp [List.lookup,hk]
     ·have A:(t==k)=false:=by simpa using ht
      simp only [List.map_cons,if_neg hk,List.lookup,A,ih,hk']
  rw [key m (.inr trivial)]
  by_cases ht:t=x
  ·subst ht
   rw [if_pos rfl,if_pos rfl,if_pos hx]
  ·rw [if_neg ht,if_neg ht]
 ·rw [if_neg hx]
  have hn:m.lookup x=none:=by cases h0:m.lookup x with
   |none=>rfl
   |some v=>exact absurd (by rw [h0]; rfl) hx
  by_cases ht:t=x
  ·subst ht
   rw [if_pos rfl]
   have:=g5.1 hn
   clear hn hx
   induction m with
   |nil=>simp
   |cons p m ih=>
    obtain ⟨k,v⟩:=p
    have hk:(t==k)=false:=by simpa using fun e=>this (k,v) sm e.symm
    simp only [List.cons_append,List.lookup,hk]
    exact ih (fun q hq=>this q (cS _ hq))
  ·rw [if_neg ht]
   clear hn hx
   induction m with
   |nil=>
    have:(t==x)=false:=by simpa using ht
    simp [List.lookup,this]
   |cons p m ih=>
    obtain ⟨k,v⟩:=p
    by_cases hk:t=k
    ·subst hk; simp [List.lookup]
    ·have:(t==k)=false:=by simpa using hk
     simp only [List.cons_append,List.lookup,this]
     exact ih
/-- what a map is after a try -/
def o5 (m:List (aC×Int)) (q:aC×Int):List (aC×Int):=match m.lookup q.1 with
 |none=>ew m q.1 q.2
 |some v=>if q.2<v then ew m q.1 q.2 else m
def oN (m:List (aC×Int)) (q:aC×Int):List (aC×Int):=match m.lookup q.1 with
 |none=>ew m q.1 q.2
 |some v=>if v<q.2 then ew m q.1 q.2 else m
theorem wL {m:List (aC×Int)} {q:aC×Int} {t:aC}:(o5 m q).lookup t=if t=q.1 then some (match m.lookup q.1 with |none=>q.2|some v=>min q.2 v) else m.lookup t:=by
 unfold o5
 cases h:m.lookup q.1 with
 |none=>simp only; rw [mI]
 |some v=>
  simp only
  split
  ·rename_i A
   rw [mI,Int.min_eq_left om]
  ·rename_i A
   split
   ·rename_i e; subst e; rw [h,Int.min_eq_right om]
   ·rfl
theorem xM {m:List (aC×Int)} {q:aC×Int} {t:aC}:(oN m q).lookup t=if t=q.1 then some (match m.lookup q.1 with |none=>q.2|some v=>max q.2 v) else m.lookup t:=by
 unfold oN
 cases h:m.lookup q.1 with
 |none=>simp only; rw [mI]
 |some v=>
  simp only
  split
  ·rename_i A
   rw [mI,Int.max_eq_left om]
  ·rename_i A
   split
   ·rename_i e; subst e; rw [h,Int.max_eq_right om]
   ·rfl
def x4 (m m':List (aC×Int)):Prop:= ∀ t v,m.lookup t=some v→ ∃ v',m'.lookup t=some v'∧v'≤v
def wy (m m':List (aC×Int)):Prop:= ∀ t v,m.lookup t=some v→ ∃ v',m'.lookup t=some v'∧v≤v'
theorem x4.refl (m:List (aC×Int)):x4 m m:=fun t v h=>⟨v,h,om⟩
theorem wy.refl (m:List (aC×Int)):wy m m:=fun t v h=>⟨v,h,om⟩
theorem vf {m:List (aC×Int)} {q:aC×Int}:x4 m (o5 m q):=fun t v h=>by
 rw [wL]
 split
 ·rename_i e; subst e; rw [h]; exact ⟨_,rfl,by simp only; omega⟩
 ·exact ⟨v,h,om⟩
theorem qq {m:List (aC×Int)} {q:aC×Int}:wy m (oN m q):=fun t v h=>by
 rw [xM]
 split
 ·rename_i e; subst e; rw [h]; exact ⟨_,rfl,by simp only; omega⟩
 ·exact ⟨v,h,om⟩
theorem G_ {m c:List (aC×Int)} {q:aC×Int} (h:u9 m c) (hq:q∈c):u9 (o5 m q) c:=fun t v hv=>by
 rw [wL] at hv
 split at hv
 ·rename_i e
  subst e
  cases hm:m.lookup q.1 with
  |none=>simp only [hm,Option.some.injEq] at hv; subst hv; exact hq
  |some x=>
   simp only [hm,Option.some.injEq] at hv; subst hv
   rcases Int.lt_or_le q.2 x with A|A
   ·rw [Int.min_eq_left om]; exact hq
   ·rw [Int.min_eq_right om]; exact h _ _ hm
 ·exact h t v hv
theorem Hc {m c:List (aC×Int)} {q:aC×Int} (h:u9 m c) (hq:q∈c):u9 (oN m q) c:=fun t v hv=>by
 rw [xM] at hv
 split at hv
 ·rename_i e
  subst e
  cases hm:m.lookup q.1 with
  |none=>simp only [hm,Option.some.injEq] at hv; subst hv; exact hq
  |some x=>
   simp only [hm,Option.some.injEq] at hv; subst hv
   rcases Int.lt_or_le q.2 x with A|A
   ·rw [Int.max_eq_right om]; exact h _ _ hm
   ·rw [Int.max_eq_left om]; exact hq
 ·exact h t v hv
theorem H6 {m:List (aC×Int)} {q:aC×Int}: ∃ v,(o5 m q).lookup q.1=some v∧v≤q.2:=by
 rw [wL,if_pos rfl]
 refine ⟨_,U,?_⟩
 cases m.lookup q.1<;>simp only <;>omega
theorem Ha {m:List (aC×Int)} {q:aC×Int}: ∃ v,(oN m q).lookup q.1=some v∧q.2≤v:=by
 rw [xM,if_pos rfl]
 refine ⟨_,U,?_⟩
 cases m.lookup q.1<;>simp only <;>omega
/-- all that comes of one entry, by some options, is held -/
def iW (w:bO) (b:Nat) (m:List (aC×Int)) (p:aC×Int) (os:List (Int×aa)):Prop:= ∀ o∈os,∀ q,kH w b p o=some q→ ∃ v,m.lookup q.1=some v∧v≤q.2
def iT (w:bO) (b:Nat) (m:List (aC×Int)) (p:aC×Int) (os:List (Int×aa)):Prop:= ∀ o∈os,∀ q,nP w b p o=some q→ ∃ v,m.lookup q.1=some v∧q.2≤v
theorem iW.lower {w:bO} {b:Nat} {m m':List (aC×Int)} {p:aC×Int} {os:List (Int×aa)} (h:iW w b m p os) (hl:x4 m m'):iW w b m' p os:=fun o ho q hq=>by
 obtain ⟨v,A,C⟩:=h o ho q hq
 obtain ⟨v',B,D⟩:=hl _ _ A
 exact ⟨v',B,om⟩
theorem iT.upper {w:bO} {b:Nat} {m m':List (aC×Int)} {p:aC×Int} {os:List (Int×aa)} (h:iT w b m p os) (hl:wy m m'):iT w b m' p os:=fun o ho q hq=>by
 obtain ⟨v,A,C⟩:=h o ho q hq
 obtain ⟨v',B,D⟩:=hl _ _ A
 exact ⟨v',B,om⟩
theorem iW.sub {w:bO} {b:Nat} {m:List (aC×Int)} {p:aC×Int} {os os':List (Int×aa)} (h:iW w b m p os) (hs: ∀ o∈os',o∈os):iW w b m p os':=fun o ho=>h o (hs o ho)
theorem iT.sub {w:bO} {b:Nat} {m:List (aC×Int)} {p:aC×Int} {os os':List (Int×aa)} (h:iT w b m p os) (hs: ∀ o∈os',o∈os):iT w b m p os':=fun o ho=>h o (hs o ho)
theorem iW.add {w:bO} {b:Nat} {m m':List (aC×Int)} {p:aC×Int} {os:List (Int×aa)} {o:Int×aa} (h:iW w b m p os) (hl:x4 m m') (hn: ∀ q,kH w b p o=some q→ ∃ v,m'.lookup q.1=some v∧v≤q.2):iW w b m' p (os++[o]):=fun o' ho q hq=>by
 rcases List.mem_append.1 ho with ho|ho
 ·exact h.lower hl o' ho q hq
 ·simp only [bR] at ho; subst ho; exact hn q hq
theorem iT.add {w:bO} {b:Nat} {m m':List (aC×Int)} {p:aC×Int} {os:List (Int×aa)} {o:Int×aa} (h:iT w b m p os) (hl:wy m m') (hn: ∀ q,nP w b p o=some q→ ∃ v,m'.lookup q.1=some v∧q.2≤v):iT w b m' p (os++[o]):=fun o' ho q hq=>by
 rcases List.mem_append.1 ho with ho|ho
 ·exact h.upper hl o' ho q hq
 ·simp only [bR] at ho; subst ho; exact hn q hq
theorem fr {m:List (aC×Int)} (hn:(m.map (·.1)).Nodup) {t:aC} {v:Int}:(t,v)∈m↔m.lookup t=some v:=jQ hn
theorem oP {z t:aC} {x v:Int}:List.lookup t [(z,x)]=some v↔t=z∧v=x:=by
 by_cases e:t=z
 ·subst e; simp [List.lookup,eq_comm]
 ·have:(t==z)=false:=by simpa using e
  simp [List.lookup,this,e]
theorem H3 {w:bO}:tR [(⟨0,0⟩,w.Start)] (fwd w 0):=by
 refine ⟨fun t v h=>?_,fun t y h=>?_⟩
 ·obtain ⟨rfl,rfl⟩:=oP.1 h
  simp [fwd]
 ·simp only [fwd,bR,Prod.mk.injEq] at h
  obtain ⟨rfl,rfl⟩:=h
  exact ⟨w.Start,oP.2 ⟨U,U⟩,Int.le_refl _⟩
theorem Ki {w:bO} {b:Nat} {mb m:List (aC×Int)} (hn:(mb.map (·.1)).Nodup) (h:tR mb (fwd w b)) (hs:u9 m (fwd w (b+1))) (hd: ∀ p∈mb,iW w b m p (il w b)):tR m (fwd w (b+1)):=⟨hs,fun t y hy=>by
 obtain ⟨p,hp,o,ho,e⟩:=fK.1 hy
 obtain ⟨v,B,E⟩:=h.2 p.1 p.2 hp
 unfold kH at e
 split at e
 ·rename_i D
  simp only [Option.some.injEq,Prod.mk.injEq] at e
  obtain ⟨v',A,C⟩:=hd (p.1,v) ((fr hn).2 B) o ho (dj p.1 (fh o.1),max (v+bQ w b) o.2.Lo) (by unfold kH; rw [if_pos (by simp only; omega)])
  simp only at A C
  rw [e.1] at A
  exact ⟨v',A,om⟩
 ·cases e⟩
theorem KR {w:bO} {b:Nat} (hb:w.n≤b):uV [(⟨0,0⟩,w.f_)] (back w b):=by
 rw [uI hb]
 refine ⟨fun t v h=>?_,fun t y h=>?_⟩
 ·obtain ⟨rfl,rfl⟩:=oP.1 h
  simp
 ·simp only [bR,Prod.mk.injEq] at h
  obtain ⟨rfl,rfl⟩:=h
  exact ⟨w.f_,oP.2 ⟨U,U⟩,Int.le_refl _⟩
theorem Jg {w:bO} {b:Nat} (hb:b<w.n) {mb m:List (aC×Int)} (hn:(mb.map (·.1)).Nodup) (h:uV mb (back w (b+1))) (hs:u9 m (back w b)) (h0: ∃ v,m.lookup ⟨0,0⟩=some v∧w.f_≤v) (hd: ∀ p∈mb,iT w b m p (il w b)):uV m (back w b):=⟨hs,fun t y hy=>by
 rcases (oI hb).1 hy with e|⟨p,hp,o,ho,e⟩
 ·simp only [Prod.mk.injEq] at e
  obtain ⟨rfl,rfl⟩:=e
  exact h0
 obtain ⟨v,B,E⟩:=h.2 p.1 p.2 hp
 unfold nP at e
 split at e
 ·rename_i D
  simp only [Option.some.injEq,Prod.mk.injEq] at e
  obtain ⟨v',A,C⟩:=hd (p.1,v) ((fr hn).2 B) o ho (dj p.1 (fh o.1),min v o.2.Hi-bQ w b) (by unfold nP; rw [if_pos (by simp only; omega)])
  simp only at A C
  rw [e.1] at A
  exact ⟨v',A,om⟩
 ·cases e⟩
end
section
def jm (w:bO) (b:Nat) (p u:aC×Int) (o:Int×aa):aa:=⟨max (p.2+bQ w b) o.2.Lo,min u.2 o.2.Hi⟩
def xn (p u:aC×Int) (o:Int×aa):aC:=dj (dj p.1 u.1) (fh o.1)
def mx (w:bO) (b:Nat) (p u:aC×Int) (o:Int×aa):Option (Int×aa):=if (jm w b p u o).Lo≤(jm w b p u o).Hi∧ku w (xn p u o)=true then some (o.1,jm w b p u o) else none
def pO (w:bO) (b:Nat) (mf mb:List (aC×Int)):List (Int×aa):=(il w b).flatMap fun o=>mf.flatMap fun p=>mb.filterMap fun u=>mx w b p u o
def mg (w:bO) (b:Nat):List (Int×aa):=pO w b (fwd w b) (back w (b+1))
theorem hO {w:bO} {b:Nat} {mf mb:List (aC×Int)} {q:Int×aa}:q∈pO w b mf mb↔ ∃ o∈il w b,∃ p∈mf,∃ u∈mb,mx w b p u o=some q:=by
 simp only [pO,List.mem_flatMap,List.mem_filterMap]
theorem jl {w:bO} {b:Nat} {p u:aC×Int} {o q:Int×aa}:mx w b p u o=some q↔(jm w b p u o).Lo≤(jm w b p u o).Hi∧ku w (xn p u o)=true∧q=(o.1,jm w b p u o):=by
 unfold mx
 split
 ·rename_i h
  simp only [Option.some.injEq]
  exact ⟨fun e=>⟨h.1,h.2,e.symm⟩,fun e=>e.2.2.symm⟩
 ·rename_i h
  simp only [reduceCtorEq,false_iff]
  exact fun e=>h ⟨e.1,e.2.1⟩
theorem mK {w:bO} {b:Nat} {mf mb:List (aC×Int)} {q:Int×aa} (h:q∈pO w b mf mb):q.2.Lo≤q.2.Hi:=by
 obtain ⟨o,_,p,_,u,_,e⟩:=hO.1 h
 obtain ⟨A,_,rfl⟩:=jl.1 e
 exact A
/-- what the maps tell is what all ways tell -/
theorem Ns {w:bO} {b:Nat} {mf mb:List (aC×Int)} (hf:tR mf (fwd w b)) (hb:uV mb (back w (b+1))) (nf:(mf.map (·.1)).Nodup) (nb:(mb.map (·.1)).Nodup) {q:Int×aa} (h:q∈pO w b mf mb):q∈mg w b:=by
 obtain ⟨o,ho,p,hp,u,hu,e⟩:=hO.1 h
 exact hO.2 ⟨o,ho,p,hf.1 _ _ ((fr nf).1 hp),u,hb.1 _ _ ((fr nb).1 hu),e⟩
theorem K7 {w:bO} {b:Nat} {mf mb:List (aC×Int)} (hf:tR mf (fwd w b)) (hb:uV mb (back w (b+1))) (nf:(mf.map (·.1)).Nodup) (nb:(mb.map (·.1)).Nodup) {q:Int×aa} (h:q∈mg w b): ∃ q'∈pO w b mf mb,q'.1=q.1∧q'.2.Lo≤q.2.Lo∧q.2.Hi≤q'.2.Hi:=by
 obtain ⟨o,ho,p,hp,u,hu,e⟩:=hO.1 h
 obtain ⟨A,B,rfl⟩:=jl.1 e
 obtain ⟨v,hv,C⟩:=hf.2 p.1 p.2 hp
 obtain ⟨y,hy,D⟩:=hb.2 u.1 u.2 hu
 simp only [jm] at A
 refine ⟨(o.1,jm w b (p.1,v) (u.1,y) o),hO.2 ⟨o,ho,(p.1,v),(fr nf).2 hv,(u.1,y),(fr nb).2 hy,jl.2 ⟨?_,B,U⟩⟩,U,?_,?_⟩
 ·simp only [jm]; omega
 ·simp only [jm]; omega
 ·simp only [jm]; omega
def l6:aa:=⟨1,0⟩
def mo (h x:aa):aa:=if h=l6 then x else ⟨min x.Lo h.Lo,max x.Hi h.Hi⟩
def u7 (l:List (Int×aa)):aa:=l.foldl (fun h q=>mo h q.2) l6
structure oy (l:List (Int×aa)) (h:aa):Prop where
 le:h.Lo≤h.Hi
 lo: ∃ x∈l,x.2.Lo=h.Lo
 hi: ∃ x∈l,x.2.Hi=h.Hi
 all: ∀ x∈l,h.Lo≤x.2.Lo∧x.2.Hi≤h.Hi
def j8 (l:List (Int×aa)) (h:aa):Prop:=(l=[]∧h=l6)∨oy l h
theorem oy.ne {l:List (Int×aa)} {h:aa} (hh:oy l h):h≠l6:=fun e=>by
 have:=hh.le; rw [e] at this; simp [l6] at this
theorem CJ:j8 [] l6:= .inl ⟨rfl,rfl⟩
theorem ub {l:List (Int×aa)} {h:aa} {q:Int×aa} (hh:j8 l h) (hq:q.2.Lo≤q.2.Hi):j8 (l++[q]) (mo h q.2):=by
 right
 rcases hh with ⟨rfl,rfl⟩|hh
 ·unfold mo
  rw [if_pos rfl]
  exact ⟨hq,⟨q,sm,rfl⟩,⟨q,sm,rfl⟩,fun x hx=>by simp at hx; subst hx; exact ⟨Int.le_refl _,Int.le_refl _⟩⟩
 ·unfold mo
  rw [if_neg hh.ne]
  have A:=hh.le
  obtain ⟨a,ha,ea⟩:=hh.lo
  obtain ⟨c,hc,ec⟩:=hh.hi
  refine ⟨by simp only; omega,?_,?_,fun x hx=>?_⟩
  ·rcases Int.lt_or_le q.2.Lo h.Lo with p|p
   ·exact ⟨q,sm,by simp only; omega⟩
   ·exact ⟨a,by simp [ha],by simp only; omega⟩
  ·rcases Int.lt_or_le h.Hi q.2.Hi with p|p
   ·exact ⟨q,sm,by simp only; omega⟩
   ·exact ⟨c,by simp [hc],by simp only; omega⟩
  ·rcases List.mem_append.1 hx with hx|hx
   ·have:=hh.all x hx; simp only; omega
   ·simp at hx; subst hx; simp only; omega
theorem uR {l:List (Int×aa)} (hl: ∀ q∈l,q.2.Lo≤q.2.Hi):j8 l (u7 l):=by
 have key: ∀ (r d:List (Int×aa)) (h:aa),(∀ q∈r,q.2.Lo≤q.2.Hi)→j8 d h→j8 (d++r) (r.foldl (fun h q=>mo h q.2) h):=by
  intro r
  induction r with
  |nil=>intro d h _ hd; simpa using hd
  |cons q r ih=>
   intro d h hr hd
   have:=ih (d++[q]) (mo h q.2) (fun x hx=>hr x (cS _ hx)) (ub hd (hr q sm))
   simpa using this
 have:=key l [] l6 hl CJ
 rw [List.nil_append] at this
 exact this
def Eo (a b:List (Int×aa)):Prop:= ∀ x∈b,∃ y∈a,y.2.Lo≤x.2.Lo∧x.2.Hi≤y.2.Hi
theorem No {a b:List (Int×aa)} {h k:aa} (ha:j8 a h) (hb:j8 b k) (hab:Eo a b) (hba:Eo b a):h=k:=by
 rcases ha with ⟨rfl,rfl⟩|ha
 ·rcases hb with ⟨rfl,rfl⟩|hb
  ·rfl
  ·obtain ⟨x,hx,_⟩:=hb.lo
   obtain ⟨y,hy,_⟩:=hab x hx
   cases hy
 ·rcases hb with ⟨rfl,rfl⟩|hb
  ·obtain ⟨x,hx,_⟩:=ha.lo
   obtain ⟨y,hy,_⟩:=hba x hx
   cases hy
  ·have le: ∀ {a b:List (Int×aa)} {h k:aa},oy a h→oy b k→Eo a b→h.Lo≤k.Lo∧k.Hi≤h.Hi:=fun {a b h k} ha hb hab=>by
    obtain ⟨x,hx,ex⟩:=hb.lo
    obtain ⟨z,hz,ez⟩:=hb.hi
    obtain ⟨y,hy,ey⟩:=hab x hx
    obtain ⟨y',hy',ey'⟩:=hab z hz
    have A:=ha.all y hy
    have B:=ha.all y' hy'
    omega
   have A:=le ha hb hab
   have B:=le hb ha hba
   rw [aa.ext_iff]; omega
theorem zz {w:bO} {b:Nat} {mf mb:List (aC×Int)} {l:List (Int×aa)} {h:aa} (hf:tR mf (fwd w b)) (hb:uV mb (back w (b+1))) (nf:(mf.map (·.1)).Nodup) (nb:(mb.map (·.1)).Nodup)
 (hl: ∀ q∈l,q∈pO w b mf mb) (hl2: ∀ q∈pO w b mf mb,q∈l) (hh:j8 l h):h=u7 (mg w b):=
 No hh (uR fun q hq=>mK hq) (fun x hx=>by
  obtain ⟨q,hq,_,A,B⟩:=K7 hf hb nf nb hx
  exact ⟨q,hl2 q hq,A,B⟩) (fun x hx=>⟨x,Ns hf hb nf nb (hl x hx),Int.le_refl _,Int.le_refl _⟩)
def jk (w:bO) (m:List (aC×Int)):Bool:=m.any fun p=>ku w p.1
theorem B8 {w:bO} {b:Nat} {m:List (aC×Int)} (h:tR m (fwd w b)) (nf:(m.map (·.1)).Nodup):jk w m=jk w (fwd w b):=by
 unfold jk
 rw [Bool.eq_iff_iff,List.any_eq_true,List.any_eq_true]
 constructor
 ·rintro ⟨p,hp,A⟩
  exact ⟨p,h.1 _ _ ((fr nf).1 hp),A⟩
 ·rintro ⟨p,hp,A⟩
  obtain ⟨v,hv,_⟩:=h.2 p.1 p.2 hp
  exact ⟨(p.1,v),(fr nf).2 hv,A⟩
def j7 (w:bO) (k:Nat):List Int:=((List.range k).filter fun i=>jk w (fwd w i)).map fun (i:Nat)=>(i:Int)
def jy (w:bO):List Int:=j7 w (w.n+1)
theorem EO {w:bO} {k:Nat} (h:jk w (fwd w k)=true):j7 w (k+1)=j7 w k++[(k:Int)]:=by simp [j7,List.range_succ,h]
theorem GZ {w:bO} {k:Nat} (h:jk w (fwd w k)=false):j7 w (k+1)=j7 w k:=by simp [j7,List.range_succ,h]
theorem x5 {w:bO} {k:Nat}:(j7 w k).length≤k:=by
 unfold j7
 rw [List.length_map]
 exact Nat.le_trans (List.length_filter_le _ _) sm
end
section
open Go.RowKit
theorem GL {P:Program} {t:Nat} {k:IntKind} (hu:P.underlying t=some (.int k)) (e:Bool) (n:Nat) (v:Value) (w:World):(Instr.checkKey e (n+1) t v).run P w= .ok () w:=by
 unfold Instr.checkKey
 simp only [Sem.run_bind,run_underlying hu,Result.andThen]
 cases v<;>rfl
theorem zW {P:Program} {kt:Nat} {l:List (Nat×Nat)} (hl:fL P kt=some l) (e:Bool) (n:Nat) (cs:Array Value) (w:World)
 (hf: ∀ p∈l,(∃ v,(part p.1 cs p.2).run P w= .ok v w)∧ ∃ k,P.underlying p.1=some (.int k)):(Instr.checkKey e (n+2) kt (.agg cs)).run P w= .ok () w:=by
 unfold fL at hl
 cases hu:P.underlying kt with
 |none=>simp [hu] at hl
 |some d=>
  cases d<;>simp [hu] at hl
  rename_i fs
  obtain ⟨hn,hl⟩:=hl
  rw [show n+2=(n+1)+1 from rfl,Instr.checkKey]
  simp only [Sem.run_bind,run_underlying hu,Result.andThen_ok]
  rw [← Array.forIn_toList]
  have A: ∀ f∈fs.toList,(∃ v,(part f.type cs f.offset).run P w= .ok v w)∧ ∃ k,P.underlying f.type=some (.int k):=fun f hf'=>hf (f.type,f.offset) (by rw [← hl]; exact List.mem_map.2 ⟨f,hf',rfl⟩)
  have B: ∀ f∈fs.toList,f.name≠"_":=fun f hf'=>by
   obtain ⟨i,hi,rfl⟩:=List.getElem_of_mem hf'
   exact hn.1.1 i (by simpa using hi)
  clear hl hn hf
  generalize fs.toList=L at A B
  induction L with
  |nil=>simp
  |cons f L ih=>
   obtain ⟨⟨v,hv⟩,k,hk⟩:=A f sm
   have C:=B f sm
   simp only [List.forIn_cons,Sem.run_bind,C,ne_eq,not_false_eq_true,if_true,Result.andThen_ok,hv,GL hk,Sem.run_pure]
   exact ih (fun y hy=>A y (by simp [hy])) (fun y hy=>B y (by simp [hy]))
theorem B5 {P:Program} {kt:Nat} {K:Type} [DecidableEq K] {kV:K→Value} (hw: ∀ (k:Value) (es:List MapEntry) (w:World),(Instr.findKey kt k es).run P w=(Instr.findAsking kt k es).run P w)
 (heq: ∀ x y w,(Op.equal kt (kV x) (kV y)).run P w= .ok (decide (x=y)) w) (inj: ∀ x y,kV x=kV y→x=y) (x:K) (w:World) (es:List MapEntry) (hk: ∀ e∈es,∃ k,e.key=kV k):
 ((Instr.findKey kt (kV x) es).run P w= .ok none w∧ ∀ e∈es,e.key≠kV x)∨ ∃ j e,(Instr.findKey kt (kV x) es).run P w= .ok (some (j,e.val)) w∧es[j]? =some e∧e.key=kV x:=by
 have key: ∀ (es:List MapEntry) (i:Nat),(∀ e∈es,∃ k,e.key=kV k)→((Instr.findAsking kt (kV x) es i).run P w= .ok none w∧ ∀ e∈es,e.key≠kV x)∨ ∃ j e,(Instr.findAsking kt (kV x) es i).run P w= .ok (some (i+j,e.val)) w∧es[j]? =some e∧e.key=kV x:=by
  intro es
  induction es with
  |nil=>intro i _; exact .inl ⟨by simp [Instr.findAsking],sm⟩
  |cons e es ih=>
   intro i B
   obtain ⟨k,A⟩:=B e sm
   by_cases h:x=k
   ·refine .inr ⟨0,e,?_,U,by rw [A,h]⟩
    subst h
    simp [Instr.findAsking,A,heq]
   ·rcases ih (i+1) (fun y hy=>B y (by simp [hy])) with ⟨C,D⟩|⟨j,e',C,D,E⟩
    ·refine .inl ⟨by simp [Instr.findAsking,A,heq,h,C],fun y hy=>?_⟩
     rcases List.mem_cons.1 hy with rfl|hy
     ·rw [A]; exact fun q=>h (inj _ _ q).symm
     ·exact D y hy
    ·exact .inr ⟨j+1,e',by simp [Instr.findAsking,A,heq,h,C]; omega,by simpa using D,E⟩
 rw [hw]
 rcases key es 0 hk with h|⟨j,e,C,D,E⟩
 ·exact .inl h
 ·exact .inr ⟨j,e,by simpa using C,D,E⟩
theorem Ex {P:Program} {kt:Nat} {l:List (Nat×Nat)} (hl:fL P kt=some l) (k:Value) (es:List MapEntry) (w:World):(Instr.findKey kt k es).run P w=(Instr.findAsking kt k es).run P w:=by
 refine run_findKey_eq w ?_ k es
 unfold fL at hl
 cases hu:P.underlying kt with
 |none=>simp [hu] at hl
 |some d=>cases d<;>simp [hu] at hl ⊢
theorem Nx {P:Program} {kt:Nat} {K:Type} [DecidableEq K] {kV:K→Value} {l:List (Nat×Nat)} (hl:fL P kt=some l) (heq: ∀ x y w,(Op.equal kt (kV x) (kV y)).run P w= .ok (decide (x=y)) w) (inj: ∀ x y,kV x=kV y→x=y)
 (hb: ∀ x,Instr.sameBits 10000 (kV x) (kV x)=true) (hp: ∀ x w,∃ cs,kV x= .agg cs∧ ∀ p∈l,(∃ v,(part p.1 cs p.2).run P w= .ok v w)∧ ∃ k,P.underlying p.1=some (.int k)):um P kt kV:=
 ⟨fun e x w=>by obtain ⟨cs,A,B⟩:=hp x w; rw [A]; exact zW hl e 9998 cs w B,fun x w es=>B5 (Ex hl) heq inj x w es,hb,inj⟩
end
section
open Go.RowKit
set_option linter.unusedSectionVars false
theorem dK {P:Program} {kt:Nat} (hk:P.underlying kt=some (.int .i64)):um P kt (Value.int .i64):=by
 refine ⟨fun e x w=>GR hk e,fun x w es A=>?_,fun x=>by simp [Instr.sameBits],fun x y h=>by injection h⟩
 have key: ∀ (es:List MapEntry) (i:Nat),(∀ e∈es,∃ k:Int,e.key= .int .i64 k)→(Instr.findNow (.int .i64) (.int .i64 x) es i=some none∧ ∀ e∈es,e.key≠ .int .i64 x)∨ ∃ j e,Instr.findNow (.int .i64) (.int .i64 x) es i=some (some (i+j,e.val))∧es[j]? =some e∧e.key= .int .i64 x:=by
  intro es
  induction es with
  |nil=>intro i _; exact .inl ⟨rfl,sm⟩
  |cons e es ih=>
   intro i A
   obtain ⟨k,B⟩:=A e sm
   by_cases h:x=k
   ·subst h
    exact .inr ⟨0,e,by simp [Instr.findNow,Instr.sameNow,B],U,B⟩
   ·have hb:(x==k)=false:=by simpa using h
    rcases ih (i+1) (fun y hy=>A y (by simp [hy])) with ⟨C,D⟩|⟨j,e',C,D,E⟩
    ·refine .inl ⟨by simp [Instr.findNow,Instr.sameNow,B,hb,C],fun y hy=>?_⟩
     rcases List.mem_cons.1 hy with rfl|hy
     ·rw [B]; intro q; injection q with _ q; exact h q.symm
     ·exact D y hy
    ·refine .inr ⟨j+1,e',?_,by simpa using D,E⟩
     simp only [Instr.findNow,Instr.sameNow,B,hb,if_true,C]
     simp; omega
 rcases key es 0 A with ⟨C,D⟩|⟨j,e,C,D,E⟩
 ·exact .inl ⟨MapKept.run_findKey hk C,D⟩
 ·exact .inr ⟨j,e,MapKept.run_findKey hk (by simpa using C),D,E⟩
theorem St.Oh {S:BS} {w0 w w':World} {C:List au} {A N:au} (h:St S w0 C w) (i:Nat) (hA:C[i]? =some A) (k:dL no w w') (hN:N.holds w') (hf: ∀ b,N.fg b→w.heap.size≤b∨A.fg b∧ ¬ A.wf b∧ ¬ N.wf b):St S w0 (N::C) w':=by
 have h':=h.same k
 have G:=aT hA
 have hi:=(List.getElem?_eq_some_iff.1 hA).1
 have B:C[i]=A:=(List.getElem?_eq_some_iff.1 hA).2
 refine ⟨h'.keeps,fun X hX=>?_,List.Pairwise.cons (fun X hX b hb hb'=>?_) h'.sep,fun X hX b hb=>?_,fun X hX b hb=>?_⟩
 ·rcases List.mem_cons.1 hX with rfl|hX
  ·exact hN
  ·exact h'.holds X hX
 ·rcases hf b hb with E|⟨E,AA,H⟩
  ·have:=X.lt w (h.holds X hX) b hb'; omega
  ·refine ⟨H,?_⟩
   obtain ⟨j,hj,D⟩:=List.mem_iff_getElem.1 hX
   by_cases e:j=i
   ·subst e; rw [← D,B]; exact AA
   ·rcases Nat.lt_or_gt_of_ne e with F|F
    ·have:=List.pairwise_iff_getElem.1 h.sep j i hj hi F b (by rw [D]; exact hb') (by rw [B]; exact E)
     rw [← D]; exact this.1
    ·have:=List.pairwise_iff_getElem.1 h.sep i j hi hj F b (by rw [B]; exact E) (by rw [D]; exact hb')
     rw [← D]; exact this.2
 ·rcases List.mem_cons.1 hX with rfl|hX
  ·rcases hf b (X.ki b hb) with E|⟨_,_,H⟩
   ·exact .inl (Nat.le_trans h.keeps.size E)
   ·exact absurd hb H
  ·exact h'.own X hX b hb
 ·rcases List.mem_cons.1 hX with rfl|hX
  ·rcases hf b hb with E|⟨E,_,_⟩
   ·exact .inl (Nat.le_trans h.keeps.size E)
   ·exact h.seen A G b E
  ·exact h'.seen X hX b hb
section
variable {K:Type} [DecidableEq K] {kV:K→Value}
/-- an iterator over a map that is read alone -/
def yf (kV:K→Value) (r b:Nat) (m left:List (K×Value)) (cur:Option (K×Value)):au where
 fg k:=k=r∨k=b
 wf k:=k=r
 holds w:=r≠b∧ ∃ (es:Array MapEntry) (c since:Nat) (seen:Array Nat) (st:Nat),w.heap[b]? =some (.map es c)∧iU kV es c m∧w.heap[r]? =some (.mapIter (some b) since seen st)∧(∀ e∈es.toList,e.born<since)∧since≤st∧since≤c∧
  (leftOf es seen).toList.map (fun (e:MapEntry)=>(e.key,e.val))=left.map (fun p=>(kV p.1,p.2))∧
  ∀ p,cur=some p→ ∃ (e:MapEntry) (seen0:Array Nat),e∈es.toList∧seen=seen0.push e.born∧st=c∧e.key=kV p.1∧e.val=p.2
 wr:=false
 ki _ h:= .inl h
 whole h:=by cases h
 lt w h k hk:=by
  obtain ⟨_,es,c,since,seen,st,h1,_,h2,_⟩:=h
  rcases hk with rfl|rfl
  ·exact d_ h2
  ·exact d_ h1
 ou w w' hk h:=by
  obtain ⟨hne,es,c,since,seen,st,h1,h2,h3,h4⟩:=h
  exact ⟨hne,es,c,since,seen,st,(hk b (.inr rfl)).trans h1,h2,(hk r (.inl rfl)).trans h3,h4⟩
theorem ep {r b:Nat} {m left:List (K×Value)} {cur:Option (K×Value)}:(∀ w,(yf kV r b m left cur).holds w→(yf kV r b m left none).holds w)∧(∀ k,(yf kV r b m left none).fg k→(yf kV r b m left cur).fg k)∧ ∀ k,(yf kV r b m left none).wf k→(yf kV r b m left cur).wf k:=
 ⟨fun w h=>by
  obtain ⟨A,es,c,since,seen,st,B,C,D,E,F,h5',G,_⟩:=h
  exact ⟨A,es,c,since,seen,st,B,C,D,E,F,h5',G,fun p hp=>by cases hp⟩,fun _ h=>h,fun _ h=>h⟩
section
variable {E:e_} {ops:Array Oper} {Q:cW} {rest:List Oper} {D:List Deferred} {L:List (Nat×Value)} {C:List au}
variable {dst:Option Tmp} {d:Nat} {ty:TypeId} {ps:String} {af:Array Edge} {g:Option (Nat×Bool)}
theorem iH {t kt et:TypeId} {xm:Operand} {b:Nat} {m:List (K×Value)} {A:au} (i:Nat) (hg:jq ops L g=true) (hm:ev L xm=some (.map (some b))) (ht:E.P.underlying t=some (.map kt et)) (hA:C[i]? =some A) (hAf:A.fg b∧ ¬ A.wf b) (hC:i_ C (hE kV b m).holds) (hd:Nat.blt d E.n=true)
 (k: ∀ r,RJ E ops Q rest D ((d,.pointer (some ⟨r,0,none⟩))::L) (yf kV r b m m none::C)):RJ E ops Q (⟨some d,.range t xm,ty,ps,af,g⟩::rest) D L C:=by
 intro a w B hs
 have hd':d<E.n:=by rw [← Nat.blt_eq]; exact hd
 unfold rI
 rw [if_pos (dN B hg)]
 obtain ⟨es,c,he,hi⟩:=hs.has hC
 have G:b<w.heap.size:=d_ he
 have F:(getObj b).run E.P w= .ok (.map es c) w:=MapKept.run_getObj_map he
 refine gO (v:= .pointer (some ⟨w.heap.size,0,none⟩)) (w':=w.alloc (.mapIter (some b) c #[] c)) sm ?_ ?_
 ·simp [execOp,Instr.range,B.ev hm,run_underlying ht,F,newObj,Sem.run]
 ·refine k _ _ _ (B.put hd' _) (hs.Oh i hA (dL.alloc no w _) ⟨om,es,c,c,#[],c,?_,hi,heap_alloc_new w _,hi.KS,Nat.le_refl _,Nat.le_refl _,?_,fun p hp=>by cases hp⟩ (fun q hq=>?_))
  ·rw [Below.heap_alloc w _ b G]; exact he
  ·have:leftOf es #[]=es:=by unfold leftOf; exact Array.filter_eq_self.2 sm
   rw [this]; exact hi.list
  ·rcases hq with rfl|rfl
   ·exact .inl (Nat.le_refl _)
   ·refine .inr ⟨hAf.1,hAf.2,fun (e:q=w.heap.size)=>by omega⟩
theorem GU (hinj: ∀ x y,kV x=kV y→x=y) {xi:Operand} {r b:Nat} {m left:List (K×Value)} {cur:Option (K×Value)} (i:Nat) (hg:jq ops L g=true) (hm:ev L xi=some (.pointer (some ⟨r,0,none⟩))) (hC:C[i]? =some (yf kV r b m left cur)) (hd:Nat.blt d E.n=true)
 (k0:left=[]→RJ E ops Q rest D ((d,.tuple [.bool false].toArray)::L) C)
 (k1: ∀ x v,(x,v)∈left→(left.map (·.1)).Nodup→RJ E ops Q rest D ((d,.tuple [.bool true,kV x,v].toArray)::L) (C.set i (yf kV r b m (cj left x) (some (x,v))))):
 RJ E ops Q (⟨some d,.next xi false,ty,ps,af,g⟩::rest) D L C:=by
 intro a w G hs
 have hd':d<E.n:=by rw [← Nat.blt_eq]; exact hd
 unfold rI
 rw [if_pos (dN G hg)]
 obtain ⟨R,es,c,since,seen,st,X,hi,Y,J,V,M,A,_⟩:=hs.holds _ (aT hC)
 rcases run_next_at (P:=E.P) w ty r b since st seen es c Y X J V with ⟨Z,hr⟩|⟨e,he,N,H,hr⟩
 ·refine gO (v:= .tuple #[.bool false]) (w':=w) sm ?_ ?_
  ·simp [execOp,G.ev hm,hr]
  ·refine k0 ?_ _ _ (G.put hd' _) hs
   have:(leftOf es seen).toList=[]:=by rw [← List.length_eq_zero_iff,Array.length_toList]; exact Z
   rw [this] at A
   exact List.map_eq_nil_iff.1 A.symm
 ·have O:(e.key,e.val)∈left.map (fun p=>(kV p.1,p.2)):=by rw [← A]; exact List.mem_map.2 ⟨e,he,rfl⟩
  obtain ⟨p,hp,S⟩:=List.mem_map.1 O
  obtain ⟨x,v⟩:=p
  simp only [Prod.mk.injEq] at S
  obtain ⟨hk,hv⟩:=S
  refine gO (v:= .tuple #[.bool true,e.key,e.val]) (w':=ChangeMaps.setBlock N r (.mapIter (some b) since (seen.push e.born) c)) sm ?_ ?_
  ·simp [execOp,G.ev hm,hr]
  ·rw [← hk,← hv]
   have AA:=w5 hinj hi A
   have F:e∈es.toList:=by unfold leftOf at he; rw [Array.toList_filter] at he; exact (List.mem_filter.1 he).1
   have f:c=c:=rfl
   have B:N.heap=w.heap:=by rcases H with rfl|rfl<;>rfl
   refine k1 x v hp AA _ _ (G.put hd' _) (hs.mv i hC ⟨⟨R,es,c,since,seen.push e.born,c,?_,hi,?_,J,M,M,?_,fun q hq=>?_⟩,?_,fun q hq=> .inl hq,fun q hq=> .inl hq⟩)
   ·show (N.heap.setIfInBounds r _)[b]? =_
    rw [Array.getElem?_setIfInBounds_ne R,B]; exact X
   ·show (N.heap.setIfInBounds r _)[r]? =_
    rw [Array.getElem?_setIfInBounds_self_of_lt (by rw [B]; exact d_ Y)]
   ·have T:leftOf es (seen.push e.born)=(leftOf es seen).filter (fun z=> !(z.born==e.born)):=by
     unfold leftOf
     rw [Array.filter_filter]
     congr 1
     funext z
     simp only [Array.contains_push,Bool.not_or]
     rw [Bool.and_comm]
    rw [T,Array.toList_filter]
    have key: ∀ (l:List MapEntry) (ll:List (K×Value)),(∀ z∈l,z∈es.toList)→l.map (fun (e:MapEntry)=>(e.key,e.val))=ll.map (fun p=>(kV p.1,p.2))→
     (l.filter (fun z=> !(z.born==e.born))).map (fun (e:MapEntry)=>(e.key,e.val))=(cj ll x).map (fun p=>(kV p.1,p.2)):=by
     intro l
     induction l with
     |nil=>intro ll _ h; cases ll with
      |nil=>rfl
      |cons p ll=>simp at h
     |cons z l ih=>
      intro ll hz h
      cases ll with
      |nil=>simp at h
      |cons p ll=>
       simp only [List.map_cons,List.cons.injEq,Prod.mk.injEq] at h
       have ih':=ih ll (fun y hy=>hz y (by simp [hy])) h.2
       have AB:(z.born=e.born)↔(p.1=x):=by
        constructor
        ·intro hb
         have:z=e:=Dj hi.born (hz z sm) F hb
         rw [this] at h
         have:=h.1.1.symm.trans hk.symm
         exact hinj _ _ this
        ·intro hx
         have W:z.key=e.key:=by rw [h.1.1,hx,hk]
         rw [Bm hinj hi (hz z sm) F W]
       unfold cj at ih' ⊢
       by_cases hx:p.1=x
       ·rw [List.filter_cons_of_neg (by simp [AB.2 hx]),List.filter_cons_of_neg (by simp [hx])]; exact ih'
       ·rw [List.filter_cons_of_pos (by simpa using fun hb=>hx (AB.1 hb)),List.filter_cons_of_pos (by simpa using hx)]
        simp only [List.map_cons,h.1.1,h.1.2,ih']
    exact key _ _ (fun z hz=>by unfold leftOf at hz; rw [Array.toList_filter] at hz; exact (List.mem_filter.1 hz).1) A
   ·cases hq
    exact ⟨e,seen,F,U,U,hk.symm,hv.symm⟩
   ·refine ⟨?_,?_,?_,?_,fun q hq hn=>?_⟩
    ·rcases H with rfl|rfl<;>rfl
    ·rcases H with rfl|rfl<;>rfl
    ·rcases H with rfl|rfl<;>rfl
    ·show w.heap.size≤(N.heap.setIfInBounds r _).size
     simp [B]
    ·show (N.heap.setIfInBounds r _)[q]? =_
     rw [Array.getElem?_setIfInBounds_ne (fun e=>hn e.symm),B]
theorem g8 {xi:Operand} {r b:Nat} {m left:List (K×Value)} {x:K} {v:Value} (i:Nat) (hg:jq ops L g=true) (hm:ev L xi=some (.pointer (some ⟨r,0,none⟩))) (hC:C[i]? =some (yf kV r b m left (some (x,v)))):
 SD E ops ⟨dst,.entry xi,ty,ps,af,g⟩ D L C (.tuple [kV x,v].toArray):=
 dE hg sm fun a w F hs=>by
  obtain ⟨N,es,c,since,seen,st,J,hi,M,H,O,AA,G,B⟩:=hs.holds _ (aT hC)
  obtain ⟨e,A,he,rfl,rfl,hk,hv⟩:=B _ rfl
  have:=run_entry_at (P:=E.P) w r b since A es st e M J he hi.born
  simp [execOp,F.ev hm,this,hk,hv]
theorem g9 (hinj: ∀ x y,kV x=kV y→x=y) {β:Type} {f:β→Value} {xi:Operand} {r b:Nat} {m:List (K×Value)} {ll:List (K×β)} {cur:Option (K×Value)} (i:Nat) (hg:jq ops L g=true) (hm:ev L xi=some (.pointer (some ⟨r,0,none⟩))) (hC:C[i]? =some (yf kV r b m (bG f ll) cur)) (hd:Nat.blt d E.n=true)
 (k0:ll=[]→RJ E ops Q rest D ((d,.tuple [.bool false].toArray)::L) C)
 (k1: ∀ x y,(x,y)∈ll→(ll.map (·.1)).Nodup→RJ E ops Q rest D ((d,.tuple [.bool true,kV x,f y].toArray)::L) (C.set i (yf kV r b m (bG f (cj ll x)) (some (x,f y))))):
 RJ E ops Q (⟨some d,.next xi false,ty,ps,af,g⟩::rest) D L C:=by
 refine GU hinj i hg hm hC hd (fun h=>k0 (List.map_eq_nil_iff.1 h)) (fun x v B hn=>?_)
 obtain ⟨p,hp,A⟩:=List.mem_map.1 B
 simp only [Prod.mk.injEq] at A
 obtain ⟨rfl,rfl⟩:=A
 have:=k1 p.1 p.2 hp (by simpa [bG,Function.comp_def] using hn)
 rwa [lL] at this
theorem zu {t kt et:TypeId} {xm xk xv:Operand} {b:Nat} {x:K} {v:Value} {m m':List (K×Value)} {C':List au} (i:Nat) (hg:jq ops L g=true) (hm:ev L xm=some (.map (some b))) (hk:ev L xk=some (kV x)) (hv:ev L xv=some v)
 (ht:E.P.underlying t=some (.map kt et)) (hkt:um E.P kt kV) (hC:C[i]? =some (hE kV b m)) (hm':ew m x v=m') (hC':C.set i (hE kV b m')=C') (k:RJ E ops Q rest D L C'):
 RJ E ops Q (⟨none,.insert t xm xk xv,ty,ps,af,g⟩::rest) D L C:=by
 subst hm' hC'
 intro a w A hs
 unfold rI
 rw [if_pos (dN A hg)]
 obtain ⟨es,c,he,hi⟩:=hs.holds _ (aT hC)
 have B:(getObj b).run E.P w= .ok (.map es c) w:=MapKept.run_getObj_map he
 rcases oL (P:=E.P) (w:=w) (x:=x) hkt hi with ⟨AA,F⟩|⟨j,N,AA,F,J⟩
 ·refine ry (w':={w with heap:=w.heap.setIfInBounds b (.map (es.push {key:=kV x,val:=v,born:=c}) (c+1))}) sm ?_ ?_
  ·simp [execOp,A.ev hm,A.ev hk,A.ev hv,Instr.mapUpdate,run_underlying ht,B,iK hkt,AA,MapKept.run_setObj_map _ he]
  ·refine k _ _ ⟨A.defers,A.size,A.at_⟩ (hs.Dk (b:=b) i hC U U (mU _) (fun _ h=>h) ⟨_,_,o4 he,?_⟩)
   have:ew m x v=m++[(x,v)]:=by unfold ew; rw [F]; rfl
   rw [this]; exact hi.push F v
 ·have M:=hi.size
  have G:j<es.size:=by have:=(List.getElem?_eq_some_iff.1 F).1; omega
  have H:(es[j]).key=kV x:=by
   have:=congrArg (fun l=>l[j]?) hi.list
   simp [G,F] at this
   exact this.1
  refine ry (w':={w with heap:=w.heap.setIfInBounds b (.map (es.modify j fun e=>{e with key:=kV x,val:=v}) c)}) sm ?_ ?_
  ·simp [execOp,A.ev hm,A.ev hk,A.ev hv,Instr.mapUpdate,run_underlying ht,B,iK hkt,AA,MapKept.run_setObj_map _ he,Instr.keyThatStays,G,H,hkt.bits x]
  ·exact k _ _ ⟨A.defers,A.size,A.at_⟩ (hs.Dk (b:=b) i hC U U (mU _) (fun _ h=>h) ⟨_,_,o4 he,hi.set F J v⟩)
end
end
end
section
open Go.RowKit
def TY {σ:Type} (w0:World) (P:Program) (l:Nat) (step:σ→List Value→σ→Prop) (J:σ→au→Prop) (Z:au→Prop):Prop:=
 ∀ k x k' A w,step k x k'→J k A→w0.heap.size≤w.heap.size→A.holds w→YieldAt (Fw none) 0 P l x.toArray w fun e w'=>
  (e= .returned (.bool true)∧ ∃ B,J k' B∧Mv A B w w')∨(e= .returned (.bool false)∧ ∃ B,Z B∧Mv A B w w')
def IU {σ:Type} (J:σ→au→Prop) (Z:au→Prop) (fin:σ→Prop) (A0:au) (w0:World) (e:Ending) (w':World):Prop:=
 ∃ v,e= .returned v∧((∃ s B,fin s∧J s B∧Mv A0 B w0 w')∨ ∃ B,Z B∧Mv A0 B w0 w')
structure EF {σ:Type} (P:Program) (f:FuncId) (fi ca:List Value) (Cp:List au) (s0:σ) (step:σ→List Value→σ→Prop) (fin:σ→Prop):Prop where
 go:sD P f=true
 run: ∀ (l:Nat) (J:σ→au→Prop) (Z:au→Prop) (A0:au) (w:World),TY w P l step J Z→J s0 A0→A0.holds w→(∀ A∈Cp,A.holds w)→(∀ A∈Cp,Dq A0 A.ro)→
  Calls P f (fi++Value.func (.yield l) #[] #[]::ca).toArray w (IU J Z fin A0 w)
theorem JF {σ:Type} {J:σ→au→Prop} {Z:au→Prop} {n:σ} {fin:σ→Prop} {A0 B:au} {w0 w:World} {C:List au} {v:Value} (i:Nat) (hC:C[i]? =some B) (hfin:fin n) (hJ:J n B) (hF:Fo A0 w0 B) (hs:St ⟨A0.wf,fun _=>True⟩ w0 C w):IU J Z fin A0 w0 (.returned v) w:=
 ⟨v,rfl,.inl ⟨n,B,hfin,hJ,hs.holds B (aT hC),hs.keeps,fun b hb=>(hs.own B (aT hC) b hb).symm,hF⟩⟩
theorem rQ {σ:Type} {J:σ→au→Prop} {Z:au→Prop} {fin:σ→Prop} {A0 B:au} {w0 w:World} {C:List au} {v:Value} (i:Nat) (hC:C[i]? =some B) (hJ:Z B) (hF:Fo A0 w0 B) (hs:St ⟨A0.wf,fun _=>True⟩ w0 C w):IU J Z fin A0 w0 (.returned v) w:=
 ⟨v,rfl,.inr ⟨B,hJ,hs.holds B (aT hC),hs.keeps,fun b hb=>(hs.own B (aT hC) b hb).symm,hF⟩⟩
theorem sV {σ:Type} {P:Program} {f:FuncId} {fn:Func} {c:Code} {fi ca:List Value} {Cp:List au} {s0:σ} {step:σ→List Value→σ→Prop} {fin:σ→Prop} (hgo:sD P f=true) (hf:P.funcs[f]? =some fn) (hb:fn.body=some c) (hn:Nat.ble (fi.length+ca.length+1) fn.ntmps=true)
 (h: ∀ (l:Nat) (J:σ→au→Prop) (Z:au→Prop) (A0:au) (w0:World) (Q:cW),TY w0 P l step J Z→J s0 A0→Fo A0 w0 A0→
  (∀ D L C,LJ ⟨P,none,fn.ntmps,⟨A0.wf,fun _=>True⟩,w0⟩ fn (IU J Z fin A0 w0) D L C→KJ ⟨P,none,fn.ntmps,⟨A0.wf,fun _=>True⟩,w0⟩ (Q .ret) D L C)→
  (∀ D L C,LJ ⟨P,none,fn.ntmps,⟨A0.wf,fun _=>True⟩,w0⟩ fn (IU J Z fin A0 w0) D L C→KJ ⟨P,none,fn.ntmps,⟨A0.wf,fun _=>True⟩,w0⟩ (Q .normal) D L C)→
  WJ ⟨P,none,fn.ntmps,⟨A0.wf,fun _=>True⟩,w0⟩ c Q [] (QE (fi++Value.func (.yield l) #[] #[]::ca)) (A0::Cp.map au.ro)):EF P f fi ca Cp s0 step fin:=by
 refine ⟨hgo,fun l J Z A0 w hY hJ hA F E=>?_⟩
 refine DQ hf hb (by simpa [Nat.add_assoc] using hn) (h l J Z A0 w · hY hJ (fun b hb=> .inl hb)) ?_
 have G:=sT F
 refine ⟨dL.refl _ _,fun A hA'=>?_,List.Pairwise.cons (fun B hB=>?_) G.sep,fun A hA' b hb=>?_,fun _ _ _ _=> .inr trivial⟩
 ·rcases List.mem_cons.1 hA' with rfl|hA'
  ·exact hA
  ·exact G.holds A hA'
 ·obtain ⟨B',hB',rfl⟩:=List.mem_map.1 hB
  exact E B' hB'
 ·rcases List.mem_cons.1 hA' with rfl|hA'
  ·exact .inr hb
  ·obtain ⟨B',hB',rfl⟩:=List.mem_map.1 hA'
   exact hb.elim
section
variable {E:e_} {ops:Array Oper} {Q:cW} {rest:List Oper} {D:List Deferred} {L:List (Nat×Value)} {C:List au}
variable {d:Nat} {ty:TypeId} {ps:String} {af:Array Edge} {g:Option (Nat×Bool)}
/-- a call of yield -/
theorem kq {σ:Type} {fop:Operand} {xs:Array Operand} {ts:Array TypeId} {l:Nat} {k k':σ} {vs:List Value} {step:σ→List Value→σ→Prop} {J:σ→au→Prop} {Z:au→Prop} {A0 A:au} {w1:World} (i:Nat) (hw1:w1.heap.size≤E.w0.heap.size) (hY:TY w1 E.P l step J Z) (hJ:J k A) (hF:Fo A0 w1 A) (hg:jq ops L g=true) (hf:ev L fop=some (.func (.yield l) #[] #[]))
 (hx:evs L xs.toList=some vs) (hk:step k vs k') (hC:C[i]? =some A) (hd:Nat.blt d E.n=true)
 (k1: ∀ B,J k' B→Fo A0 w1 B→RJ E ops Q rest D ((d,.bool true)::L) (C.set i B))
 (k2: ∀ B,Z B→Fo A0 w1 B→RJ E ops Q rest D ((d,.bool false)::L) (C.set i B)):
 RJ E ops Q (⟨some d,.call {callee:= .value fop,args:=xs,argTypes:=ts},ty,ps,af,g⟩::rest) D L C:=by
 intro a w F hs
 have hd':d<E.n:=by rw [← Nat.blt_eq]; exact hd
 unfold rI
 rw [if_pos (dN F hg)]
 have K:xs.map a.eval=vs.toArray:=by
  have:=F.evs hx
  apply Array.ext'
  simp [this]
 obtain ⟨fn,tmps,assign,body,hy,hr⟩:=hY k vs k' A w hk hJ (Nat.le_trans hw1 hs.keeps.size) (hs.holds A (aT hC))
 have H:(execOp a.eval ⟨some d,.call {callee:= .value fop,args:=xs,argTypes:=ts},ty,ps,af,g⟩).run E.P w= .ok (.round l fn tmps assign body) w:=by
  simp [execOp,resolve,F.ev hf,Deferred.ofValue,invoke,K,hy]
 refine ⟨fun _ _=>trivial,?_⟩
 rw [Oper.semAt_eq _ _ _ sm,H]
 refine ⟨fun h=>by simp at h,?_⟩
 have G: ∀ (B:au) (w':World),Mv A B w w'→Fo A0 w1 B:=fun B w' m b hb=>by
  rcases m.fg b hb with AA|AA
  ·exact hF b AA
  ·exact .inr (Nat.le_trans hw1 (Nat.le_trans hs.keeps.size AA))
 have hr':RoundIn (Fw E.r) 0 E.P l fn tmps assign body w _:=hr
 refine hr'.mono fun e w' he=>?_
 rcases he with ⟨rfl,B,hB,m⟩|⟨rfl,B,hB,m⟩
 ·exact k1 B hB (G B w' m) _ _ (F.put hd' _) (hs.mv i hC m)
 ·exact k2 B hB (G B w' m) _ _ (F.put hd' _) (hs.mv i hC m)
end
theorem nq {σ:Type} {E:e_} {Q:cW} {D:List Deferred} {L L0:List (Nat×Value)} {C F:List au} {g:Operand} {ps:Array Tmp} {assign body:Code} {f:FuncId} {fi ca:List Value} {Cp:List au} {s0:σ} {step:σ→List Value→σ→Prop} {fin_:σ→Prop} {ι κ:Type}
 (inv:σ→ι→Prop) (Ci:σ→ι→List au) (invx:Code→κ→Prop) (Cx:Code→κ→List au) (isJ isF:List Nat) (y0:ι)
 (hr:E.r=none) (hg:ev L g=some (.func (.func f) fi.toArray ca.toArray)) (hs:EF E.P f fi ca Cp s0 step fin_)
 (hnd:decide (isJ++isF).Nodup=true) (hJ:kf C isJ=Ci s0 y0) (hF:kf C isF=F) (h0:inv s0 y0) (hCp: ∀ A∈Cp,∃ B∈F,Mp B A)
 (hps: ∀ k x k',step k x k'→x.length=ps.size) (hpn:ps.toList.all (fun t=>Nat.blt t E.n)=true) (hL:dw L L0)
 (round: ∀ (k:σ) (x:List Value) (k':σ) (y:ι) (l:Nat) (ra rb:Loop) (S:BS) (w0:World) (K:Act→World→Prop) (Qr:cW),E.w0.heap.size≤w0.heap.size→step k x k'→inv k y→
  (∀ L' C',WJ ⟨E.P,some l,E.n,S,w0⟩ body Qr [] L' (lh l (.loop rb)::C')→KJ ⟨E.P,some l,E.n,S,w0⟩ K [] L' (lh l (.loop ra)::C'))→
  (∀ y' L' C',inv k' y'→(∀ w,St S w0 C' w→St S w0 (lh l (.loop rb)::Ci k' y') w)→KJ ⟨E.P,some l,E.n,S,w0⟩ (Qr .normal) [] L' C')→
  (∀ id z L' C',invx (.exit id) z→(∀ w,St S w0 C' w→St S w0 (lh l (.loop rb)::Cx (.exit id) z) w)→KJ ⟨E.P,some l,E.n,S,w0⟩ (Qr (.exit id)) [] L' C')→
  (∀ z L' C',invx .ret z→(∀ w,St S w0 C' w→St S w0 (lh l (.loop rb)::Cx .ret z) w)→KJ ⟨E.P,some l,E.n,S,w0⟩ (Qr .ret) [] L' C')→
  WJ ⟨E.P,some l,E.n,S,w0⟩ assign (Exit.then K (fun _ _ _=>False)) [] (Cs ps.toList x L0) (lh l (.loop ra)::Ci k y))
 (fin: ∀ r s y,fin_ s→inv s y→KJ E (Q .normal) (lz r::D) L0 (lh r (.deferred (some []))::(F++Ci s y)))
 (finx: ∀ r id z,invx (.exit id) z→KJ E (Q (.exit id)) (lz r::D) L0 (lh r (.deferred (some []))::(F++Cx (.exit id) z)))
 (finr: ∀ r z,invx .ret z→KJ E (Q .ret) (lz r::D) L0 (lh r (.deferred (some []))::(F++Cx .ret z))):WJ E (.rangeFunc g ps assign body) Q D L C:=by
 intro a w hf q
 refine wpIn_rangeFunc fun fn _=>?_
 show ∃ l lz w₁ d w₁' f args w₂,(Instr.enterLoop fn a.tmps ps assign body E.r).run E.P w= .ok (l,lz) w₁∧_
 rw [hr]
 obtain ⟨rec,G⟩: ∃ rec:LoopState→Option Code→Loop,rec=fun st pe=>{state:=st,pending:=pe,fn,tmps:=a.tmps,params:=ps,assign,body,defers:=w.heap.size}:=⟨_,rfl⟩
 obtain ⟨W1,R⟩: ∃ W1,(w.alloc (.deferred (some []))).alloc (.loop (rec .ready none))=W1:=⟨_,rfl⟩
 have AE:a.eval g= .func (.func f) fi.toArray ca.toArray:=hf.ev hg
 have p:(Instr.enterLoop fn a.tmps ps assign body none).run E.P w= .ok (w.heap.size+1,[lz w.heap.size]) W1:=by
  rw [← R,G]; exact run_enterLoop_outer _ _ _ _ _
 -- the state with the record and the block
 have u:St E.S E.w0 ((lh (w.heap.size+1) (.loop (rec .ready none))::Ci s0 y0)++(lh w.heap.size (.deferred (some []))::F)) W1:=by
  have X:St E.S E.w0 (Ci s0 y0++F) w:=St.kf (isJ++isF) hnd (by have X:=hJ; have j:=hF; unfold Go.Proofs.YtadjgjnicdcjbaaGreatDoor.kf at X j ⊢; rw [List.filterMap_append,X,j]) q
  have hn:NM w W1 [lh (w.heap.size+1) (.loop (rec .ready none)),lh w.heap.size (.deferred (some []))]:=by
   refine ⟨fun A hA=>?_,fun A hA b hb=>?_,?_⟩
   ·rcases List.mem_cons.1 hA with rfl|hA
    ·show W1.heap[w.heap.size+1]? =_
     rw [← R]; have:=World.alloc_heap_new (w.alloc (.deferred (some []))) (.loop (rec .ready none)); rwa [World.size_alloc] at this
    ·simp only [bR] at hA; subst hA
     show W1.heap[w.heap.size]? =_
     rw [← R]; exact (Below.heap_alloc _ _ _ sm).trans (World.alloc_heap_new w _)
   ·rcases List.mem_cons.1 hA with rfl|hA
    ·have:b=w.heap.size+1:=hb
     omega
    ·simp only [bR] at hA; subst hA
     have:b=w.heap.size:=hb
     omega
   ·refine List.Pairwise.cons (fun B hB b X j=>?_) (List.pairwise_singleton _ _)
    simp only [bR] at hB; subst hB
    have V:b=w.heap.size+1:=X
    have O:b=w.heap.size:=j
    omega
  have hk:dL no w W1:=by rw [← R]; exact (dL.alloc no w _).trans (dL.alloc no _ _)
  have j:=X.grow hk hn
  refine j.perm ?_
  simp only [List.cons_append,List.nil_append]
  exact List.Perm.cons _ (List.perm_middle.symm)
 have Y:=u.tied
 obtain ⟨H,AJ⟩:=List.pairwise_cons.1 Y.sep
 have AC:=Y.holds _ (cf ..)
 let J:σ→au→Prop:=fun k A=> ∃ y,inv k y∧A=bu (lh (w.heap.size+1) (.loop (rec .ready none))::Ci k y)
 let Z:au→Prop:=fun A=> ∃ c z,(c= .ret∨ ∃ id,c= .exit id)∧invx c z∧A=bu (lh (w.heap.size+1) (.loop (rec .done (some c)))::Cx c z)
 refine ⟨w.heap.size+1,[lz w.heap.size],W1,{target:= .fn (.func f) ca.toArray,args:=fi.toArray++ #[.func (.yield (w.heap.size+1)) #[] #[]]},W1,f,
  (fi++Value.func (.yield (w.heap.size+1)) #[] #[]::ca).toArray,W1,p,?_,fun _ _=>trivial,?_,fun h=>by simp at h,?_⟩
 ·simp only [resolve,AE]
  simp [Deferred.ofValue,Act.eval]
 ·have:fi.toArray++ #[Value.func (.yield (w.heap.size+1)) #[] #[]]++ca.toArray=(fi++Value.func (.yield (w.heap.size+1)) #[] #[]::ca).toArray:=by simp
  simp [invoke,o_ hs.go]
 ·refine (qH E.r (hs.run (w.heap.size+1) J Z _ W1 ?_ ⟨y0,h0,U⟩ AC ?_ ?_)).mono ?_
  ·-- a round
   rintro k x k' A W hx ⟨y,hy,rfl⟩ AD hA
   have hl:W.heap[w.heap.size+1]? =some (.loop (rec .ready none)):=hA.1 _ (cf ..)
   have AA:=run_yield (P:=E.P) (args:=x.toArray) hl (by rw [G]; simpa using hps k x k' hx)
   rw [G] at AA
   refine ⟨fn,_,assign,body,AA,roundIn_of_wpIn trivial ?_⟩
   let A:au:=bu (lh (w.heap.size+1) (.loop (rec .ready none))::Ci k y)
   have AF:Fr E.n [] (Cs ps.toList x L0) {tmps:=(ps.zip x.toArray).foldl (fun tmps (t,a)=>tmps.setIfInBounds t a) a.tmps,defers:=[]}:=by
    have X:=Kg ps.toList x L0 a.tmps (fun t ht=>by have:=List.all_eq_true.1 hpn t ht; rwa [Nat.blt_eq] at this) ⟨rfl,hf.size,fun t v hv=>hf.at_ t v (hL t v hv)⟩
    rw [← Array.foldl_toList]
    simpa using X
   have o: ∀ (c:Option Code) (b:Bool),({rec .busy none with state:=if b then .ready else .done,pending:=c}:Loop)=rec (if b then .ready else .done) c:=fun c b=>by rw [G]
   have T: ∀ (c:Option Code) (N:World) (C':List au) (S:BS),St S W (lh (w.heap.size+1) (.loop (rec .busy none))::C') N→
    ∃ M,(Instr.endRound (w.heap.size+1) c).run E.P N= .ok (.bool c.isNone) M∧St S W (lh (w.heap.size+1) (.loop (rec (if c.isNone then .ready else .done) c))::C') M:=fun c N C' S H=>by
    have AI:N.heap[w.heap.size+1]? =some (.loop (rec .busy none)):=H.holds _ (cf ..)
    refine ⟨_,run_endRound c AI,?_⟩
    have:=H.Dk (b:=w.heap.size+1) (A':=lh (w.heap.size+1) (.loop (rec (if c.isNone then .ready else .done) c))) 0 rfl rfl rfl (jh _) (fun _ h=>h) (World.putObj_heap_same (d_ AI))
    rw [o]
    exact this
   refine round k x k' y (w.heap.size+1) (rec .ready none) (rec .busy none) ⟨A.wf,A.fg⟩ W _ (roundPost E.P (w.heap.size+1) (fun e w'=>(e= .returned (.bool true)∧ ∃ B,J k' B∧Mv A B W w')∨(e= .returned (.bool false)∧ ∃ B,Z B∧Mv A B W w'))) (Nat.le_trans (Nat.le_trans q.keeps.size (by rw [← R]; simp; omega)) AD) hx hy ?_ ?_ ?_ ?_ _ _ AF (St.Gp hA)
   ·intro L' C' hW a1 N i H
    have AI:N.heap[w.heap.size+1]? =some (.loop (rec .ready none)):=H.holds _ (cf ..)
    refine ⟨_,run_beginRound AI (by rw [G]),hW _ _ i ?_⟩
    have:=H.Dk (b:=w.heap.size+1) (A':=lh (w.heap.size+1) (.loop (rec .busy none))) 0 rfl rfl rfl (jh _) (fun _ h=>h) (World.putObj_heap_same (d_ AI))
    have e:({rec .ready none with state:= .busy}:Loop)=rec .busy none:=by rw [G]
    rw [e]; exact this
   ·intro y' L' C' hy' hC' a1 N i H
    obtain ⟨M,V,O⟩:=T none N _ _ (hC' _ H)
    exact ⟨_,M,V,.inl ⟨U,_,⟨y',hy',U⟩,Mv.of O⟩⟩
   ·intro id z L' C' hz hC' a1 N i H
    obtain ⟨M,V,O⟩:=T (some (.exit id)) N _ _ (hC' _ H)
    exact ⟨_,M,V,.inr ⟨U,_,⟨_,z,.inr ⟨id,U⟩,hz,U⟩,Mv.of O⟩⟩
   ·intro z L' C' hz hC' a1 N i H
    obtain ⟨M,V,O⟩:=T (some .ret) N _ _ (hC' _ H)
    exact ⟨_,M,V,.inr ⟨U,_,⟨_,z,.inl U,hz,U⟩,Mv.of O⟩⟩
  ·intro A hA
   obtain ⟨B,hB,hc⟩:=hCp A hA
   exact hc.holds _ (Y.holds B (cS _ (cS _ hB)))
  ·intro A hA b hb hb'
   obtain ⟨B,hB,hc⟩:=hCp A hA
   exact ⟨(H B (cS _ hB) b hb (hc.fg b hb')).1,fun h=>h⟩
  ·rintro e w' ⟨v,rfl,hh⟩
   have AB:Fr E.n (lz w.heap.size::D) L0 {a with defers:=[lz w.heap.size]++a.defers}:=⟨by simp [hf.defers],hf.size,fun t v hv=>hf.at_ t v (hL t v hv)⟩
   have hleave: ∀ (st:LoopState) (c:Option Code) (C':List au),st≠ .busy→Mv (bu (lh (w.heap.size+1) (.loop (rec .ready none))::Ci s0 y0)) (bu (lh (w.heap.size+1) (.loop (rec st c))::C')) W1 w'→
    ∃ M,(Instr.endLoop (w.heap.size+1)).run E.P w'= .ok c M∧St E.S E.w0 (lh w.heap.size (.deferred (some []))::(F++C')) M:=fun st c C' AH m=>by
    have X:=(Y.mv 0 rfl m).hZ
    have h1':St E.S E.w0 ((lh (w.heap.size+1) (.loop (rec st c))::C')++(lh w.heap.size (.deferred (some []))::F)) w':=X
    have AI:w'.heap[w.heap.size+1]? =some (.loop (rec st c)):=h1'.holds (lh (w.heap.size+1) (.loop (rec st c))) sm
    refine ⟨_,by have:=run_endLoop (P:=E.P) AI (by rw [G]; exact AH); rw [this,G],?_⟩
    have j:=h1'.Dk (b:=w.heap.size+1) (A':=lh (w.heap.size+1) (.loop {rec st c with state:= .exhausted})) 0 rfl rfl rfl (jh _) (fun _ h=>h) (World.putObj_heap_same (d_ AI))
    have h3:St E.S E.w0 (C'++(lh w.heap.size (.deferred (some []))::F)) _:=j.take (List.sublist_cons_self _ _)
    rw [G] at h3
    refine h3.perm ?_
    exact (List.perm_append_comm).trans sm
   rcases hh with ⟨s,B,AG,⟨y,hy,rfl⟩,m⟩|⟨B,⟨c,z,hc,hz,rfl⟩,m⟩
   ·obtain ⟨M,V,O⟩:=hleave .ready none _ sm m
    exact ⟨none,M,V,fin w.heap.size s y AG hy _ _ AB O⟩
   ·obtain ⟨M,V,O⟩:=hleave .done (some c) _ sm m
    refine ⟨some c,M,V,?_⟩
    rcases hc with rfl|⟨id,rfl⟩
    ·exact wpIn_ret (finr w.heap.size z hz _ _ AB O)
    ·exact wpIn_exit (finx w.heap.size id z hz _ _ AB O)
end
section
open Go.RowKit
/-- where a row lies, and its capacity -/
abbrev RA:=OA×Nat
/-- what is asked of memory by all elements -/
def aU {M A:Type} (f:M→A→List au):List M→List A→List au
 |m::ms,a::asl=>f m a++aU f ms asl
 |_,_=>[]
theorem bW {M A:Type} {f:M→A→List au}: ∀ {ms:List M} {asl:List A} {k:Nat} {m:M} {a:A} {X:au},ms[k]? =some m→asl[k]? =some a→X∈f m a→X∈aU f ms asl
 |[],_,k,m,a,X,h,_,_=>by simp at h
 |_::_,[],k,m,a,X,_,h,_=>by simp at h
 |x::ms,y::asl,0,m,a,X,h,h2,hX=>by
  simp at h h2; subst h h2
  exact List.mem_append_left _ hX
 |x::ms,y::asl,k+1,m,a,X,h,h2,hX=>List.mem_append_right _ (bW (ms:=ms) (asl:=asl) (k:=k) (by simpa using h) (by simpa using h2) hX)
theorem jM {M A:Type} {f:M→A→List au}: ∀ {ms:List M} {asl:List A} {X:au},X∈aU f ms asl→ ∃ (k:Nat) (m:M) (a:A),ms[k]? =some m∧asl[k]? =some a∧X∈f m a
 |[],_,X,h=>by cases h
 |_::_,[],X,h=>by cases h
 |x::ms,y::asl,X,h=>by
  rcases List.mem_append.1 h with h|h
  ·exact ⟨0,x,y,U,U,h⟩
  ·obtain ⟨k,m,a,B,C,D⟩:=jM h
   exact ⟨k+1,m,a,by simpa using B,by simpa using C,D⟩
theorem jS {M A:Type} {f:M→A→List au}: ∀ {ms:List M} {asl:List A} {ns:List M} {bs:List A},ms.length=asl.length→aU f (ms++ns) (asl++bs)=aU f ms asl++aU f ns bs
 |[],[],ns,bs,_=>rfl
 |[],_::_,ns,bs,h=>by simp at h
 |_::_,[],ns,bs,h=>by simp at h
 |x::ms,y::asl,ns,bs,h=>by
  simp only [List.cons_append,aU,List.append_assoc]
  rw [jS (by simpa using h)]
theorem dM {M A β:Type} {f:M→A→β} {ms:List M} {asl:List A} {k:Nat} {m:M} {a:A} (h:ms[k]? =some m) (h2:asl[k]? =some a):(List.zipWith f ms asl)[k]? =some (f m a):=by
 rw [List.getElem?_zipWith,h,h2]
theorem dx {C L:List au} {A:au} (i:Nat) (hC:C[i]? =some (e7 L).ro) (hm:A∈L):i_ C A.holds:=fun w hw=>hw _ (aT hC) A hm
theorem dy {M A:Type} {f g:M→A→List au} {ms:List M} {asl:List A} {C:List au} (i:Nat) (hC:C[i]? =some (bu (aU g ms asl))) (h: ∀ m a w,(∀ X∈g m a,X.holds w)→ ∀ X∈f m a,X.holds w):i_ C (e7 (aU f ms asl)).holds:=fun w hw X hX=>by
 have hb:=hw _ (aT hC)
 obtain ⟨k,m,a,B,D,E⟩:=jM hX
 exact h m a w (fun Y hY=>hb.1 Y (bW B D hY)) X E
/-- a row that is part of another one -/
theorem Nl {C:List au} {A:OA} {n k sz:Nat} {es:List (List Value)} (hR:i_ C (rd A n sz es).holds) (hk:k≤n):i_ C (rd A k sz (es.take k)).holds:=fun w hw=>by
 obtain ⟨D,E,F⟩:=hR w hw
 refine ⟨by rw [List.length_take,D]; omega,fun x hx=>E x (List.mem_of_mem_take hx),fun hp=>?_⟩
 have G:0<k:=Nat.pos_of_mul_pos_right hp
 have hs:0<sz:=Nat.pos_of_mul_pos_left hp
 obtain ⟨ad,hA,B⟩:=F (Nat.mul_pos om hs)
 refine ⟨ad,hA,fun i e j v he hv=>B i e j v ?_ hv⟩
 rw [List.getElem?_take] at he
 split at he
 ·exact he
 ·cases he
section
variable {E:e_} {ops:Array Oper} {Q:cW} {rest:List Oper} {D:List Deferred} {L:List (Nat×Value)} {C:List au}
variable {d:Nat} {ty:TypeId} {ps:String} {af:Array Edge} {g:Option (Nat×Bool)}
/-- an element of a slice that is the head of a row -/
theorem Rs (k:Nat) {x ix:Operand} {A:OA} {n n' c sz e t:Nat} {es:List (List Value)} {j:Int} (h:bF E.n ops L d g x ix=some (.slice A n' c,.int .i64 j)) (hR:i_ C (rd A n sz es).holds)
 (ht:tE E.P t=some (e,sz)) (hz:0<sz) (hj:j=(k:Int)) (hk:k<n') (hn:n'≤n):SE E ops ⟨some d,.indexAddr t x ix,ty,ps,af,g⟩ D L C (.pointer (lF A (k*sz))) d:=IA k h (Nl hR hn) ht hz hj hk
end
theorem St.tie {S:BS} {w0 w:World} {C:List au} {A:au} {L L':List au} (h:St S w0 (A::bu L::C) w) (e:L++[A]=L'):St S w0 (bu L'::C) w:=by
 subst e
 have B:St S w0 (bu L::A::C) w:=h.perm (List.Perm.swap _ _ _)
 have D:St S w0 (L++(A::C)) w:=B.hZ
 have E:St S w0 ((L++[A])++C) w:=by simpa using D
 exact E.tied
theorem St.P5 {S:BS} {w0 w:World} {C:List au} (h:St S w0 C w):St S w0 (bu []::C) w:=St.tied (C1:=[]) h
section
variable {E:e_} {Q:cW} {D:List Deferred} {L:List (Nat×Value)} {C:List au}
theorem oh {c:Code} (h:WJ E c Q D L (bu []::C)):WJ E c Q D L C:=fun a w hf hs=>h a w hf hs.P5
theorem xb {ops:Array Oper} {rest:List Oper} (h:RJ E ops Q rest D L (bu []::C)):RJ E ops Q rest D L C:=fun a w hf hs=>h a w hf hs.P5
theorem Cz {K:Act→World→Prop} {C1:List au} {A:au} {X X':List au} (i j:Nat) (hn:decide (j::i::(List.range C.length).filter fun k=>k != i&&k != j).Nodup=true) (hC:kf C (j::i::(List.range C.length).filter fun k=>k != i&&k != j)=A::bu X::C1) (e:X++[A]=X')
 (h:KJ E K D L (bu X'::C1)):KJ E K D L C:=fun a w hf hs=>h a w hf ((St.kf _ hn hC hs).tie e)
theorem OZ {ops:Array Oper} {rest:List Oper} {C1:List au} {A:au} {X X':List au} (i j:Nat) (hn:decide (j::i::(List.range C.length).filter fun k=>k != i&&k != j).Nodup=true) (hC:kf C (j::i::(List.range C.length).filter fun k=>k != i&&k != j)=A::bu X::C1) (e:X++[A]=X')
 (h:RJ E ops Q rest D L (bu X'::C1)):RJ E ops Q rest D L C:=fun a w hf hs=>h a w hf ((St.kf _ hn hC hs).tie e)
end
end
section
open Go.RowKit
abbrev db:aa→Value:=fun s=>vA (aa.cells s)
abbrev dZ:aC→Value:=fun s=>vA (aC.cells s)
abbrev TM:=List (Int×aa)
abbrev FM:=List (aC×Int)
def gG {α:Type} (m:α) (b:Nat):List Value:=[Value.map (some b)]
def rz (m:TM) (b:Nat):List au:=[hE iV b (bG db m)]
def nM (m:FM) (b:Nat):List au:=[hE dZ b (bG iV m)]
theorem xN {M A:Type} {f:M→A→List au}: ∀ (m:M) (a:A) (w:World),(∀ X∈f m a,X.holds w)→ ∀ X∈f m a,X.holds w:=fun _ _ _ h=>h
/-- untied -/
theorem MJ {E:e_} {ops:Array Oper} {Q:cW} {rest:List Oper} {D:List Deferred} {L:List (Nat×Value)} {C X C1:List au} (i:Nat) (hn:decide (i::(List.range C.length).filter fun k=>k != i).Nodup=true) (hC:kf C (i::(List.range C.length).filter fun k=>k != i)=bu X::C1)
 (h:RJ E ops Q rest D L (X++C1)):RJ E ops Q rest D L C:=fun a w hf hs=>h a w hf (St.hZ (St.kf _ hn hC hs))
end
section
def cE (ln:cb) (rd:eH) (e:List Int) (tms:List TM):bO:=⟨rd.Start,rd.f_,e,tms,ln.cQ,ln.eM,(rd.ah.n:Int)⟩
def O8 (o:Int×aa):List Value:=[.int .i64 o.1,.agg (aa.cells o.2).toArray]
structure H7 (w:bO):Prop where
 n:w.n≤6
 times:w.vq.length=w.n
 now:0≤w.Start∧w.Start≤w.f_∧w.f_≤86400000
 least: ∀ x∈w.pX,1≤x∧x≤500000000
 Fi: ∀ t∈w.vq,∀ p∈t,(0≤p.1∧p.1≤10)∧0≤p.2.Lo∧p.2.Lo≤p.2.Hi∧p.2.Hi≤86400000
theorem H7.opt {w:bO} (h:H7 w) {b:Nat} {o:Int×aa} (ho:o∈il w b):(-1≤o.1∧o.1≤10)∧0≤o.2.Lo∧o.2.Lo≤o.2.Hi∧o.2.Hi≤86400000:=by
 unfold il s8 at ho
 rcases List.mem_cons.1 ho with rfl|ho
 ·have:=h.now; simp only; omega
 ·cases ht:w.vq[b]? with
  |none=>simp [ht] at ho
  |some t=>
   rw [ht] at ho
   have:=h.Fi t (aT ht) o ho
   omega
theorem H7.bQ {w:bO} (h:H7 w) (b:Nat):0≤bQ w b∧bQ w b≤500000000:=by
 unfold Go.Proofs.YtadjgjnicdcjbaaGreatDoor.bQ
 cases ht:w.pX[b]? with
 |none=>simp
 |some x=>have:=h.least x (aT ht); simp only [Option.getD_some]; omega
theorem uA (s:Int):(0≤(fh s).right∧0≤(fh s).eQ)∧(fh s).right+(fh s).eQ=1:=by unfold fh; split<;>simp
theorem Ii {w:bO} (h:H7 w): ∀ (b:Nat) p,p∈fwd w b→(0≤p.2∧p.2≤86400000)∧(0≤p.1.right∧0≤p.1.eQ)∧p.1.right+p.1.eQ=(b:Int):=by
 intro b
 induction b with
 |zero=>
  intro p hp
  simp only [fwd,bR] at hp
  subst hp
  have:=h.now; simp only; omega
 |succ b ih=>
  intro q hq
  obtain ⟨p,hp,o,ho,e⟩:=fK.1 hq
  have A:=ih p hp
  have B:=h.opt ho
  have C:=h.bQ b
  have D:=h.now
  have E:=uA o.1
  unfold kH at e
  split at e
  ·simp only [Option.some.injEq] at e
   subst e
   simp only [dj]
   omega
  ·cases e
theorem RF {w:bO} (h:H7 w): ∀ (k:Nat) p,p∈bwd w k→(-(500000000*(k:Int))≤p.2∧p.2≤86400000)∧(0≤p.1.right∧0≤p.1.eQ)∧p.1.right+p.1.eQ≤(k:Int):=by
 intro k
 induction k with
 |zero=>
  intro p hp
  simp only [bwd,bR] at hp
  subst hp
  have:=h.now; simp only; omega
 |succ k ih=>
  intro q hq
  simp only [bwd,ed,List.mem_flatMap,List.mem_filterMap] at hq
  rcases hq with rfl|⟨p,hp,o,ho,e⟩
  ·have:=h.now; simp only; omega
  ·have A:=ih p hp
   have B:=h.opt ho
   have C:=h.bQ (w.n-(k+1))
   have D:=h.now
   have E:=uA o.1
   unfold nP at e
   split at e
   ·simp only [Option.some.injEq] at e
    subst e
    simp only [dj]
    omega
   ·cases e
theorem K9 {w:bO} (h:H7 w) {b:Nat} {p:aC×Int} (hp:p∈back w b):(-3000000000≤p.2∧p.2≤86400000)∧(0≤p.1.right∧0≤p.1.eQ)∧p.1.right+p.1.eQ≤6:=by
 have:=RF h _ _ hp
 have:=h.n
 omega
theorem w4 {w:bO} {b:Nat} {t:TM} (ht:w.vq[b]? =some t) {o:Int×aa}:o∈il w b↔o=(-1,⟨w.Start,w.f_⟩)∨o∈t:=by
 unfold il s8; rw [ht]; simp
theorem lM {K β:Type} [DecidableEq K] {l:List (K×β)} {x:K} {y:β} (hn:(l.map (·.1)).Nodup) (hm:(x,y)∈l) {o:K×β} (h:o∈l):o∈cj l x∨o=(x,y):=by
 by_cases e:o.1=x
 ·right
  obtain ⟨k,v⟩:=o
  simp only at e
  subst e
  have B:=(jQ hn).1 h
  have A:=(jQ hn).1 hm
  rw [B] at A
  cases A; rfl
 ·exact .inl (j1.2 ⟨h,e⟩)
theorem Hs {K β:Type} [DecidableEq K] {t l ys:List (K×β)} {x:K} {y:β} (hn:(l.map (·.1)).Nodup) (hm:(x,y)∈l) (h: ∀ o∈t,o∈l∨o∈ys): ∀ o∈t,o∈cj l x∨o∈ys++[(x,y)]:=fun o ho=>by
 rcases h o ho with h|h
 ·rcases lM hn hm h with h|h
  ·exact .inl h
  ·exact .inr (by simp [h])
 ·exact .inr (by simp [h])
theorem mh {K β:Type} [DecidableEq K] {t l:List (K×β)} {x:K} (h: ∀ o∈l,o∈t): ∀ o∈cj l x,o∈t:=fun o ho=>h o (j1.1 ho).1
theorem Jv {w:bO} {m left:List (aC×Int)} (h: ∀ p∈m,p∈left∨ku w p.1=false) (h0:left=[]):jk w m=false:=by
 unfold jk
 rw [List.any_eq_false]
 intro p hp
 rcases h p hp with q|q
 ·rw [h0] at q; cases q
 ·simp [q]
theorem Oo {w:bO} {m:List (aC×Int)} {p:aC×Int} (hp:p∈m) (h:ku w p.1=true):jk w m=true:=List.any_eq_true.2 ⟨p,hp,h⟩
theorem Jf {w:bO} {m left:List (aC×Int)} {t:aC} {v:Int} (hn:(left.map (·.1)).Nodup) (hm:(t,v)∈left) (h: ∀ p∈m,p∈left∨ku w p.1=false) (hf:ku w t=false): ∀ p∈m,p∈cj left t∨ku w p.1=false:=fun p hp=>by
 rcases h p hp with q|q
 ·rcases lM hn hm q with q|q
  ·exact .inl q
  ·right; rw [q]; exact hf
 ·exact .inr q
/-- what the maps of a watch are -/
structure xC (w:bO) (fs:List (List (aC×Int))):Prop where
 len:fs.length=w.n+1
 min: ∀ (b:Nat) m,fs[b]? =some m→tR m (fwd w b)
 keys: ∀ (b:Nat) m,fs[b]? =some m→(m.map (·.1)).Nodup
structure ug (w:bO) (bs:List (List (aC×Int))):Prop where
 len:bs.length=w.n+1
 max: ∀ (b:Nat) m,bs[b]? =some m→uV m (back w b)
 keys: ∀ (b:Nat) m,bs[b]? =some m→(m.map (·.1)).Nodup
theorem xC.mem {w:bO} {fs:List (List (aC×Int))} (h:xC w fs) {b:Nat} {m:List (aC×Int)} (hm:fs[b]? =some m) {p:aC×Int} (hp:p∈m):p∈fwd w b:=(h.min b m hm).1 _ _ ((fr (h.keys b m hm)).1 hp)
theorem ug.mem {w:bO} {fs:List (List (aC×Int))} (h:ug w fs) {b:Nat} {m:List (aC×Int)} (hm:fs[b]? =some m) {p:aC×Int} (hp:p∈m):p∈back w b:=(h.max b m hm).1 _ _ ((fr (h.keys b m hm)).1 hp)
theorem HA {w:bO} {b:Nat} {t l ys:List (Int×aa)} (ht:w.vq[b]? =some t) (h: ∀ o∈t,o∈l∨o∈ys) (h0:l=[]) (hs:(-1,(⟨w.Start,w.f_⟩:aa))∈ys): ∀ o∈il w b,o∈ys:=fun o ho=>by
 rcases (w4 ht).1 ho with rfl|ho
 ·exact hs
 ·rcases h o ho with q|q
  ·rw [h0] at q; cases q
  ·exact q
end
section
/-- by these options all is yielded -/
def lB (w:bO) (b:Nat) (mf mb:List (aC×Int)) (os ys:List (Int×aa)):Prop:= ∀ o∈os,∀ p∈mf,∀ u∈mb,∀ q,mx w b p u o=some q→q∈ys
def nz (w:bO) (b:Nat) (mf mb:List (aC×Int)) (o:Int×aa) (left:List (aC×Int)) (ys:List (Int×aa)):Prop:= ∀ p∈mf,p∈left∨ ∀ u∈mb,∀ q,mx w b p u o=some q→q∈ys
def ni (w:bO) (b:Nat) (mb:List (aC×Int)) (o:Int×aa) (p:aC×Int) (left:List (aC×Int)) (ys:List (Int×aa)):Prop:= ∀ u∈mb,u∈left∨ ∀ q,mx w b p u o=some q→q∈ys
variable {w:bO} {b:Nat} {mf mb left:List (aC×Int)} {o x:Int×aa} {os ys:List (Int×aa)} {p u:aC×Int}
theorem lB.nil:lB w b mf mb [] ys:=fun o ho=>by cases ho
theorem lB.app (h:lB w b mf mb os ys):lB w b mf mb os (ys++[x]):=fun o ho p hp u hu q e=>List.mem_append_left _ (h o ho p hp u hu q e)
theorem nz.app (h:nz w b mf mb o left ys):nz w b mf mb o left (ys++[x]):=fun p hp=>(h p hp).imp id fun h u hu q e=>List.mem_append_left _ (h u hu q e)
theorem nz.start:nz w b mf mb o mf ys:=fun p hp=> .inl hp
theorem ni.start:ni w b mb o p mb ys:=fun p hp=> .inl hp
theorem ni.skip {t:aC} {v:Int} (hn:(left.map (·.1)).Nodup) (hm:(t,v)∈left) (h:ni w b mb o p left ys) (he:mx w b p (t,v) o=none):ni w b mb o p (cj left t) ys:=fun u hu=>by
 rcases h u hu with q|q
 ·rcases lM hn hm q with q|q
  ·exact .inl q
  ·right; intro z hz; rw [q,he] at hz; cases hz
 ·exact .inr q
theorem ni.Uw {t:aC} {v:Int} (hn:(left.map (·.1)).Nodup) (hm:(t,v)∈left) (h:ni w b mb o p left ys) (he:mx w b p (t,v) o=some x):ni w b mb o p (cj left t) (ys++[x]):=fun u hu=>by
 rcases h u hu with q|q
 ·rcases lM hn hm q with q|q
  ·exact .inl q
  ·right; intro z hz; rw [q,he] at hz; cases hz; simp
 ·right; intro z hz; exact List.mem_append_left _ (q z hz)
theorem nz.next {t:aC} {v:Int} {l2:List (aC×Int)} (hn:(left.map (·.1)).Nodup) (hm:(t,v)∈left) (h:nz w b mf mb o left ys) (hq:ni w b mb o (t,v) l2 ys) (h0:l2=[]):nz w b mf mb o (cj left t) ys:=fun p hp=>by
 rcases h p hp with q|q
 ·rcases lM hn hm q with q|q
  ·exact .inl q
  ·right; intro u hu z hz; subst q
   rcases hq u hu with q|q
   ·rw [h0] at q; cases q
   ·exact q z hz
 ·exact .inr q
theorem lB.next (h:lB w b mf mb os ys) (hp:nz w b mf mb o left ys) (h0:left=[]):lB w b mf mb (os++[o]) ys:=fun o' ho p hp' u hu q e=>by
 rcases List.mem_append.1 ho with ho|ho
 ·exact h o' ho p hp' u hu q e
 ·simp only [bR] at ho; subst ho
  rcases hp p hp' with z|z
  ·rw [h0] at z; cases z
  ·exact z u hu q e
theorem lB.fin (h:lB w b mf mb os ys) (ho: ∀ o∈il w b,o∈os): ∀ q∈pO w b mf mb,q∈ys:=fun q hq=>by
 obtain ⟨o,A,p,B,u,C,e⟩:=hO.1 hq
 exact h o (ho o A) p B u C q e
theorem HH (h:max (p.2+bQ w b) o.2.Lo≤min u.2 o.2.Hi) (h2:ku w (dj (dj p.1 u.1) (fh o.1))=true):mx w b p u o=some (o.1,⟨max (p.2+bQ w b) o.2.Lo,min u.2 o.2.Hi⟩):=by
 unfold mx jm xn; rw [if_pos ⟨h,h2⟩]
theorem Ka (h: ¬ max (p.2+bQ w b) o.2.Lo≤min u.2 o.2.Hi):mx w b p u o=none:=by
 unfold mx jm; rw [if_neg (fun q=>h q.1)]
theorem Ho (h2:ku w (dj (dj p.1 u.1) (fh o.1))=false):mx w b p u o=none:=by
 unfold mx xn; rw [if_neg (fun q=>by rw [h2] at q; exact absurd q.2 dc)]
theorem m7 {v:Int} (h:w.pX[b]? =some v):bQ w b=v:=by unfold bQ; rw [h]; rfl
theorem Br {t q:aC} {v z y:Int} (hy:w.pX[b]? =some y) (h:max (v+y) o.2.Lo≤min z o.2.Hi) (h2:ku w (dj (dj t q) (fh o.1))=true):mx w b (t,v) (q,z) o=some (o.1,⟨max (v+y) o.2.Lo,min z o.2.Hi⟩):=by
 have e:=m7 hy
 subst e
 exact HH h h2
theorem H2 {t q:aC} {v z y:Int} (hy:w.pX[b]? =some y) (h: ¬ max (v+y) o.2.Lo≤min z o.2.Hi):mx w b (t,v) (q,z) o=none:=by
 have e:=m7 hy
 subst e
 exact Ka h
theorem oa {m:List (aC×Int)} {k:aC} {y:Int} (h:(m.map (·.1)).Nodup):((ew m k y).map (·.1)).Nodup:=by
 unfold ew
 by_cases hx:(m.lookup k).isSome
 ·rw [if_pos hx,List.map_map]
  have e:m.map ((fun p=>p.1)∘fun p=>if p.1=k then (k,y) else p)=m.map (·.1):=by
   apply List.map_congr_left
   intro p _
   simp only [Function.comp]
   split
   ·rename_i e; exact e.symm
   ·rfl
  rw [e]; exact h
 ·rw [if_neg hx,List.map_append,List.nodup_append]
  refine ⟨h,sm,?_⟩
  intro a ha c hc
  simp only [List.map_cons,List.map_nil,bR] at hc
  rw [hc]
  obtain ⟨p,hp,rfl⟩:=List.mem_map.1 ha
  have hn:m.lookup k=none:=by cases h0:m.lookup k with
   |none=>rfl
   |some v=>exact absurd (by rw [h0]; rfl) hx
  exact g5.1 hn p hp
theorem C9 {m:List (aC×Int)} {q:aC×Int} (h:(m.map (·.1)).Nodup):((o5 m q).map (·.1)).Nodup:=by
 unfold o5; split
 ·exact oa h
 ·split
  ·exact oa h
  ·exact h
theorem CK {m:List (aC×Int)} {q:aC×Int} (h:(m.map (·.1)).Nodup):((oN m q).map (·.1)).Nodup:=by
 unfold oN; split
 ·exact oa h
 ·split
  ·exact oa h
  ·exact h
/-- a map of the first times, on its way -/
structure w6 (w:bO) (b:Nat) (m:List (aC×Int)):Prop where
 snd:u9 m (fwd w (b+1))
 keys:(m.map (·.1)).Nodup
structure vG (w:bO) (b:Nat) (m:List (aC×Int)):Prop where
 snd:u9 m (back w b)
 keys:(m.map (·.1)).Nodup
 zero: ∃ v,m.lookup ⟨0,0⟩=some v∧w.f_≤v
theorem KN (h:max (p.2+bQ w b) o.2.Lo≤min o.2.Hi w.f_):kH w b p o=some (dj p.1 (fh o.1),max (p.2+bQ w b) o.2.Lo):=by unfold kH; rw [if_pos h]
theorem Of (h: ¬ max (p.2+bQ w b) o.2.Lo≤min o.2.Hi w.f_):kH w b p o=none:=by unfold kH; rw [if_neg h]
theorem Lg (h:o.2.Lo≤min p.2 o.2.Hi):nP w b p o=some (dj p.1 (fh o.1),min p.2 o.2.Hi-bQ w b):=by unfold nP; rw [if_pos h]
theorem Nw (h: ¬ o.2.Lo≤min p.2 o.2.Hi):nP w b p o=none:=by unfold nP; rw [if_neg h]
theorem w6.start:w6 w b []:=⟨fun t v h=>by simp at h,List.nodup_nil⟩
theorem w6.add {m:List (aC×Int)} {q:aC×Int} (h:w6 w b m) (hp:p∈fwd w b) (ho:o∈il w b) (he:kH w b p o=some q):w6 w b (o5 m q):=⟨G_ h.snd (fK.2 ⟨p,hp,o,ho,he⟩),C9 h.keys⟩
theorem vG.start (hb:b<w.n):vG w b [(⟨0,0⟩,w.f_)]:=⟨fun t v h=>by
 obtain ⟨rfl,rfl⟩:=oP.1 h
 exact (oI hb).2 (.inl U),sm,w.f_,oP.2 ⟨U,U⟩,Int.le_refl _⟩
theorem vG.add {m:List (aC×Int)} {q:aC×Int} (hb:b<w.n) (h:vG w b m) (hp:p∈back w (b+1)) (ho:o∈il w b) (he:nP w b p o=some q):vG w b (oN m q):=⟨Hc h.snd ((oI hb).2 (.inr ⟨p,hp,o,ho,he⟩)),CK h.keys,by
 obtain ⟨v,A,C⟩:=h.zero
 obtain ⟨v',B,D⟩:=qq (q:=q) _ _ A
 exact ⟨v',B,om⟩⟩
theorem iW.none_ {m:List (aC×Int)} (h:iW w b m p os) (he:kH w b p o=none):iW w b m p (os++[o]):=h.add (x4.refl _) fun q hq=>by rw [he] at hq; cases hq
theorem iW.Im {m:List (aC×Int)} {q:aC×Int} (h:iW w b m p os) (he:kH w b p o=some q):iW w b (o5 m q) p (os++[o]):=h.add vf fun q' hq=>by rw [he] at hq; cases hq; exact H6
theorem iT.none_ {m:List (aC×Int)} (h:iT w b m p os) (he:nP w b p o=none):iT w b m p (os++[o]):=h.add (wy.refl _) fun q hq=>by rw [he] at hq; cases hq
theorem iT.Im {m:List (aC×Int)} {q:aC×Int} (h:iT w b m p os) (he:nP w b p o=some q):iT w b (oN m q) p (os++[o]):=h.add qq fun q' hq=>by rw [he] at hq; cases hq; exact Ha
/-- what of a map of the beam before is used already -/
def jK (w:bO) (b:Nat) (mb m left:List (aC×Int)):Prop:= ∀ p∈mb,p∈left∨iW w b m p (il w b)
def js (w:bO) (b:Nat) (mb m left:List (aC×Int)):Prop:= ∀ p∈mb,p∈left∨iT w b m p (il w b)
theorem jK.start {m:List (aC×Int)}:jK w b mb m mb:=fun p hp=> .inl hp
theorem js.start {m:List (aC×Int)}:js w b mb m mb:=fun p hp=> .inl hp
theorem jK.lower {m m':List (aC×Int)} (h:jK w b mb m left) (hl:x4 m m'):jK w b mb m' left:=fun p hp=>(h p hp).imp id fun h=>h.lower hl
theorem js.upper {m m':List (aC×Int)} (h:js w b mb m left) (hl:wy m m'):js w b mb m' left:=fun p hp=>(h p hp).imp id fun h=>h.upper hl
theorem jK.next {m:List (aC×Int)} {t:aC} {v:Int} (hn:(left.map (·.1)).Nodup) (hm:(t,v)∈left) (h:jK w b mb m left) (hd:iW w b m (t,v) os) (ho: ∀ o∈il w b,o∈os):jK w b mb m (cj left t):=fun p hp=>by
 rcases h p hp with q|q
 ·rcases lM hn hm q with q|q
  ·exact .inl q
  ·right; rw [q]; exact hd.sub ho
 ·exact .inr q
theorem js.next {m:List (aC×Int)} {t:aC} {v:Int} (hn:(left.map (·.1)).Nodup) (hm:(t,v)∈left) (h:js w b mb m left) (hd:iT w b m (t,v) os) (ho: ∀ o∈il w b,o∈os):js w b mb m (cj left t):=fun p hp=>by
 rcases h p hp with q|q
 ·rcases lM hn hm q with q|q
  ·exact .inl q
  ·right; rw [q]; exact hd.sub ho
 ·exact .inr q
theorem jK.fin {m:List (aC×Int)} (h:jK w b mb m left) (h0:left=[]): ∀ p∈mb,iW w b m p (il w b):=fun p hp=>by
 rcases h p hp with q|q
 ·rw [h0] at q; cases q
 ·exact q
theorem js.fin {m:List (aC×Int)} (h:js w b mb m left) (h0:left=[]): ∀ p∈mb,iT w b m p (il w b):=fun p hp=>by
 rcases h p hp with q|q
 ·rw [h0] at q; cases q
 ·exact q
end
section
def l9 (a b:aa):aa:=⟨a.Lo+b.Lo,a.Hi+b.Hi⟩
def dv:aa:=⟨0,0⟩
def kv (a:aa) (l:List aa):aa:=l.foldl l9 a
def lx (z:aa):Prop:=(-1000000000≤z.Lo∧z.Lo≤1000000000)∧ -1000000000≤z.Hi∧z.Hi≤1000000000
theorem zG {a:aa} {l:List aa} {i:Nat} {z:aa} (h:l[i]? =some z):kv a (l.take (i+1))=l9 (kv a (l.take i)) z:=by
 rw [List.take_add_one,h]; unfold kv; simp
theorem PY {a:aa} {l:List aa} (ha:lx a) (hl: ∀ z∈l,lx z): ∀ i:Nat,(-1000000000-1000000000*(i:Int)≤(kv a (l.take i)).Lo∧(kv a (l.take i)).Lo≤1000000000+1000000000*(i:Int))∧ -1000000000-1000000000*(i:Int)≤(kv a (l.take i)).Hi∧(kv a (l.take i)).Hi≤1000000000+1000000000*(i:Int):=by
 intro i
 induction i with
 |zero=>unfold lx at ha; simp [kv]; omega
 |succ i ih=>
  cases h:l[i]? with
  |none=>rw [List.take_add_one,h]; simp only [Option.toList_none,List.append_nil]; omega
  |some z=>
   have hz:=hl z (aT h)
   unfold lx at hz
   rw [zG h]
   simp only [l9]
   omega
theorem ID {a:aa} {l:List aa} {i:Nat} (h:l.length≤i):kv a (l.take i)=kv a l:=by rw [List.take_of_length_le h]
theorem m8 {a z:aa}:vA (aa.cells (kv a [z]))=vA (aa.cells (l9 a z)):=rfl
theorem Db {a y z:aa}:vA (aa.cells (kv a [y,z]))=vA (aa.cells (l9 (l9 a y) z)):=rfl
/-- how long the run is from one mark, over so many stretches; by how much it falls -/
def eD (ts:List al) (f:Nat):Nat→aa
 |0=>dv
 |k+1=>match ts[f+k]? with
  |some x=>l9 (eD ts f k) x.ks
  |none=>eD ts f k
def gd (ts:List al) (f:Nat):Nat→aa
 |0=>dv
 |k+1=>match ts[f+k]? with
  |some x=>l9 (gd ts f k) x.lU
  |none=>gd ts f k
theorem pb {ts:List al} {f k:Nat} {x:al} (h:ts[f+k]? =some x):eD ts f (k+1)=l9 (eD ts f k) x.ks:=by simp [eD,h]
theorem pt {ts:List al} {f k:Nat} {x:al} (h:ts[f+k]? =some x):gd ts f (k+1)=l9 (gd ts f k) x.lU:=by simp [gd,h]
theorem lY {ts:List al} (ht: ∀ x∈ts,bJ x) (f:Nat): ∀ k:Nat,(0≤(eD ts f k).Lo∧(eD ts f k).Lo≤(eD ts f k).Hi)∧(eD ts f k).Hi≤30000*(k:Int):=by
 intro k
 induction k with
 |zero=>simp [eD,dv]
 |succ k ih=>
  simp only [eD]
  cases h:ts[f+k]? with
  |none=>simp only; omega
  |some x=>
   have hx:=(ht x (aT h)).2.1
   simp only [dI] at hx
   simp only [l9]
   omega
theorem FD {ts:List al} (ht: ∀ x∈ts,bJ x) (f:Nat): ∀ k:Nat,(0≤(gd ts f k).Lo∧(gd ts f k).Lo≤(gd ts f k).Hi)∧(gd ts f k).Hi≤5000*(k:Int):=by
 intro k
 induction k with
 |zero=>simp [gd,dv]
 |succ k ih=>
  simp only [gd]
  cases h:ts[f+k]? with
  |none=>simp only; omega
  |some x=>
   have hx:=(ht x (aT h)).2.2.1
   simp only [dI] at hx
   simp only [l9]
   omega
theorem qe {ts:List al} (ht: ∀ x∈ts,bJ x) {f k:Nat} (hk:k≤13):lx (eD ts f k):=by
 have:=lY ht f k; unfold lx; omega
theorem wS {ts:List al} (ht: ∀ x∈ts,bJ x) {f k:Nat} (hk:k≤13):lx (gd ts f k):=by
 have:=FD ht f k; unfold lx; omega
theorem ue {x:al} (h:bJ x):lx x.ks:=by have:=h.2.1; simp only [dI] at this; unfold lx; omega
theorem ur {x:al} (h:bJ x):lx x.lU:=by have:=h.2.2.1; simp only [dI] at this; unfold lx; omega
theorem zo {ts:List al} (h: ¬ (if cT ts=true then (0:Int) else 10)=0):cT ts=false∧(if cT ts=true then (0:Int) else 10)=10:=by
 cases ht:cT ts with
 |true=>rw [ht] at h; exact absurd rfl h
 |false=>exact ⟨rfl,rfl⟩
theorem D3 {ts:List al} (h:(if cT ts=true then (0:Int) else 10)=0):cT ts=true:=by
 cases ht:cT ts with
 |true=>rfl
 |false=>rw [ht] at h; exact absurd h dc
/-- what the iterator of marks yields -/
def tg (ts:List al) (f:Nat):List (List Value):=(List.range (ts.length-f+1)).map fun (k:Nat)=>[.agg (eD ts f k).cells.toArray,.agg (gd ts f k).cells.toArray]
theorem tw {ts:List al} {f:Nat}:(tg ts f).length=ts.length-f+1:=by simp [tg]
theorem zb {ts:List al} {f k:Nat} (h:k≤ts.length-f):(tg ts f)[k]? =some [.agg (eD ts f k).cells.toArray,.agg (gd ts f k).cells.toArray]:=by
 simp [tg,List.getElem?_range (show k<ts.length-f+1 by omega)]
theorem H9 {ts:List al} {f k:Nat} {x:List Value} (h:(tg ts f)[k]? =some x):k≤ts.length-f∧x=[.agg (eD ts f k).cells.toArray,.agg (gd ts f k).cells.toArray]:=by
 have hi:k<ts.length-f+1:=by
  have:=(List.getElem?_eq_some_iff.1 h).1
  simpa [tg] using this
 rw [zb om] at h
 exact ⟨om,(Option.some.inj h).symm⟩
theorem DL {ts:List al} {f:Nat}: ∀ x∈tg ts f,x.length=2:=fun x hx=>by
 obtain ⟨k,_,rfl⟩:=List.mem_map.1 hx; rfl
end
section
def fj (ts:List al) (s:cD):Prop:=(0≤s.aY∧s.aY<(ts.length:Int))∧ ∃ x,ts[s.aY.toNat]? =some x∧dI s.mB 0 (x.ks.Lo-1)
noncomputable instance (ts:List al) (s:cD):Decidable (fj ts s):=Classical.propDecidable _
theorem CT {ts:List al} {s:cD} {x:al} (h:0≤s.aY∧s.aY<(ts.length:Int)) (hx:ts[s.aY.toNat]? =some x):fj ts s↔dI s.mB 0 (x.ks.Lo-1):=
 ⟨fun A=>by obtain ⟨y,hy,B⟩:=A.2; rw [hx] at hy; cases hy; exact B,fun A=>⟨h,x,hx,A⟩⟩
theorem CI {ts:List al} {s:cD} (h: ¬ (0≤s.aY∧s.aY<(ts.length:Int))): ¬ fj ts s:=fun A=>h A.1
theorem Aa {ts:List al} {s:cD} (ht: ∀ x∈ts,bJ x) (h:fj ts s):(0≤s.mB.Lo∧s.mB.Lo≤s.mB.Hi)∧s.mB.Hi≤30000:=by
 obtain ⟨x,hx,A⟩:=h.2
 have:=(ht x (aT hx)).2.1
 simp only [dI] at A this
 omega
theorem DC {ts:List al} {a:cD}:vB (decide (∀ s∈[a],fj ts s))=vB (decide (fj ts a)):=congrArg _ (decide_eq_decide.2 sm)
theorem Et {ts:List al} {a b:cD}:vB (decide (∀ s∈[a,b],fj ts s))=vB (decide (fj ts a∧fj ts b)):=congrArg _ (decide_eq_decide.2 sm)
def nY (z:aa):aa:=⟨-z.Hi,-z.Lo⟩
def Mr (ts:List al) (s:cD):aa:=l9 (eD ts 0 s.aY.toNat) s.mB
noncomputable def E_ (ts:List al) (s:cD):Int:=if cT ts=true then (if fj ts s then 0 else 12) else 10
noncomputable def QA (ts:List al) (s:cD):aa:=if E_ ts s=0 then Mr ts s else dv
theorem LQ {ts:List al} {s:cD} (h:cT ts=false):E_ ts s=10∧QA ts s=dv:=by
 have e:E_ ts s=10:=by unfold E_; rw [h]; rfl
 exact ⟨e,by unfold QA; rw [e]; rfl⟩
theorem KA {ts:List al} {s:cD} (h:cT ts=true) (h2: ¬ fj ts s):E_ ts s=12∧QA ts s=dv:=by
 have e:E_ ts s=12:=by unfold E_; rw [if_pos h,if_neg h2]
 exact ⟨e,by unfold QA; rw [e]; rfl⟩
theorem wU {ts:List al} {s:cD} (h:cT ts=true) (h2:fj ts s):E_ ts s=0∧QA ts s=Mr ts s:=by
 have e:E_ ts s=0:=by unfold E_; rw [if_pos h,if_pos h2]
 exact ⟨e,if_pos e⟩
theorem Fe {ts:List al} {s:cD} (h:cT ts=true):E_ ts s=0↔fj ts s:=by
 unfold E_; rw [if_pos h]; split<;>simp [*]
def xD (ts:List al) (a b:cD):aa:=eD ts (min a.aY b.aY).toNat (max a.aY b.aY-min a.aY b.aY).toNat
def jP (ts:List al) (a b:cD):aa:=l9 (l9 (if b.aY<a.aY then nY (xD ts a b) else xD ts a b) b.mB) (nY a.mB)
noncomputable def lK (ts:List al) (a b:cD):Int:=if cT ts=true then (if fj ts a∧fj ts b then 0 else 12) else 10
noncomputable def kE (ts:List al) (a b:cD):aa:=if lK ts a b=0 then jP ts a b else dv
theorem uE {ts:List al} {a b:cD} (h:cT ts=false):lK ts a b=10∧kE ts a b=dv:=by
 have e:lK ts a b=10:=by unfold lK; rw [h]; rfl
 exact ⟨e,by unfold kE; rw [e]; rfl⟩
theorem oT {ts:List al} {a b:cD} (h:cT ts=true) (h2: ¬ (fj ts a∧fj ts b)):lK ts a b=12∧kE ts a b=dv:=by
 have e:lK ts a b=12:=by unfold lK; rw [if_pos h,if_neg h2]
 exact ⟨e,by unfold kE; rw [e]; rfl⟩
theorem k7 {ts:List al} {a b:cD} (h:cT ts=true) (h2:fj ts a∧fj ts b):lK ts a b=0∧kE ts a b=jP ts a b:=by
 have e:lK ts a b=0:=by unfold lK; rw [if_pos h,if_pos h2]
 exact ⟨e,if_pos e⟩
theorem Aj {z:aa} (h:lx z):lx (nY z):=by unfold lx nY at *; simp only; omega
theorem p9 {ts:List al} {s:cD} (ht: ∀ x∈ts,bJ x) (h:fj ts s):lx s.mB:=by have:=Aa ht h; unfold lx; omega
theorem Qi {ts:List al} {a b:cD} (ht: ∀ x∈ts,bJ x) (hl:ts.length≤12) (ha:fj ts a) (hb:fj ts b):(0≤(xD ts a b).Lo∧(xD ts a b).Lo≤(xD ts a b).Hi)∧(xD ts a b).Hi≤360000:=by
 have h:=lY ht (min a.aY b.aY).toNat (max a.aY b.aY-min a.aY b.aY).toNat
 have A:=ha.1
 have B:=hb.1
 unfold xD
 omega
theorem xP {ts:List al} {a b:cD} (ht: ∀ x∈ts,bJ x) (hl:ts.length≤12) (ha:fj ts a) (hb:fj ts b):(-400000≤(jP ts a b).Lo∧(jP ts a b).Lo≤(jP ts a b).Hi)∧(jP ts a b).Hi≤400000:=by
 have h:=Qi ht hl ha hb
 have A:=Aa ht ha
 have B:=Aa ht hb
 unfold jP l9 nY
 split<;>simp only <;>omega
theorem S_ {ts:List al} {s:cD} (ht: ∀ x∈ts,bJ x) (hl:ts.length≤12) (h:fj ts s):(0≤(Mr ts s).Lo∧(Mr ts s).Lo≤(Mr ts s).Hi)∧(Mr ts s).Hi≤400000:=by
 have A:=lY ht 0 s.aY.toNat
 have B:=Aa ht h
 have C:=h.1
 unfold Mr l9
 simp only; omega
theorem GA {α:Type} {p:Nat→α→Bool} {l:List α}:((l.zipIdx.filter fun q=>p q.2 q.1).map fun q=>(q.2:Int))=[]↔ ∀ (i:Nat) x,l[i]? =some x→p i x=false:=by
 rw [List.map_eq_nil_iff,List.filter_eq_nil_iff]
 constructor
 ·intro h i x hx
  have:=h (x,i) (by rw [List.mem_zipIdx_iff_getElem?]; simpa using hx)
  simpa using this
 ·rintro h ⟨x,i⟩ hm
  rw [List.mem_zipIdx_iff_getElem?] at hm
  simpa using h i x (by simpa using hm)
/-- the places of a list at which something is so -/
def su {α:Type} (p:Nat→α→Bool) (l:List α) (n:Nat):List Int:=(((l.take n).zipIdx.filter fun q=>p q.2 q.1).map fun q=>(q.2:Int))
theorem KW {α:Type} {p:Nat→α→Bool} {l:List α} {i:Nat} {x:α} (hx:l[i]? =some x) (h:p i x=true):su p l (i+1)=su p l i++[(i:Int)]:=by
 have hi:=(List.getElem?_eq_some_iff.1 hx).1
 unfold su
 rw [List.take_add_one,hx,List.zipIdx_append,List.filter_append,List.map_append]
 simp [Nat.min_eq_left (Nat.le_of_lt hi),h]
theorem Nu {α:Type} {p:Nat→α→Bool} {l:List α} {i:Nat} {x:α} (hx:l[i]? =some x) (h:p i x=false):su p l (i+1)=su p l i:=by
 have hi:=(List.getElem?_eq_some_iff.1 hx).1
 unfold su
 rw [List.take_add_one,hx,List.zipIdx_append,List.filter_append,List.map_append]
 simp [Nat.min_eq_left (Nat.le_of_lt hi),h]
theorem Bf {α:Type} {p:Nat→α→Bool} {l:List α} {n:Nat}:(su p l n).length≤n:=by
 unfold su
 rw [List.length_map]
 refine Nat.le_trans (List.length_filter_le _ _) ?_
 rw [List.length_zipIdx,List.length_take]; omega
def Lw {α:Type} (p:Nat→α→Bool) (l:List α):List Int:=su p l l.length
theorem Nh {α:Type} {p:Nat→α→Bool} {l:List α} {n:Nat} (h:n=l.length):su p l n=Lw p l:=by rw [h]; rfl
theorem G8 {α:Type} {p:Nat→α→Bool} {l:List α}:(Lw p l).length=0↔ ∀ (i:Nat) x,l[i]? =some x→p i x=false:=by
 unfold Lw su
 rw [List.length_eq_zero_iff,List.take_length]
 exact GA
end
section
theorem zh (p:Int→Bool) (n:Nat): ∃ r:Int,r=((List.range n).findIdx fun (k:Nat)=>p (k:Int):Nat):=⟨_,rfl⟩
noncomputable def fp (p:Int→Bool) (n:Nat):Int:=Classical.choose (zh p n)
theorem sK (p:Int→Bool) (n:Nat):fp p n=((List.range n).findIdx fun (k:Nat)=>p (k:Int):Nat):=Classical.choose_spec (zh p n)
theorem ig {p:Int→Bool} {n:Nat}:0≤fp p n∧fp p n≤n:=by
 rw [sK]
 have:=List.findIdx_le_length (xs:=List.range n) (p:=fun (k:Nat)=>p (k:Int))
 rw [List.length_range] at this
 omega
theorem uK {p:Int→Bool} {n:Nat} {x:Int} (h0:0≤x) (h:x<fp p n):p x=false:=by
 have hb:=ig (p:=p) (n:=n)
 rw [sK] at h
 have B:x.toNat<(List.range n).findIdx fun (k:Nat)=>p (k:Int):=by omega
 have A:=List.not_of_lt_findIdx B
 simp only [List.getElem_range] at A
 rw [show (x.toNat:Int)=x by omega] at A
 simpa using A
theorem zH {p:Int→Bool} {n:Nat} (h:fp p n<n):p (fp p n)=true:=by
 rw [sK] at h ⊢
 have A:((List.range n).findIdx fun (k:Nat)=>p (k:Int))<(List.range n).length:=by rw [List.length_range]; omega
 have:=List.findIdx_getElem (w:=A)
 simpa using this
theorem yK {p:Int→Bool} {n:Nat} {r:Int} (h0:0≤r) (hn:r<n) (hr:p r=true) (hb: ∀ x,0≤x→x<r→p x=false):fp p n=r:=by
 have A:=ig (p:=p) (n:=n)
 rcases Int.lt_trichotomy (fp p n) r with h|h|h
 ·have:=hb _ A.1 h
  have e:=zH (p:=p) (n:=n) om
  rw [e] at this; cases this
 ·exact h
 ·have:=uK h0 h
  rw [hr] at this; cases this
end
section
def o7 (n by_:Int):Int:=(n+by_-1)/by_
/-- by how much a sync may be off -/
def sB (c:av) (at_:Int) (x:cw):Int:=o7 (c.de*max (at_-x.At) (x.At-at_)) 1000000
def lV (c:av) (at_:Int) (s:aa) (x:cw):aa:=⟨max s.Lo (x.ei.Lo-sB c at_ x),min s.Hi (x.ei.Hi+sB c at_ x)⟩
def gj (c:av) (at_:Int) (k:Nat):aa:=(c.br.take k).foldl (lV c at_) ⟨-1099511627776,1099511627776⟩
def ij (c:av) (at_:Int):aa:=c.br.foldl (lV c at_) ⟨-1099511627776,1099511627776⟩
theorem jD {c:av} {at_:Int} {k:Nat} {x:cw} (h:c.br[k]? =some x):gj c at_ (k+1)=lV c at_ (gj c at_ k) x:=by
 unfold gj; rw [List.take_add_one,h,List.foldl_append]; rfl
theorem nJ {c:av} {at_:Int} {k:Nat} (h:c.br.length≤k):gj c at_ k=ij c at_:=by unfold gj ij; rw [List.take_of_length_le h]
def j_ (c:av) (i:Nat):Int:=if i=0 then-1 else ((c.br[i-1]?).map (·.At)).getD 0
def fm (c:av) (i:Nat) (x:cw):Prop:=(j_ c i<x.At∧x.At≤86400000)∧ -10000≤x.ei.Lo∧x.ei.Lo≤x.ei.Hi∧x.ei.Hi≤10000
def nI (c:av) (x o:cw):Prop:=x.ei.Lo-o.ei.Hi≤o7 (c.de*(x.At-o.At)) 1000000∧o.ei.Lo-x.ei.Hi≤o7 (c.de*(x.At-o.At)) 1000000
structure eY (c:av):Prop where
 rU:0≤c.de∧c.de≤1000
 len:1≤c.br.length∧c.br.length≤5
 sync: ∀ (i:Nat) x,c.br[i]? =some x→fm c i x
 pair: ∀ (i k:Nat) x o,c.br[i]? =some x→k<i→c.br[k]? =some o→nI c x o
noncomputable instance (c:av):Decidable (eY c):=Classical.propDecidable _
theorem gu {c:av} {i:Nat} (h:i=0):j_ c i= -1:=if_pos h
theorem wg {c:av} {i:Nat} {y:cw} (h:0<i) (hy:c.br[i-1]? =some y):j_ c i=y.At:=by unfold j_; rw [if_neg om,hy]; rfl
theorem nW {c:av} {i:Nat} {y:cw} (hy:c.br[i]? =some y):j_ c (i+1)=y.At:=by unfold j_; rw [if_neg om,Nat.add_sub_cancel,hy]; rfl
/-- the times of the syncs -/
theorem Od {c:av} (h: ∀ (i:Nat) x,c.br[i]? =some x→fm c i x): ∀ (i:Nat) x,c.br[i]? =some x→0≤x.At∧ ∀ (k:Nat) o,k<i→c.br[k]? =some o→o.At<x.At:=by
 intro i
 induction i with
 |zero=>
  intro x hx
  have:=(h 0 x hx).1.1
  rw [gu rfl] at this
  exact ⟨om,fun k o hk=>by omega⟩
 |succ i ih=>
  intro x hx
  have hi:=(List.getElem?_eq_some_iff.1 hx).1
  have hy:c.br[i]? =some (c.br[i]'om):=e8 om
  have B:=ih _ hy
  have A:=(h (i+1) x hx).1.1
  rw [nW hy] at A
  refine ⟨om,fun k o hk ho=>?_⟩
  by_cases e:k=i
  ·subst e; rw [hy] at ho; cases ho; exact A
  ·have:=B.2 k o om ho; omega
theorem eY.uy {c:av} (h:eY c) {i:Nat} {x:cw} (hx:c.br[i]? =some x):(0≤x.At∧x.At≤86400000)∧ -10000≤x.ei.Lo∧x.ei.Lo≤x.ei.Hi∧x.ei.Hi≤10000:=by
 have A:=h.sync i x hx
 exact ⟨⟨(Od h.sync i x hx).1,A.1.2⟩,A.2⟩
theorem Ft {d a b:Int} (hd:0≤d∧d≤1000) (ha:0≤a∧a≤90000000) (hb:0≤b∧b≤90000000):0≤d*max (a-b) (b-a)∧d*max (a-b) (b-a)≤90000000000:=by
 have:=P4 (a:=d) (b:=max (a-b) (b-a)) (A:=1000) (B:=90000000) hd.1 hd.2 om om
 omega
theorem uv {c:av} {at_:Int} {x:cw} (hd:0≤c.de∧c.de≤1000) (ha:0≤at_∧at_≤90000000) (hx:0≤x.At∧x.At≤86400000):0≤sB c at_ x∧sB c at_ x≤90001:=by
 have h:=Ft hd ha (show 0≤x.At∧x.At≤90000000 by omega)
 unfold sB o7; omega
theorem Cl {c:av} {at_:Int} (h:eY c) (ha:0≤at_∧at_≤90000000): ∀ k:Nat,(-1099511627776≤(gj c at_ k).Lo∧(gj c at_ k).Lo≤10000)∧ -10000≤(gj c at_ k).Hi∧(gj c at_ k).Hi≤1099511627776:=by
 intro k
 induction k with
 |zero=>simp [gj]
 |succ k ih=>
  cases hx:c.br[k]? with
  |none=>unfold gj at ih ⊢; rw [List.take_add_one,hx]; simpa using ih
  |some x=>
   have hb:=h.uy hx
   have ho:=uv h.rU ha hb.1
   rw [jD hx]
   unfold lV
   simp only
   omega
theorem qM {c:av} {at_:Int} (h:eY c) (ha:0≤at_∧at_≤90000000):(-110000≤(ij c at_).Lo∧(ij c at_).Lo≤10000)∧ -10000≤(ij c at_).Hi∧(ij c at_).Hi≤110000:=by
 obtain ⟨n,hn⟩: ∃ n,c.br.length=n+1:=⟨c.br.length-1,by have:=h.len; omega⟩
 have hx:c.br[n]? =some (c.br[n]'om):=e8 om
 have hb:=h.uy hx
 have ho:=uv h.rU ha hb.1
 have A:=Cl h ha n
 rw [← nJ (k:=n+1) om,jD hx]
 unfold lV
 simp only
 omega
/-- as time goes on, time and what a clock may be ahead, together, never go back -/
theorem Ed {c:av} (h:eY c) {a b:Int} (ha:0≤a) (hab:a≤b) (hb:b≤90000000): ∀ k:Nat,(a+(gj c a k).Lo≤b+(gj c b k).Lo∨(gj c a k).Lo= -1099511627776)∧a+(gj c a k).Hi≤b+(gj c b k).Hi:=by
 have step: ∀ (x:cw),0≤x.At∧x.At≤86400000→ ∀ a b:Int,0≤a→a≤b→b≤90000000→sB c a x≤sB c b x+(b-a)∧sB c b x≤sB c a x+(b-a):=by
  intro x hx a b ha hab hb
  have hd:=h.rU
  have e: ∀ u v:Int,u≤v+1000000*(b-a)→o7 u 1000000≤o7 v 1000000+(b-a):=by intro u v C; unfold o7; omega
  have m: ∀ p q:Int,p≤q+(b-a)→c.de*p≤c.de*q+1000000*(b-a):=by
   intro p q A
   have D:c.de*p≤c.de*(q+(b-a)):=Int.mul_le_mul_of_nonneg_left A hd.1
   have E:c.de*(q+(b-a))=c.de*q+c.de*(b-a):=Int.mul_add _ _ _
   have F:c.de*(b-a)≤1000*(b-a):=Int.mul_le_mul_of_nonneg_right hd.2 om
   omega
  exact ⟨e _ _ (m _ _ om),e _ _ (m _ _ om)⟩
 intro k
 induction k with
 |zero=>simp [gj]; omega
 |succ k ih=>
  cases hx:c.br[k]? with
  |none=>
   have e: ∀ t,gj c t (k+1)=gj c t k:=fun t=>by unfold gj; rw [List.take_add_one,hx]; simp
   rw [e,e]; exact ih
  |some x=>
   have hs:=h.uy hx
   have:=step x hs.1 a b ha hab hb
   have B:=uv (at_:=a) h.rU ⟨ha,om⟩ hs.1
   rw [jD hx,jD hx]
   unfold lV
   simp only
   omega
theorem n7 {c:av} (h:eY c) {a b:Int} (ha:0≤a) (hab:a≤b) (hb:b≤90000000):a+(ij c a).Lo≤b+(ij c b).Lo∧a+(ij c a).Hi≤b+(ij c b).Hi:=by
 have A:=Ed h ha hab hb c.br.length
 have B:=qM h (at_:=a) ⟨ha,om⟩
 rw [nJ (Nat.le_refl _),nJ (Nat.le_refl _)] at A
 omega
noncomputable def lX (l:aX) (i:Nat):Int:=match l.ae[i]? with
 |some b=>if i=0 then (Mr l.aN b.mC).Lo else (match l.ae[i-1]? with
  |some a=>(jP l.aN a.mC b.mC).Lo
  |none=>0)
 |none=>0
theorem yD {l:aX} {b:bB} (h:l.ae[0]? =some b):lX l 0=(Mr l.aN b.mC).Lo:=by unfold lX; rw [h]; rfl
theorem Da {l:aX} {i:Nat} {a b:bB} (hi:0<i) (h:l.ae[i]? =some b) (ha:l.ae[i-1]? =some a):lX l i=(jP l.aN a.mC b.mC).Lo:=by unfold lX; rw [h,ha]; simp only; rw [if_neg om]
def jT (l:aX) (b:bB):Prop:=fj l.aN b.mC∧0≤b.jG∧b.jG<(l.aj.length:Int)
def gl (l:aX):Prop:=(1≤l.gT∧l.gT≤5000)∧(1≤(l.aj.length:Int)∧(l.aj.length:Int)≤4)∧(1≤(l.ae.length:Int)∧(l.ae.length:Int)≤6)∧(0≤l.cu∧l.cu≤(l.ae.length:Int)-1)∧(0≤l.eM∧l.eM≤3)∧0≤l.cQ∧l.cQ≤3
structure kW (l:aX):Prop where
 head:gl l
 clock: ∀ c∈l.aj,eY c
 vy: ∀ b∈l.ae,jT l b
 Q0: ∀ i,i<l.ae.length→1≤lX l i
noncomputable instance (l:aX):Decidable (kW l):=Classical.propDecidable _
noncomputable def dp (l:aX):Int:=if cT l.aN=true then (if kW l then 0 else 50) else 10
theorem zm {l:aX} (h:cT l.aN=false):dp l=10:=by unfold dp; rw [h]; rfl
theorem qb {l:aX} (h:cT l.aN=true) (h2: ¬ kW l):dp l=50:=by unfold dp; rw [if_pos h,if_neg h2]
theorem xA {l:aX} (h:cT l.aN=true) (h2:kW l):dp l=0:=by unfold dp; rw [if_pos h,if_pos h2]
theorem gH {l:aX} (h:dp l=0):cT l.aN=true∧kW l:=by
 unfold dp at h
 split at h
 ·split at h
  ·exact ⟨asm,asm⟩
  ·omega
 ·omega
theorem FV {l:aX} (ht:cT l.aN=true) (hb: ∀ b∈l.ae,jT l b) (i:Nat): -400000≤lX l i∧lX l i≤400000:=by
 have A:=jN ht
 have hl:=kD ht
 unfold lX
 cases h:l.ae[i]? with
 |none=>simp
 |some b=>
  have B:=(hb b (aT h)).1
  simp only
  split
  ·have:=S_ A hl B; omega
  ·cases h2:l.ae[i-1]? with
   |none=>simp
   |some a=>
    have C:=(hb a (aT h2)).1
    have:=xP A hl C B
    simp only; omega
def pN (l:aX) (s:aM):av:=((l.ae[s.gf.toNat]?).bind fun b=>l.aj[b.jG.toNat]?).getD ⟨0,[]⟩
def fX (c:av) (r t:Int):Bool:=decide (r≤t+(ij c t).Hi)
def fY (c:av) (r t:Int):Bool:=decide (r<t+(ij c t).Lo)
noncomputable def qf (c:av) (r:Int):aa:=⟨fp (fX c r) 86400001,fp (fY c r) 86400001-1⟩
noncomputable def cz (l:aX) (s:aM):aa:=qf (pN l s) s.Read
noncomputable def dR (l:aX) (i:Nat):Int:=o7 (1000*lX l i) l.gT
end
section
open Go.RowKit
def AW (n:Int):Int:=IntKind.i64.wrap n
theorem AM {n:Int} (h:qK n):AW n=n:=mM h
theorem S3 (n:Int): -9223372036854775808≤AW n∧AW n≤9223372036854775807:=by
 unfold AW
 rw [IntKind.wrap_i64]
 omega
section
variable {P:Program} {t:TypeId} {x y:Operand} {a b:Int}
theorem P8:ic P .add t x y (.int .i64 a) (.int .i64 b) (.int .i64 (AW (a+b))):=fun w=>by simp [eqGuard_add,binOp_add,Op.intArith,AW]
theorem Iu:ic P .sub t x y (.int .i64 a) (.int .i64 b) (.int .i64 (AW (a-b))):=fun w=>by simp [eqGuard_sub,binOp_sub,Op.intArith,AW]
theorem Qc:ic P .mul t x y (.int .i64 a) (.int .i64 b) (.int .i64 (AW (a*b))):=fun w=>by simp [eqGuard_mul,binOp_mul,Op.intArith,AW]
end
/-- divided, and rounded up, as it comes out -/
def SQ (n by_:Int):Int:=(AW (AW (n+by_)-1)).tdiv by_
theorem Qj {a b:Int} (ha: -9223372036854775808≤a∧a≤9223372036854775807) (hb:2≤b):qK (a.tdiv b):=by
 have A:a.tdiv b=a/b+if a % b≠0∧a<0 then 1 else 0:=by
  rcases Int.lt_or_le a 0 with h|h
  ·rw [Int.tdiv_eq_ediv]
   have:b.sign=1:=Int.sign_eq_one_of_pos om
   rw [this]
   by_cases hd:b∣a
   ·have:a % b=0:=Int.emod_eq_zero_of_dvd hd
    simp [hd,this]
   ·have:a % b≠0:=fun e=>hd (Int.dvd_of_emod_eq_zero e)
    have hn: ¬ 0≤a:=by omega
    simp [hd,this,h,hn]
  ·rw [Int.tdiv_eq_ediv_of_nonneg h]
   have: ¬ a<0:=by omega
   simp [this]
 have B:a/b*b+a % b=a:=by rw [Int.mul_comm]; exact Int.mul_ediv_add_emod a b
 have C:0≤a % b:=Int.emod_nonneg _ om
 have D:a % b<b:=Int.emod_lt_of_pos _ om
 have E: -9223372036854775808≤a/b∧a/b≤4611686018427387904:=by
  constructor
  ·refine Int.le_ediv_of_mul_le om ?_
   have:(-9223372036854775808:Int)*b≤ -9223372036854775808*1:=Int.mul_le_mul_of_nonpos_left om om
   omega
  ·refine Int.ediv_le_of_le_mul om ?_
   have:(4611686018427387904:Int)*2≤4611686018427387904*b:=Int.mul_le_mul_of_nonneg_left hb om
   omega
 rw [A]
 unfold qK
 split<;>omega
theorem P9 {n by_:Int} (h0:0≤n) (h1:n≤1000000000000000000) (hb:1≤by_∧by_≤1000000000000):SQ n by_=(n+by_-1)/by_:=by
 unfold SQ
 rw [AM (show qK (n+by_) from ⟨om,om⟩),AM (show qK (n+by_-1) from ⟨om,om⟩),Int.tdiv_eq_ediv_of_nonneg om]
end
section
def lZ (c:av) (i:Nat) (x:cw) (k:Nat):Prop:=fm c i x∧ ∀ (j:Nat) o,j<k→c.br[j]? =some o→nI c x o
def se (c:av) (n:Nat):Prop:= ∀ (i:Nat) x,i<n→c.br[i]? =some x→lZ c i x i
noncomputable instance (c:av) (i:Nat) (x:cw) (k:Nat):Decidable (lZ c i x k):=Classical.propDecidable _
instance (c:av) (i:Nat) (x:cw):Decidable (fm c i x):=by unfold fm; infer_instance
theorem D_ {c:av} {i:Nat} {x:cw}:lZ c i x 0↔fm c i x:=⟨fun h=>h.1,fun h=>⟨h,fun j o hj=>by omega⟩⟩
theorem rZ {c:av} {i k:Nat} {x o:cw} (h:c.br[k]? =some o):lZ c i x (k+1)↔lZ c i x k∧nI c x o:=by
 constructor
 ·intro hr
  exact ⟨⟨hr.1,fun j o' hj ho=>hr.2 j o' om ho⟩,hr.2 k o om h⟩
 ·rintro ⟨hr,hp⟩
  refine ⟨hr.1,fun j o' hj ho=>?_⟩
  by_cases e:j=k
  ·subst e; rw [h] at ho; cases ho; exact hp
  ·exact hr.2 j o' om ho
theorem Hn {c:av}:se c 0:=fun i x hi=>by omega
theorem Hq {c:av} {i:Nat} {x:cw} (h:se c i) (hx:c.br[i]? =some x) (hr:lZ c i x i):se c (i+1):=fun j y hj hy=>by
 by_cases e:j=i
 ·subst e; rw [hx] at hy; cases hy; exact hr
 ·exact h j y om hy
theorem Kh {c:av} {i:Nat} {x:cw} (hx:c.br[i]? =some x) (h: ¬ lZ c i x i): ¬ eY c:=fun hc=>h ⟨hc.sync i x hx,fun j o hj ho=>hc.pair i j x o hx hj ho⟩
theorem Hy {c:av} (h1:0≤c.de∧c.de≤1000) (h2:1≤c.br.length∧c.br.length≤5) (h:se c c.br.length):eY c:=
 ⟨h1,h2,fun i x hx=>(h i x (List.getElem?_eq_some_iff.1 hx).1 hx).1,fun i k x o hx hk ho=>(h i x (List.getElem?_eq_some_iff.1 hx).1 hx).2 k o hk ho⟩
/-- syncs so far -/
theorem uz {c:av} {n:Nat} (h: ∀ (i:Nat) x,i<n→c.br[i]? =some x→fm c i x): ∀ (i:Nat) x,i<n→c.br[i]? =some x→0≤x.At∧ ∀ (k:Nat) o,k<i→c.br[k]? =some o→o.At<x.At:=by
 intro i
 induction i with
 |zero=>
  intro x hn hx
  have:=(h 0 x hn hx).1.1
  rw [gu rfl] at this
  exact ⟨om,fun k o hk=>by omega⟩
 |succ i ih=>
  intro x hn hx
  have hi:=(List.getElem?_eq_some_iff.1 hx).1
  have hy:c.br[i]? =some (c.br[i]'om):=e8 om
  have B:=ih _ om hy
  have A:=(h (i+1) x hn hx).1.1
  rw [nW hy] at A
  refine ⟨om,fun k o hk ho=>?_⟩
  by_cases e:k=i
  ·subst e; rw [hy] at ho; cases ho; exact A
  ·have:=B.2 k o om ho; omega
theorem KI {c:av} {i:Nat} (hi:i≤c.br.length) (h: ∀ (j:Nat) y,j<i→c.br[j]? =some y→fm c j y): -1≤j_ c i∧j_ c i≤86400000:=by
 cases i with
 |zero=>rw [gu rfl]; omega
 |succ i=>
  have hy:c.br[i]? =some (c.br[i]'om):=e8 om
  have A:=(uz (n:=i+1) h i _ om hy).1
  have B:=(h i _ om hy).1.2
  rw [nW hy]; omega
theorem QT {c:av} {i:Nat} (hi:i≤c.br.length) (h:se c i): -1≤j_ c i∧j_ c i≤86400000:=KI hi fun j y hj hy=>(h j y hj hy).1
theorem uP {c:av} {i k:Nat} {x o:cw} (hs: ∀ (j:Nat) y,j<i→c.br[j]? =some y→fm c j y) (hx:c.br[i]? =some x) (hok:fm c i x) (hk:k<i) (ho:c.br[k]? =some o):
 (0≤o.At∧o.At<x.At∧x.At≤86400000)∧(-10000≤x.ei.Lo∧x.ei.Lo≤x.ei.Hi∧x.ei.Hi≤10000)∧ -10000≤o.ei.Lo∧o.ei.Lo≤o.ei.Hi∧o.ei.Hi≤10000:=by
 have h: ∀ (j:Nat) y,j<i+1→c.br[j]? =some y→fm c j y:=fun j y hj hy=>by
  by_cases e:j=i
  ·subst e; rw [hx] at hy; cases hy; exact hok
  ·exact hs j y om hy
 have A:=(uz h i x om hx).2 k o hk ho
 have B:=(uz h k o om ho).1
 exact ⟨⟨B,A,hok.1.2⟩,hok.2,(h k o om ho).2⟩
theorem MD {d a b:Int} (hd:0≤d∧d≤1000) (h:0≤b∧b<a∧a≤86400000):SQ (AW (d*AW (a-b))) 1000000=o7 (d*(a-b)) 1000000:=by
 have C:0≤d*(a-b)∧d*(a-b)≤90000000000:=by
  have:=P4 (a:=d) (b:=a-b) (A:=1000) (B:=90000000) hd.1 hd.2 om om
  omega
 rw [AM (show qK (a-b) from ⟨om,om⟩),AM (show qK (d*(a-b)) from ⟨om,om⟩),P9 C.1 om om]
 rfl
/-- what is asked of a line, however wrong it is -/
structure eu (l:aX) (asl:List RA):Prop where
 sM:l.aN.length≤1000000
 side: ∀ x∈l.aN,0≤x.iX∧x.iX≤255
 sO:l.aj.length≤1000000
 oq:asl.length=l.aj.length
 sN:l.ae.length≤1000000
 QZ: ∀ (k:Nat) m (a:RA),l.aj[k]? =some m→asl[k]? =some a→m.br.length≤a.2∧m.br.length≤1000000
noncomputable instance (l:aX):Decidable (gl l):=by unfold gl; infer_instance
noncomputable instance (l:aX) (b:bB):Decidable (jT l b):=Classical.propDecidable _
theorem zA {l:aX} (h:gl l) (h2: ∀ c∈l.aj,eY c) (h3: ∀ b∈l.ae,jT l b) (h4: ∀ i,i<l.ae.length→1≤lX l i):kW l:=⟨h,h2,h3,h4⟩
theorem Ec {l:aX}:((!(l.aj.any fun m=> !decide (eY m)))=true)↔ ∀ c∈l.aj,eY c:=by simp
theorem HV {l:aX}:((!(l.ae.any fun b=> !decide (jT l b)))=true)↔ ∀ b∈l.ae,jT l b:=by simp
theorem kI {c:av} (h:eY c) {r x:Int} (h0:0≤x) (h1:x<86400001):
 (x<fp (fX c r) 86400001→fX c r x=false)∧(fp (fX c r) 86400001≤x→fX c r x=true)∧(x<fp (fY c r) 86400001→fY c r x=false)∧(fp (fY c r) 86400001≤x→fY c r x=true):=by
 have up: ∀ (q:Int→Bool),(∀ a b,0≤a→a≤b→b<86400001→q a=true→q b=true)→fp q 86400001≤x→q x=true:=fun q hq hx=>by
  have hb:=ig (p:=q) (n:=86400001)
  exact hq _ _ hb.1 hx h1 (zH om)
 refine ⟨uK h0,up _ fun a b ha A hb hq=>?_,uK h0,up _ fun a b ha A hb hq=>?_⟩
 ·have:=n7 h ha A om
  simp only [fX,decide_eq_true_eq] at hq ⊢; omega
 ·have:=n7 h ha A om
  simp only [fY,decide_eq_true_eq] at hq ⊢; omega
theorem xh {l:aX} {s:aM} {b:bB} {c:av} (hb:l.ae[s.gf.toNat]? =some b) (hc:l.aj[b.jG.toNat]? =some c):pN l s=c:=by
 unfold pN; rw [hb]; simp only [Option.bind_some]; rw [hc]; rfl
end
section
def mG (sg:List aM) (i:Nat):aM:=if i=0 then ⟨-1,0⟩ else (sg[i-1]?).getD ⟨-1,0⟩
theorem po {sg:List aM} {i:Nat} {s:aM} (h:sg[i]? =some s):mG sg (i+1)=s:=by unfold mG; rw [if_neg om,Nat.add_sub_cancel,h]; rfl
def lf (l:aX) (s:aM):Prop:=(0≤s.gf∧s.gf≤(l.ae.length:Int)-1)∧0≤s.Read∧s.Read≤86400000
def j5 (l:aX) (sg:List aM) (i:Nat) (s:aM):Prop:=lf l s∧ ¬ s.gf<(mG sg i).gf∧ ¬ (s.gf=(mG sg i).gf∧s.Read≤(mG sg i).Read)
def qJ (l:aX) (sg:List aM) (i:Nat):Prop:= ∀ (j:Nat) s,j<i→sg[j]? =some s→j5 l sg j s
structure ff (l:aX) (r:cx):Prop where
 time:0≤r.Start∧r.Start≤r.f_∧r.f_≤86400000
 len:r.ah.length≤10
 sig: ∀ (i:Nat) s,r.ah[i]? =some s→j5 l r.ah i s
noncomputable instance (l:aX) (r:cx):Decidable (ff l r):=Classical.propDecidable _
theorem zy {l:aX} {sg:List aM}:qJ l sg 0:=fun j s hj=>absurd hj (Nat.not_lt_zero _)
theorem lI {l:aX} {sg:List aM} {i:Nat} {s:aM} (h:qJ l sg i) (hs:sg[i]? =some s) (ho:j5 l sg i s):qJ l sg (i+1):=fun j z hj hz=>by
 rcases Nat.lt_or_ge j i with q|q
 ·exact h j z q hz
 ·obtain rfl:j=i:=by omega
  rw [hs] at hz; cases hz; exact ho
theorem Co {l:aX} {r:cx} {i:Nat} (h1:0≤r.Start∧r.Start≤r.f_∧r.f_≤86400000) (h2:r.ah.length≤10) (h:qJ l r.ah i) (hi:r.ah.length≤i):ff l r:=
 ⟨h1,h2,fun j s hs=>h j s (by have:=(List.getElem?_eq_some_iff.1 hs).1; omega) hs⟩
noncomputable def nD (l:aX) (sg:List aM) (b k:Nat):Option (Int×aa):=(sg[k]?).bind fun s=>if s.gf=(b:Int)∧(cz l s).Lo≤(cz l s).Hi then some ((k:Int),cz l s) else none
noncomputable def kG (l:aX) (sg:List aM) (i b:Nat):TM:=(List.range i).filterMap (nD l sg b)
noncomputable def dT (l:aX) (sg:List aM) (i:Nat):List TM:=(List.range l.ae.length).map (kG l sg i)
noncomputable def cG (l:aX) (n:Nat):List Int:=(List.range n).map (dR l)
theorem uX {l:aX} {n:Nat}:cG l (n+1)=cG l n++[dR l n]:=by simp [cG,List.range_succ]
theorem dW {l:aX} {n:Nat}:(cG l n).length=n:=by simp [cG]
theorem jg {l:aX} {sg:List aM} {i:Nat}:(dT l sg i).length=l.ae.length:=by simp [dT]
theorem oK {l:aX} {sg:List aM} {i b:Nat} (h:b<l.ae.length):(dT l sg i)[b]? =some (kG l sg i b):=by simp [dT,h]
theorem pI {l:aX} {sg:List aM} {b k:Nat} {q:Int×aa}:nD l sg b k=some q↔ ∃ s,sg[k]? =some s∧(s.gf=(b:Int)∧(cz l s).Lo≤(cz l s).Hi)∧q=((k:Int),cz l s):=by
 unfold nD
 cases h:sg[k]? with
 |none=>simp
 |some s=>
  simp only [Option.bind_some,Option.some.injEq]
  by_cases e:s.gf=(b:Int)∧(cz l s).Lo≤(cz l s).Hi
  ·rw [if_pos e]
   constructor
   ·intro h; cases h; exact ⟨s,rfl,e,rfl⟩
   ·rintro ⟨s',rfl,_,rfl⟩; rfl
  ·rw [if_neg e]
   constructor
   ·intro h; cases h
   ·rintro ⟨s',rfl,e',_⟩; exact absurd e' e
theorem rX {l:aX} {sg:List aM} {i b:Nat} {q:Int×aa}:q∈kG l sg i b↔ ∃ k,k<i∧ ∃ s,sg[k]? =some s∧(s.gf=(b:Int)∧(cz l s).Lo≤(cz l s).Hi)∧q=((k:Int),cz l s):=by
 unfold kG
 simp only [List.mem_filterMap,List.mem_range,pI]
theorem kR {l:aX} {sg:List aM} {i b:Nat}:kG l sg (i+1) b=kG l sg i b++(nD l sg b i).toList:=by
 unfold kG
 rw [List.range_succ,List.filterMap_append]
 congr 1
theorem Ek {l:aX} {sg:List aM}:dT l sg 0=List.replicate l.ae.length []:=by
 unfold dT
 rw [List.eq_replicate_iff]
 refine ⟨sm,fun t ht=>?_⟩
 obtain ⟨b,_,rfl⟩:=List.mem_map.1 ht
 rfl
theorem xw {l:aX} {sg:List aM} {i:Nat} {s:aM} (hs:sg[i]? =some s) (h: ¬ (cz l s).Lo≤(cz l s).Hi):dT l sg (i+1)=dT l sg i:=by
 unfold dT
 apply List.map_congr_left
 intro b _
 rw [kR]
 have:nD l sg b i=none:=by
  cases e:nD l sg b i with
  |none=>rfl
  |some q=>obtain ⟨s',A,⟨_,B⟩,_⟩:=pI.1 e; rw [hs] at A; cases A; exact absurd B h
 rw [this]; simp
theorem yF {l:aX} {sg:List aM} {i:Nat} {s:aM} (hs:sg[i]? =some s) (hb:0≤s.gf∧s.gf≤(l.ae.length:Int)-1) (h:(cz l s).Lo≤(cz l s).Hi) {x:TM} (hx:(dT l sg i)[s.gf.toNat]? =some x):
 (dT l sg i).set s.gf.toNat (ew x (i:Int) (cz l s))=dT l sg (i+1):=by
 have A:s.gf.toNat<l.ae.length:=by omega
 rw [oK A] at hx
 cases hx
 have B:ew (kG l sg i s.gf.toNat) (i:Int) (cz l s)=kG l sg (i+1) s.gf.toNat:=by
  have hn:(kG l sg i s.gf.toNat).lookup (i:Int)=none:=g5.2 fun p hp e=>by
   obtain ⟨k,hk,_,_,_,rfl⟩:=rX.1 hp
   simp only at e; omega
  have ho:nD l sg s.gf.toNat i=some ((i:Int),cz l s):=pI.2 ⟨s,hs,⟨om,h⟩,rfl⟩
  rw [kR,ho]
  unfold ew; rw [hn]; rfl
 rw [B]
 apply List.ext_getElem?
 intro b
 rw [List.getElem?_set]
 by_cases e:s.gf.toNat=b
 ·rw [if_pos e,jg,← e,if_pos A,oK A]
 ·rw [if_neg e]
  by_cases hb':b<l.ae.length
  ·rw [oK hb',oK hb',kR]
   have:nD l sg b i=none:=by
    cases e2:nD l sg b i with
    |none=>rfl
    |some q=>obtain ⟨s',C,⟨D,_⟩,_⟩:=pI.1 e2; rw [hs] at C; cases C; exact absurd om e
   rw [this]; simp
  ·rw [List.getElem?_eq_none (by rw [jg]; omega),List.getElem?_eq_none (by rw [jg]; omega)]
noncomputable def ck (l:aX) (r:cx):bO:=⟨r.Start,r.f_,cG l l.ae.length,dT l r.ah r.ah.length,l.cQ,l.eM,(r.ah.length:Int)⟩
theorem Js {l:aX} (ht:cT l.aN=true) (h:kW l) {i:Nat} (hi:i<l.ae.length):1≤dR l i∧dR l i≤500000000:=by
 have A:=FV ht h.vy i
 have B:=h.Q0 i hi
 have C:=h.head.1
 unfold dR o7
 refine ⟨(Int.le_ediv_iff_mul_le om).2 om,?_⟩
 have:(1000*lX l i+l.gT-1)/l.gT≤1000*lX l i+l.gT-1:=Int.ediv_le_self _ om
 omega
theorem NN (l:aX) (s:aM):0≤(cz l s).Lo∧(cz l s).Hi≤86400000:=by
 have A:=ig (p:=fX (pN l s) s.Read) (n:=86400001)
 have B:=ig (p:=fY (pN l s) s.Read) (n:=86400001)
 unfold cz qf
 simp only
 omega
theorem oM {l:aX} {r:cx} (ht:cT l.aN=true) (h:kW l) (hr:ff l r):H7 (ck l r):=by
 have hh:=h.head
 unfold gl at hh
 refine ⟨?_,by simp [ck,jg,bO.n,dW],hr.time,fun x hx=>?_,fun t A p hp=>?_⟩
 ·show (cG l l.ae.length).length≤6
  rw [dW]; omega
 ·obtain ⟨i,hi,rfl⟩:=List.mem_map.1 hx
  exact Js ht h (List.mem_range.1 hi)
 ·obtain ⟨b,hb,rfl⟩:=List.mem_map.1 A
  obtain ⟨k,hk,s,hs,⟨_,B⟩,rfl⟩:=rX.1 hp
  have C:=NN l s
  have D:=hr.len
  simp only
  omega
noncomputable def eA (l:aX) (r:cx) (me:Int):Int:=if dp l=0 then (if ff l r then (if me=0 then (if jy (ck l r)=[] then 8 else 0) else me) else 51) else dp l
theorem nV {l:aX} {r:cx} {me:Int} (h: ¬ dp l=0):eA l r me=dp l:=if_neg h
theorem jd {l:aX} {r:cx} {me:Int} (h:dp l=0) (h2: ¬ ff l r):eA l r me=51:=by unfold eA; rw [if_pos h,if_neg h2]
theorem qp {l:aX} {r:cx} {me:Int} (h:dp l=0) (h2:ff l r) (h3: ¬ me=0):eA l r me=me:=by unfold eA; rw [if_pos h,if_pos h2,if_neg h3]
theorem pM {l:aX} {r:cx} {me:Int} (h:dp l=0) (h2:ff l r) (h3:me=0) (h4:jy (ck l r)=[]):eA l r me=8:=by unfold eA; rw [if_pos h,if_pos h2,if_pos h3,if_pos h4]
theorem lR {l:aX} {r:cx} {me:Int} (h:dp l=0) (h2:ff l r) (h3:me=0) (h4: ¬ jy (ck l r)=[]):eA l r me=0:=by unfold eA; rw [if_pos h,if_pos h2,if_pos h3,if_neg h4]
theorem jH {l:aX} {r:cx} {me:Int} (h:eA l r me=0):dp l=0∧ff l r∧me=0∧ ¬ jy (ck l r)=[]:=by
 unfold eA at h
 split at h
 ·split at h
  ·split at h
   ·split at h
    ·omega
    ·exact ⟨asm,asm,asm,asm⟩
   ·omega
  ·omega
 ·omega
end
section
def wF (l:List Int):Int:=(l.drop 1).foldl min (l.headD 0)
def Eg (l:List Int):Int:=(l.drop 1).foldl max (l.headD 0)
theorem BU: ∀ (l:List Int) (a:Int),(l.foldl min a=a∨l.foldl min a∈l)∧l.foldl min a≤a∧ ∀ x∈l,l.foldl min a≤x
 |[],a=>⟨.inl rfl,sm,sm⟩
 |y::l,a=>by
  obtain ⟨A,C,B⟩:=BU l (min a y)
  simp only [List.foldl_cons]
  refine ⟨?_,om,?_⟩
  ·rcases A with A|A
   ·rw [A]
    rcases Int.le_total a y with q|q
    ·left; omega
    ·right; rw [show min a y=y by omega]; simp
   ·right; exact cS _ A
  ·intro x hx
   rcases List.mem_cons.1 hx with rfl|hx
   ·omega
   ·exact B x hx
theorem CQ: ∀ (l:List Int) (a:Int),(l.foldl max a=a∨l.foldl max a∈l)∧a≤l.foldl max a∧ ∀ x∈l,x≤l.foldl max a
 |[],a=>⟨.inl rfl,sm,sm⟩
 |y::l,a=>by
  obtain ⟨A,C,B⟩:=CQ l (max a y)
  simp only [List.foldl_cons]
  refine ⟨?_,om,?_⟩
  ·rcases A with A|A
   ·rw [A]
    rcases Int.le_total a y with q|q
    ·right; rw [show max a y=y by omega]; simp
    ·left; omega
   ·right; exact cS _ A
  ·intro x hx
   rcases List.mem_cons.1 hx with rfl|hx
   ·omega
   ·exact B x hx
theorem Gq {l:List Int} (h:l≠[]):wF l∈l∧ ∀ x∈l,wF l≤x:=by
 cases l with
 |nil=>exact absurd rfl h
 |cons y ys=>
  obtain ⟨A,B,C⟩:=BU ys y
  refine ⟨?_,fun x hx=>?_⟩
  ·rcases A with A|A
   ·simp [wF,A]
   ·exact cS _ (by simpa [wF] using A)
  ·rcases List.mem_cons.1 hx with rfl|hx
   ·simpa [wF] using B
   ·simpa [wF] using C x hx
theorem OE {l:List Int} (h:l≠[]):Eg l∈l∧ ∀ x∈l,x≤Eg l:=by
 cases l with
 |nil=>exact absurd rfl h
 |cons y ys=>
  obtain ⟨A,B,C⟩:=CQ ys y
  refine ⟨?_,fun x hx=>?_⟩
  ·rcases A with A|A
   ·simp [Eg,A]
   ·exact cS _ (by simpa [Eg] using A)
  ·rcases List.mem_cons.1 hx with rfl|hx
   ·simpa [Eg] using B
   ·simpa [Eg] using C x hx
noncomputable def kX (l:aX) (r:cx):List Int:=if eA l r 0=0 then jy (ck l r) else []
theorem lT {l:aX} {r:cx} (h:eA l r 0=0):kX l r=jy (ck l r):=if_pos h
theorem uD {l:aX} {r:cx} (h: ¬ eA l r 0=0):kX l r=[]:=if_neg h
theorem uM {l:aX} {r:cx} (h:eA l r 0=0):kX l r≠[]:=by rw [lT h]; exact (jH h).2.2.2
noncomputable def Ey (l:aX) (r:cx):Int:=if eA l r 0=0 then (if l.cu<wF (kX l r) then 2 else if Eg (kX l r)≤l.cu then 0 else 1) else 0
noncomputable def ju (l:aX) (b:Int):Int:=if 0≤b∧b≤(l.ae.length:Int)-1 then 0 else 2
theorem wJ {l:aX} {b:Int} (h:0≤b∧b≤(l.ae.length:Int)-1):ju l b=0:=if_pos h
theorem DO {l:aX} {b:Int} (h:ju l b=0):0≤b∧b≤(l.ae.length:Int)-1:=by
 unfold ju at h
 split at h
 ·assumption
 ·omega
noncomputable def mm (l:aX) (r:cx) (b:Nat):aa:=u7 (mg (ck l r) b)
noncomputable def eP (l:aX) (r:cx) (b:Int):Int:=if eA l r (ju l b)=0 then (if mm l r b.toNat=l6 then 6 else 0) else eA l r (ju l b)
noncomputable def eZ (l:aX) (r:cx) (b:Int):aa:=if eP l r b=0 then mm l r b.toNat else dv
theorem nm {l:aX} {r:cx} {b:Int} (h: ¬ eA l r (ju l b)=0):eP l r b=eA l r (ju l b)∧eZ l r b=dv:=by
 have e:eP l r b=eA l r (ju l b):=if_neg h
 exact ⟨e,by unfold eZ; rw [if_neg (by rw [e]; exact h)]⟩
theorem qt {l:aX} {r:cx} {b:Nat} (h:eA l r (ju l b)=0) (h2:mm l r b=l6):eP l r b=6∧eZ l r b=dv:=by
 have e:eP l r b=6:=by unfold eP; rw [if_pos h,Int.toNat_natCast,if_pos h2]
 exact ⟨e,by unfold eZ; rw [if_neg (by rw [e]; omega)]⟩
theorem nT {l:aX} {r:cx} {b:Nat} (h:eA l r (ju l b)=0) (h2: ¬ mm l r b=l6):eP l r b=0∧eZ l r b=mm l r b:=by
 have e:eP l r b=0:=by unfold eP; rw [if_pos h,Int.toNat_natCast,if_neg h2]
 exact ⟨e,by unfold eZ; rw [if_pos e,Int.toNat_natCast]⟩
theorem JA {w:bO} (h:H7 w) {b:Nat} {q:Int×aa} (hq:q∈mg w b):0≤q.2.Lo∧q.2.Lo≤q.2.Hi∧q.2.Hi≤86400000:=by
 have A:=mK hq
 obtain ⟨o,ho,p,hp,u,hu,e⟩:=hO.1 hq
 obtain ⟨_,_,rfl⟩:=jl.1 e
 have B:=h.opt ho
 simp only [jm] at A ⊢
 omega
theorem wj {l:aX} {r:cx} {b:Int} (h:eP l r b=0):0≤(eZ l r b).Lo∧(eZ l r b).Lo≤(eZ l r b).Hi∧(eZ l r b).Hi≤86400000:=by
 have ho:eA l r (ju l b)=0:=by
  by_cases e:eA l r (ju l b)=0
  ·exact e
  ·rw [(nm e).1] at h; exact absurd h e
 obtain ⟨B,C,_⟩:=jH ho
 obtain ⟨ht,A⟩:=gH B
 have hw:=oM ht A C
 have hv:eZ l r b=mm l r b.toNat:=by unfold eZ; rw [if_pos h]
 have hn:mm l r b.toNat≠l6:=fun e=>by unfold eP at h; rw [if_pos ho,if_pos e] at h; omega
 have hh:=uR (l:=mg (ck l r) b.toNat) fun q hq=>mK hq
 rw [hv]
 unfold mm at hn ⊢
 rcases hh with ⟨_,e⟩|hh
 ·exact absurd e hn
 ·obtain ⟨x,hx,ex⟩:=hh.lo
  obtain ⟨y,hy,ey⟩:=hh.hi
  have:=JA hw hx
  have:=JA hw hy
  have:=hh.le
  omega
noncomputable def zP (l:aX) (r:cx):aa:=if eP l r l.cu=0 then ⟨(eZ l r l.cu).Lo-r.Start,(eZ l r l.cu).Hi-r.Start⟩ else dv
theorem Ad {l:aX} {r:cx} (h:eP l r l.cu=0):zP l r=⟨(eZ l r l.cu).Lo-r.Start,(eZ l r l.cu).Hi-r.Start⟩:=if_pos h
theorem Es {l:aX} {r:cx} (h: ¬ eP l r l.cu=0):zP l r=dv:=if_neg h
theorem u6 {l:aX} {r:cx} {b:Int} (h:eP l r b=0):ff l r:=by
 by_cases e:eA l r (ju l b)=0
 ·exact (jH e).2.1
 ·rw [(nm e).1] at h; exact absurd h e
theorem zf {k:List (Int×aa)} {h:aa} {q:Int×aa} {z:aa} (hh:j8 k h) (hq:q.2.Lo≤q.2.Hi) (hz:mo h q.2=z):j8 (k++[q]) z:=by subst hz; exact ub hh hq
end
section
set_option maxRecDepth 20000
def S4:al:=⟨1,⟨10000,10200⟩,⟨0,100⟩,⟨0,0⟩,0,0⟩
def yj:av:=⟨100,[⟨0,⟨0,2⟩⟩,⟨100000,⟨5,6⟩⟩]⟩
def Q5 (o:Int):bB:=⟨⟨0,⟨o,o⟩⟩,0⟩
def nO (f:Int):aX:=⟨[S4],2000,[yj],[Q5 1000,Q5 4000,Q5 9000],1,f,1⟩
def mD:cx:=⟨10000,20000,[⟨0,10600⟩,⟨0,11000⟩,⟨1,12600⟩]⟩
theorem J_:cT [S4]=true:=by decide
theorem wv:eY yj:=by
 have hi: ∀ (i:Nat) (x:cw),yj.br[i]? =some x→i=0∧x=⟨0,⟨0,2⟩⟩∨i=1∧x=⟨100000,⟨5,6⟩⟩:=fun i x h=>by
  match i with
  |0=>left; simp [yj] at h; exact ⟨rfl,h.symm⟩
  |1=>right; simp [yj] at h; exact ⟨rfl,h.symm⟩
  |n+2=>simp [yj] at h
 refine ⟨dc,dc,fun i x hx=>?_,fun i k x o hx hk ho=>?_⟩
 ·rcases hi i x hx with ⟨rfl,rfl⟩|⟨rfl,rfl⟩<;>(unfold fm; decide)
 ·rcases hi i x hx with ⟨rfl,rfl⟩|⟨rfl,rfl⟩
  ·omega
  ·rcases hi k o ho with ⟨rfl,rfl⟩|⟨rfl,rfl⟩
   ·unfold nI; decide
   ·omega
theorem zO {o:Int} (h:0≤o∧o<10000):fj [S4] ⟨0,⟨o,o⟩⟩:=⟨sm,S4,rfl,by show o≤o∧0≤o∧o≤10000-1; omega⟩
theorem Ow {f:Int} (hf:0≤f∧f≤3):kW (nO f):=by
 refine ⟨?_,fun c hc=>?_,fun b hb=>?_,fun i hi=>?_⟩
 ·unfold gl; simp [nO]; omega
 ·simp [nO] at hc; subst hc; exact wv
 ·simp [nO] at hb
  rcases hb with rfl|rfl|rfl
  ·exact ⟨zO om,by simp [Q5,nO]⟩
  ·exact ⟨zO om,by simp [Q5,nO]⟩
  ·exact ⟨zO om,by simp [Q5,nO]⟩
 ·have A:i<3:=hi
  have:i=0∨i=1∨i=2:=by omega
  rcases this with rfl|rfl|rfl
  ·show (1:Int)≤lX (nO 0) 0; decide
  ·show (1:Int)≤lX (nO 0) 1; decide
  ·show (1:Int)≤lX (nO 0) 2; decide
def mN:aX:=nO 1
theorem O7:dp mN=0:=xA J_ (Ow om)
theorem Ae {r x:Int} (h0:0<x) (h1:x≤86400000) (hy:fX yj r x=true) (hn:fX yj r (x-1)=false):fp (fX yj r) 86400001=x:=
 yK om om hy fun z hz A=>by
  cases e:fX yj r z with
  |false=>rfl
  |true=>
   unfold fX at e hn
   have:=(n7 wv hz (show z≤x-1 by omega) om).2
   have B:=of_decide_eq_true e
   have C:=of_decide_eq_false hn
   omega
theorem zT {r x:Int} (h0:0<x) (h1:x≤86400000) (hy:fY yj r x=true) (hn:fY yj r (x-1)=false):fp (fY yj r) 86400001=x:=
 yK om om hy fun z hz A=>by
  cases e:fY yj r z with
  |false=>rfl
  |true=>
   unfold fY at e hn
   have:=(n7 wv hz (show z≤x-1 by omega) om).1
   have B:=of_decide_eq_true e
   have C:=of_decide_eq_false hn
   omega
theorem Tl:qf yj 10600=⟨10596,10602⟩:=by unfold qf; rw [Ae (x:=10596) om om dc dc,zT (x:=10603) om om dc dc]; rfl
theorem RX:qf yj 11000=⟨10996,11002⟩:=by unfold qf; rw [Ae (x:=10996) om om dc dc,zT (x:=11003) om om dc dc]; rfl
theorem Ss:qf yj 12600=⟨12596,12602⟩:=by unfold qf; rw [Ae (x:=12596) om om dc dc,zT (x:=12603) om om dc dc]; rfl
def RO (f:Int):bO:=⟨10000,20000,[500,1500,2500],[[(0,⟨10596,10602⟩),(1,⟨10996,11002⟩)],[(2,⟨12596,12602⟩)],[]],1,f,3⟩
theorem TB (f:Int):cz (nO f) ⟨0,10600⟩=⟨10596,10602⟩:=Tl
theorem RI (f:Int):cz (nO f) ⟨0,11000⟩=⟨10996,11002⟩:=RX
theorem Tu (f:Int):cz (nO f) ⟨1,12600⟩=⟨12596,12602⟩:=Ss
theorem KE (f:Int):dT (nO f) mD.ah 3=[[(0,⟨10596,10602⟩),(1,⟨10996,11002⟩)],[(2,⟨12596,12602⟩)],[]]:=by
 have o: ∀ b:Nat,kG (nO f) mD.ah 3 b=(nD (nO f) mD.ah b 0).toList++((nD (nO f) mD.ah b 1).toList++(nD (nO f) mD.ah b 2).toList):=fun b=>by
  rw [kR,kR,kR]; simp [kG]
 have A: ∀ b:Nat,nD (nO f) mD.ah b 0=if (0:Int)=(b:Int) then some (0,⟨10596,10602⟩) else none:=fun b=>by
  show (if (0:Int)=(b:Int)∧(cz (nO f) ⟨0,10600⟩).Lo≤(cz (nO f) ⟨0,10600⟩).Hi then some ((0:Int),cz (nO f) ⟨0,10600⟩) else none)=_
  rw [TB]; by_cases h:(0:Int)=(b:Int)
  ·rw [if_pos h,if_pos ⟨h,dc⟩]<;>rfl
  ·rw [if_neg h,if_neg fun q=>h q.1]
 have B: ∀ b:Nat,nD (nO f) mD.ah b 1=if (0:Int)=(b:Int) then some (1,⟨10996,11002⟩) else none:=fun b=>by
  show (if (0:Int)=(b:Int)∧(cz (nO f) ⟨0,11000⟩).Lo≤(cz (nO f) ⟨0,11000⟩).Hi then some ((1:Int),cz (nO f) ⟨0,11000⟩) else none)=_
  rw [RI]; by_cases h:(0:Int)=(b:Int)
  ·rw [if_pos h,if_pos ⟨h,dc⟩]<;>rfl
  ·rw [if_neg h,if_neg fun q=>h q.1]
 have C: ∀ b:Nat,nD (nO f) mD.ah b 2=if (1:Int)=(b:Int) then some (2,⟨12596,12602⟩) else none:=fun b=>by
  show (if (1:Int)=(b:Int)∧(cz (nO f) ⟨1,12600⟩).Lo≤(cz (nO f) ⟨1,12600⟩).Hi then some ((2:Int),cz (nO f) ⟨1,12600⟩) else none)=_
  rw [Tu]; by_cases h:(1:Int)=(b:Int)
  ·rw [if_pos h,if_pos ⟨h,dc⟩]<;>rfl
  ·rw [if_neg h,if_neg fun q=>h q.1]
 show [kG (nO f) mD.ah 3 0,kG (nO f) mD.ah 3 1,kG (nO f) mD.ah 3 2]=_
 rw [o,o,o,A,A,A,B,B,B,C,C,C]
 rfl
theorem CN (f:Int):ck (nO f) mD=RO f:=by
 unfold ck RO
 rw [show mD.ah.length=3 from rfl,KE]
 rfl
theorem Ol (f:Int):ff (nO f) mD:=by
 refine ⟨dc,dc,fun i s hs=>?_⟩
 match i with
 |0=>simp [mD] at hs; subst hs; unfold j5 lf; simp [nO,mG]
 |1=>simp [mD] at hs; subst hs; unfold j5 lf; simp [nO,mG,mD]
 |2=>simp [mD] at hs; subst hs; unfold j5 lf; simp [nO,mG,mD]
 |n+3=>simp [mD] at hs
theorem JK:jy (ck mN mD)=[2,3]:=by rw [show ck mN mD=RO 1 from CN 1]; decide
theorem I4:eA mN mD 0=0:=lR O7 (Ol 1) rfl (by rw [JK]; decide)
theorem LU {b:Nat} (hb:b<3):eA mN mD (ju mN b)=0:=by rw [wJ (by show 0≤(b:Int)∧(b:Int)≤3-1; omega)]; exact I4
theorem NF {b:Nat} {z:aa} (hb:b<3) (hz:u7 (mg (RO 1) b)=z) (hn:z≠l6):eP mN mD b=0∧eZ mN mD b=z:=by
 have e:mm mN mD b=z:=by unfold mm; rw [show ck mN mD=RO 1 from CN 1]; exact hz
 have h:=nT (LU hb) (by rw [e]; exact hn)
 exact ⟨h.1,h.2.trans e⟩
theorem xT:eP mN mD 1=0∧eZ mN mD 1=⟨12596,12602⟩:=NF (b:=1) om dc dc
theorem Dy:eP mN mD mN.cu=0∧zP mN mD=⟨2596,2602⟩:=by
 refine ⟨xT.1,?_⟩
 rw [Ad (l:=mN) (r:=mD) xT.1]
 rw [show eZ mN mD mN.cu=⟨12596,12602⟩ from xT.2]
 rfl
theorem Rh (f:Int) {a:OA} {c:Nat} (hc:2≤c):eu (nO f) [(a,c)]:=by
 refine ⟨by simp [nO],?_,by simp [nO],U,by simp [nO],fun k m a' hm ha=>?_⟩
 ·intro x hx; simp [nO] at hx; subst hx; simp [S4]
 ·match k with
  |0=>simp [nO] at hm ha; subst hm; subst ha; simp [yj]; exact hc
  |n+1=>simp at ha
end
section
def mF (l:aX):Prop:=(20<(l.aN.length:Int)∨8<(l.aj.length:Int)∨10<(l.ae.length:Int))∨ ∃ c∈l.aj,10<(c.br.length:Int)
noncomputable instance (l:aX):Decidable (mF l):=Classical.propDecidable _
/-- what is asked of a line that comes in -/
structure th (l:aX) (az:List RA):Prop where
 sM:l.aN.length≤9223372036854775807
 side: ∀ x∈l.aN,0≤x.iX∧x.iX≤255
 sO:l.aj.length≤9223372036854775807
 oq:az.length=l.aj.length
 sN:l.ae.length≤9223372036854775807
 QZ: ∀ (k:Nat) m (a:RA),l.aj[k]? =some m→az[k]? =some a→m.br.length≤a.2∧m.br.length≤9223372036854775807
def AB (l:aX) (i:Nat):Prop:= ∀ (j:Nat) c,j<i→l.aj[j]? =some c→(c.br.length:Int)≤10
theorem JG {l:aX} {i:Nat} (h: ¬ (20<(l.aN.length:Int))∧ ¬ (8<(l.aj.length:Int))∧ ¬ (10<(l.ae.length:Int))) (hi:l.aj.length≤i) (hs:AB l i): ¬ mF l:=by
 rintro (A|⟨c,hc,B⟩)
 ·omega
 ·obtain ⟨k,hk⟩:=List.getElem?_of_mem hc
  have:=hs k c (by have:=(List.getElem?_eq_some_iff.1 hk).1; omega) hk
  omega
theorem Ix {l:aX} {i:Nat} {c:av} (hc:l.aj[i]? =some c) (h:10<(c.br.length:Int)):mF l:= .inr ⟨c,aT hc,h⟩
theorem kN {α:Type} {l:List α} {P:Nat→α→Prop} {i:Nat} {x:α} (h: ∀ (j:Nat) y,j<i→l[j]? =some y→P j y) (hx:l[i]? =some x) (hp:P i x): ∀ (j:Nat) y,j<i+1→l[j]? =some y→P j y:=fun j y hj hy=>by
 by_cases e:j=i
 ·subst e; rw [hx] at hy; cases hy; exact hp
 ·exact h j y om hy
theorem wu {α:Type} {l:List α} {P:Nat→α→Prop} {i:Nat} (hi:l.length≤i) (h: ∀ (j:Nat) y,j<i→l[j]? =some y→P j y): ∀ (j:Nat) y,l[j]? =some y→P j y:=fun j y hy=>h j y (by have:=(List.getElem?_eq_some_iff.1 hy).1; omega) hy
theorem qd {α:Type} {l:List α} {P:α→Prop} {i:Nat} (hi:l.length≤i) (h: ∀ (j:Nat) y,j<i→l[j]? =some y→P y): ∀ y∈l,P y:=fun y hy=>by
 obtain ⟨k,hk⟩:=List.getElem?_of_mem hy
 exact wu (P:=fun _ y=>P y) hi h k y hk
theorem LD {l:aX} (h: ¬ mF l):(l.aN.length:Int)≤20∧(l.aj.length:Int)≤8∧(l.ae.length:Int)≤10∧ ∀ c∈l.aj,(c.br.length:Int)≤10:=by
 unfold mF at h
 rw [not_or] at h
 refine ⟨om,om,om,fun c hc=>?_⟩
 have:=h.2
 rcases Int.lt_or_le 10 (c.br.length:Int) with q|q
 ·exact absurd ⟨c,hc,q⟩ this
 ·exact q
theorem th.small {l:aX} {az:List RA} (h:th l az) (hg: ¬ mF l):eu l az:=by
 have A:=LD hg
 exact ⟨om,h.side,om,h.oq,om,fun k m a hm ha=>⟨(h.QZ k m a hm ha).1,by have:=A.2.2.2 m (aT hm); omega⟩⟩
def Gb (c:av) (x:cw) (k:Nat):Prop:= ∀ (j:Nat) o,j<k→c.br[j]? =some o→nI c x o
def tQ (c:av) (m:Nat):Prop:= ∀ (i:Nat) x,i<m→c.br[i]? =some x→Gb c x i
theorem Lm {c:av} {m:Nat} (h1:0≤c.de∧c.de≤1000) (h2:1≤c.br.length∧c.br.length≤5) (hs: ∀ (i:Nat) x,c.br[i]? =some x→fm c i x) (hm:c.br.length≤m) (hp:tQ c m):eY c:=
 ⟨h1,h2,hs,fun i k x o hx hk ho=>hp i x (by have:=(List.getElem?_eq_some_iff.1 hx).1; omega) hx k o hk ho⟩
theorem DW {c:av} {m k:Nat} (h:tQ c m) (hk: ∀ y,c.br[m]? =some y→Gb c y k) (e:k=m):tQ c (m+1):=by
 subst e
 intro i x hi hx
 by_cases e:i=k
 ·subst e; exact hk x hx
 ·exact h i x om hx
noncomputable def ky (c:av) (at_:Int) (i:Nat):aa:=if i=0 then dv else gj c at_ i
theorem EK {c:av} {at_:Int} {i:Nat} (h:eY c) (hi:c.br.length≤i):ky c at_ i=ij c at_:=by
 have:=h.len
 unfold ky; rw [if_neg om,nJ hi]
theorem AS {c:av} {at_:Int} {i:Nat} {x:cw} (h:eY c) (ha:0≤at_∧at_≤90000000) (hx:c.br[i]? =some x) (hi:i=0):
 ky c at_ (i+1)=⟨max (x.ei.Lo-sB c at_ x) (x.ei.Lo-sB c at_ x),min (x.ei.Hi+sB c at_ x) (x.ei.Hi+sB c at_ x)⟩:=by
 subst hi
 have hb:=h.uy hx
 have ho:=uv h.rU ha hb.1
 unfold ky
 rw [if_neg om,jD hx]
 unfold lV gj
 simp only [List.take_zero,List.foldl_nil,aa.mk.injEq]
 omega
theorem BW {c:av} {at_:Int} {i:Nat} {x:cw} (hx:c.br[i]? =some x) (hi: ¬ i=0):ky c at_ (i+1)=⟨max (ky c at_ i).Lo (x.ei.Lo-sB c at_ x),min (ky c at_ i).Hi (x.ei.Hi+sB c at_ x)⟩:=by
 unfold ky
 rw [if_neg om,if_neg hi,jD hx]; rfl
def g6 (ts:List al) (n:Nat):List aa:=(List.range n).map fun k=>eD ts 0 k
theorem BY {ts:List al} {n:Nat}:g6 ts (n+1)=g6 ts n++[eD ts 0 n]:=by simp [g6,List.range_succ]
theorem oo {ts:List al} {n:Nat}:(g6 ts n).length=n:=by simp [g6]
theorem pJ {ts:List al} {n k:Nat} {x:aa} (h:(g6 ts n)[k]? =some x):x=eD ts 0 k:=by
 unfold g6 at h
 rw [fw] at h
 cases hk:(List.range n)[k]? with
 |none=>simp [hk] at h
 |some v=>
  have:=List.getElem?_eq_some_iff.1 hk
  simp at this
  simp [hk] at h
  rw [← h,← this.2]
theorem DH {ts:List al} {a b:cD} (h:b.aY<a.aY):jP ts a b=nY (jP ts b a):=by
 unfold jP
 rw [if_pos h,if_neg om]
 unfold xD
 rw [Int.min_comm b.aY a.aY,Int.max_comm b.aY a.aY]
 unfold nY l9
 simp only [aa.mk.injEq]
 omega
theorem qw {ts:List al} {a b:cD} (h: ¬ b.aY<a.aY):jP ts a b=l9 (l9 (eD ts a.aY.toNat (b.aY-a.aY).toNat) b.mB) (nY a.mB):=by
 unfold jP xD
 rw [if_neg h,Int.min_eq_left om,Int.max_eq_right om]
end
section
def im (m:List aw) (a:cM):List au:=rd a.1.1 m.length 7 (List.zipWith aw.cells m a.2)::aU aw.g0 m a.2
structure PX (h:List aw) (a:cM):Prop where
 len:h.length≤1000000
 oq:a.2.length=h.length
 sig: ∀ d∈h,d.ct.ah.length≤1000000
structure eW (r:bT) (az:List RA) (ha:List cM):Prop where
 line:eu r.an az
 iM:r.aK.length≤1000000
 draw:r.bL.length≤12
 iN:r.ar.length≤1000000
 has:ha.length=r.ar.length
 lq: ∀ (k:Nat) h (a:cM),r.ar[k]? =some h→ha[k]? =some a→PX h a
structure ru (r:bT) (az:List RA) (ha:List cM):Prop where
 line:th r.an az
 iM:r.aK.length≤9223372036854775807
 draw:r.bL.length≤9223372036854775807
 iN:r.ar.length≤9223372036854775807
 has:ha.length=r.ar.length
 lq: ∀ (k:Nat) h (a:cM),r.ar[k]? =some h→ha[k]? =some a→h.length≤9223372036854775807∧a.2.length=h.length∧ ∀ d∈h,d.ct.ah.length≤9223372036854775807
def oG (h:List aw):Prop:=8<(h.length:Int)∨ ∃ d∈h,15<(d.ct.ah.length:Int)
def ov (r:bT):Prop:=(mF r.an∨8<(r.aK.length:Int)∨8<(r.bL.length:Int)∨5<(r.ar.length:Int))∨ ∃ h∈r.ar,oG h
noncomputable instance (r:bT):Decidable (ov r):=Classical.propDecidable _
theorem Nd {r:bT} (h: ¬ ov r): ¬ mF r.an∧(r.aK.length:Int)≤8∧(r.bL.length:Int)≤8∧(r.ar.length:Int)≤5∧ ∀ h∈r.ar,(h.length:Int)≤8∧ ∀ d∈h,(d.ct.ah.length:Int)≤15:=by
 unfold ov at h
 obtain ⟨A,B⟩:=not_or.1 h
 obtain ⟨C,E⟩:=not_or.1 A
 refine ⟨C,om,om,om,fun x hx=>?_⟩
 have hn: ¬ oG x:=fun q=>B ⟨x,hx,q⟩
 obtain ⟨F,D⟩:=not_or.1 hn
 refine ⟨om,fun d hd=>?_⟩
 rcases Int.lt_or_le 15 (d.ct.ah.length:Int) with q|q
 ·exact absurd ⟨d,hd,q⟩ D
 ·exact q
theorem ru.small {r:bT} {az:List RA} {ha:List cM} (h:ru r az ha) (hg: ¬ ov r):eW r az ha:=by
 have B:=Nd hg
 refine ⟨h.line.small B.1,om,om,om,h.has,fun k x a hx A=>?_⟩
 have C:=B.2.2.2.2 x (aT hx)
 have D:=h.lq k x a hx A
 exact ⟨om,D.2.1,fun d hd=>by have:=C.2 d hd; omega⟩
def mj (r:cx):Prop:=r.Start=0∧r.f_=0∧(r.ah.length:Int)=0
instance (r:cx):Decidable (mj r):=by unfold mj; infer_instance
def iv (s:aa):Prop:=1≤s.Lo∧s.Lo≤s.Hi∧s.Hi≤600000
instance (s:aa):Decidable (iv s):=by unfold iv; infer_instance
def g7 (l:aX) (d:aw):Prop:=if d.Out=true then d.eK=false∧d.Time=dv∧mj d.ct else if d.eK=true then iv d.Time∧mj d.ct else eP l d.ct l.cu=0∧d.Time=dv
noncomputable instance (l:aX) (d:aw):Decidable (g7 l d):=Classical.propDecidable _
noncomputable def df (l:aX) (d:aw):aa:=if d.Out=true∨d.eK=true then d.Time else zP l d.ct
/-- which kind a descent is of -/
def oB (d:aw):Int:=if d.Out=true then 0 else if d.eK=true then 1 else 2
theorem NC {w:bO} (h:H7 w): ∀ (b:Nat) (p:aC×Int),p∈fwd w b→w.Start≤p.2:=by
 have hl: ∀ b,0≤bQ w b:=fun b=>by
  unfold bQ
  cases e:w.pX[b]? with
  |none=>simp
  |some x=>have:=h.least x (aT e); simp; omega
 intro b
 induction b with
 |zero=>intro p hp; simp only [fwd,bR] at hp; subst hp; exact Int.le_refl _
 |succ b ih=>
  intro q hq
  obtain ⟨p,hp,o,ho,e⟩:=fK.1 hq
  unfold kH at e
  split at e
  ·simp only [Option.some.injEq] at e
   subst e
   have:=ih p hp
   have:=hl b
   simp only; omega
  ·cases e
theorem Nc {l:aX} {r:cx} {b:Int} (h:eP l r b=0):r.Start≤(eZ l r b).Lo:=by
 have ho:eA l r (ju l b)=0:=by
  by_cases e:eA l r (ju l b)=0
  ·exact e
  ·rw [(nm e).1] at h; exact absurd h e
 obtain ⟨B,C,_⟩:=jH ho
 obtain ⟨ht,A⟩:=gH B
 have hw:=oM ht A C
 have hv:eZ l r b=mm l r b.toNat:=by unfold eZ; rw [if_pos h]
 have hn:mm l r b.toNat≠l6:=fun e=>by unfold eP at h; rw [if_pos ho,if_pos e] at h; omega
 have hh:=uR (l:=mg (ck l r) b.toNat) fun q hq=>mK hq
 rw [hv]
 unfold mm at hn ⊢
 rcases hh with ⟨_,e⟩|hh
 ·exact absurd e hn
 ·obtain ⟨x,hx,ex⟩:=hh.lo
  obtain ⟨o,ho,p,hp,u,hu,e⟩:=hO.1 hx
  obtain ⟨_,_,rfl⟩:=jl.1 e
  have D:r.Start≤p.2:=NC hw _ p hp
  have E:0≤bQ (ck l r) b.toNat:=by
   unfold bQ
   cases e:(ck l r).pX[b.toNat]? with
   |none=>simp
   |some x=>have:=hw.least x (aT e); simp; omega
  simp only [jm] at ex
  omega
theorem vU {l:aX} {d:aw} (h:g7 l d):0≤(df l d).Lo∧(df l d).Lo≤(df l d).Hi∧(df l d).Hi≤86400000:=by
 unfold g7 at h
 unfold df
 split at h
 ·rename_i q; rw [if_pos (Or.inl q),h.2.1]; simp [dv]
 ·rename_i q
  split at h
  ·rename_i A
   rw [if_pos (Or.inr A)]
   obtain ⟨⟨B,C,D⟩,_⟩:=h
   omega
  ·rename_i A
   rw [if_neg (fun z=>z.elim q A),Ad h.1]
   have B:=wj h.1
   have C:=(u6 h.1).time
   have D:=Nc h.1
   simp only
   omega
theorem FI {l:aX} {d:aw} (h:d.Out=true):df l d=d.Time:=if_pos (Or.inl h)
theorem vX {l:aX} {d:aw} (h:d.Out=false∧d.eK=true):df l d=d.Time:=if_pos (Or.inr h.2)
theorem v7 {l:aX} {d:aw} (h:d.Out=false∧d.eK=false):df l d=zP l d.ct:=if_neg (by simp [h])
theorem qh {l:aX} {d:aw} (h:d.Out=true):g7 l d=(d.eK=false∧d.Time=dv∧mj d.ct):=if_pos h
theorem tW {l:aX} {d:aw} (h:d.Out=false∧d.eK=true):g7 l d=(iv d.Time∧mj d.ct):=by unfold g7; rw [if_neg (by simp [h]),if_pos h.2]
theorem tF {l:aX} {d:aw} (h:d.Out=false∧d.eK=false):g7 l d=(eP l d.ct l.cu=0∧d.Time=dv):=by unfold g7; rw [if_neg (by simp [h]),if_neg (by simp [h])]
structure eV (r:bT):Prop where
 num:1≤(r.aK.length:Int)∧(r.aK.length:Int)≤5
 wR:0≤r.ik∧r.ik≤5
 nh:1≤(r.ar.length:Int)∧(r.ar.length:Int)≤3
 ids: ∀ (i:Nat) x,r.aK[i]? =some x→(0≤x∧x≤9999)∧ ∀ y,0<i→r.aK[i-1]? =some y→y<x
 draw:r.bL.Perm ((List.range r.aK.length).map fun (k:Nat)=>(k:Int))
 lq: ∀ h∈r.ar,h.length=r.aK.length∧ ∀ d∈h,g7 r.an d
noncomputable instance (r:bT):Decidable (eV r):=Classical.propDecidable _
noncomputable def cr (r:bT):Int:=if dp r.an=0 then (if eV r then 0 else 60) else dp r.an
end
section
theorem nk {α β:Type} {f g:α→Option β}: ∀ {l:List α},(∀ x∈l,f x=g x)→l.filterMap f=l.filterMap g
 |[],_=>rfl
 |x::l,h=>by simp only [List.filterMap_cons,h x cf,nk (l:=l) (fun y hy=>h y (cS _ hy))]
abbrev gF:=List (Int×aa)
/-- the sum of a sled in some heats, the first ones -/
noncomputable def eN (l:aX) (hs:List (List aw)) (i:Nat):Nat→Option aa
 |0=>some ⟨0,0⟩
 |k+1=>match eN l hs i k,(hs[k]?).bind (·[i]?) with
  |some s,some d=>if d.Out=true then none else some ⟨s.Lo+(df l d).Lo/10,s.Hi+(df l d).Hi/10⟩
  |_,_=>none
noncomputable def dY (l:aX) (hs:List (List aw)) (n h i:Nat):gF:=(List.range n).filterMap fun q=>(eN l hs q (if q<i then h+1 else h)).map fun s=>((q:Int),s)
noncomputable def eB (r:bT) (k:Nat):gF:=(List.range r.aK.length).filterMap fun q=>(eN r.an r.ar q k).map fun s=>((q:Int),s)
noncomputable def aA (r:bT):gF:=eB r r.ar.length
section
variable {l:aX} {hs:List (List aw)} {n h i q:Nat} {s:aa} {d:aw}
theorem CV:dY l hs n h 0=(List.range n).filterMap fun q=>(eN l hs q h).map fun s=>((q:Int),s):=by
 unfold dY
 apply nk
 intro q _
 rw [if_neg (Nat.not_lt_zero _)]
theorem Ot:dY l hs n h n=dY l hs n (h+1) 0:=by
 rw [CV]
 unfold dY
 apply nk
 intro q hq
 rw [if_pos (List.mem_range.1 hq)]
theorem HX {x:List aw} (hx:hs[h]? =some x) (hd:x[i]? =some d) (ho:d.Out=true):eN l hs i (h+1)=none:=by
 unfold eN
 rw [hx]
 simp only [Option.bind_some,hd]
 cases eN l hs i h with
 |none=>rfl
 |some s=>simp [ho]
theorem DG (h0:eN l hs i h=none):eN l hs i (h+1)=none:=by unfold eN; rw [h0]
theorem Du {x:List aw} (hx:hs[h]? =some x) (hd:x[i]? =some d) (ho: ¬ d.Out=true) (hs0:eN l hs i h=some s):eN l hs i (h+1)=some ⟨s.Lo+(df l d).Lo/10,s.Hi+(df l d).Hi/10⟩:=by
 unfold eN
 rw [hx,hs0]
 simp only [Option.bind_some,hd,if_neg ho]
end
section
variable {l:aX} {hs:List (List aw)} {n h i q:Nat} {s t:aa}
theorem QY {K β:Type} [DecidableEq K] {L Y:List (K×β)} {t:K}:(L++Y).lookup t=match L.lookup t with |some v=>some v|none=>Y.lookup t:=by
 induction L with
 |nil=>rfl
 |cons p L ih=>
  obtain ⟨k,u⟩:=p
  by_cases e:t==k
  ·simp [List.lookup,e]
  ·have:(t==k)=false:=by simpa using e
   simp only [List.cons_append,List.lookup,this,ih]
theorem o0 {f:Nat→Option aa}: ∀ (n i:Nat),((List.range n).filterMap fun q=>(f q).map fun s=>((q:Int),s)).lookup (i:Int)=if i<n then f i else none
 |0,i=>by simp
 |n+1,i=>by
  rw [List.range_succ,List.filterMap_append,QY,o0 n i]
  by_cases c:i<n
  ·rw [if_pos c,if_pos om]
   cases e:f i with
   |some s=>rfl
   |none=>
    simp only
    cases e2:f n with
    |none=>simp [e2]
    |some u=>
     have:((i:Int)==(n:Int))=false:=by simp only [beq_eq_false_iff_ne,ne_eq]; omega
     simp [e2,List.lookup,this]
  ·rw [if_neg c]
   simp only
   by_cases A:i=n
   ·subst A
    rw [if_pos om]
    cases e2:f i with
    |none=>simp [e2]
    |some u=>simp [e2]
   ·rw [if_neg om]
    have:((i:Int)==(n:Int))=false:=by simp only [beq_eq_false_iff_ne,ne_eq]; omega
    cases e2:f n with
    |none=>simp [e2]
    |some u=>simp [e2,List.lookup,this]
theorem wc:(dY l hs n h i).lookup (q:Int)=if q<n then eN l hs q (if q<i then h+1 else h) else none:=o0 n q
theorem P_ {f g:Nat→Option aa} {n i:Nat} (hi:i<n) {s:aa} (hf:(f i).isSome=true) (hg:g i=some s) (hfg: ∀ q,q≠i→f q=g q):ew ((List.range n).filterMap fun q=>(f q).map fun s=>((q:Int),s)) (i:Int) s=(List.range n).filterMap fun q=>(g q).map fun s=>((q:Int),s):=by
 unfold ew
 rw [if_pos (by rw [o0,if_pos hi]; exact hf),List.map_filterMap]
 apply nk
 intro q _
 by_cases e:q=i
 ·subst e
  obtain ⟨u,hu⟩:=Option.isSome_iff_exists.1 hf
  rw [hu,hg]; simp
 ·rw [hfg q e]
  cases g q with
  |none=>rfl
  |some u=>
   have: ¬ ((q:Int)=(i:Int)):=by omega
   simp [this]
theorem QK {f g:Nat→Option aa} {n i:Nat} (hg:g i=none) (hfg: ∀ q,q≠i→f q=g q):cj ((List.range n).filterMap fun q=>(f q).map fun s=>((q:Int),s)) (i:Int)=(List.range n).filterMap fun q=>(g q).map fun s=>((q:Int),s):=by
 unfold cj
 rw [List.filter_filterMap]
 apply nk
 intro q _
 by_cases e:q=i
 ·subst e
  rw [hg]
  cases f q with
  |none=>rfl
  |some u=>simp
 ·rw [hfg q e]
  cases g q with
  |none=>rfl
  |some u=>
   have: ¬ ((q:Int)=(i:Int)):=by omega
   simp [this]
theorem Nt (hi:i<n) (h0:(eN l hs i h).isSome=true) (h1:eN l hs i (h+1)=some s):ew (dY l hs n h i) (i:Int) s=dY l hs n h (i+1):=by
 unfold dY
 refine P_ hi (by rw [if_neg (Nat.lt_irrefl i)]; exact h0) (by rw [if_pos (Nat.lt_succ_self i)]; exact h1) fun q hq=>?_
 by_cases c:q<i
 ·rw [if_pos c,if_pos om]
 ·rw [if_neg c,if_neg om]
theorem Gm (h1:eN l hs i (h+1)=none):cj (dY l hs n h i) (i:Int)=dY l hs n h (i+1):=by
 unfold dY
 refine QK (by rw [if_pos (Nat.lt_succ_self i)]; exact h1) fun q hq=>?_
 by_cases c:q<i
 ·rw [if_pos c,if_pos om]
 ·rw [if_neg c,if_neg om]
end
theorem Ct {r:bT} {k i:Nat}:(eB r k).lookup (i:Int)=if i<r.aK.length then eN r.an r.ar i k else none:=o0 _ _
def mL (m:gF) (i:Int):gF:=m.filter fun p=> !decide (p.1=i)
def gW (m:gF) (i n:Int):Nat:=(mL m i).countP fun p=>decide (p.2.Hi<n)
def jX (m:gF) (i n:Int):Nat:=(mL m i).countP fun p=>decide (p.2.Lo<n)
def jx (m:gF) (i:Int) (own:aa):List Int:=own.Lo::((mL m i).flatMap fun p=>[p.2.Lo+1,p.2.Hi+1]).filter fun n=>decide (own.Lo≤n∧n≤own.Hi)
def sG (m:gF) (i:Int) (own:aa) (k:Int):Prop:= ∃ n∈jx m i own,(gW m i n:Int)+1≤k∧k≤(jX m i n:Int)+1
noncomputable instance (m:gF) (i:Int) (own:aa) (k:Int):Decidable (sG m i own k):=Classical.propDecidable _
noncomputable def dq (m:gF) (i:Int) (own:aa):List Int:=((List.range m.length).map fun (k:Nat)=>(k:Int)+1).filter fun k=>decide (sG m i own k)
section
variable {m:gF} {i:Int} {own:aa}
/-- what a point stands for -/
theorem JI {x:Int} (h1:own.Lo≤x) (h2:x≤own.Hi): ∃ n∈jx m i own,n≤x∧gW m i n=gW m i x∧jX m i n=jX m i x:=by
 -- the greatest point that is no greater
 have key: ∀ (d:Nat) (x:Int),own.Lo≤x→x≤own.Hi→(x-own.Lo).toNat=d→ ∃ n∈jx m i own,n≤x∧gW m i n=gW m i x∧jX m i n=jX m i x:=by
  intro d
  induction d with
  |zero=>
   intro x h1 h2 hd
   have:x=own.Lo:=by omega
   exact ⟨own.Lo,cf ..,om,by rw [this],by rw [this]⟩
  |succ d ih=>
   intro x h1 h2 hd
   by_cases c:x∈jx m i own
   ·exact ⟨x,c,Int.le_refl _,U,U⟩
   ·obtain ⟨n,hn,D,B,C⟩:=ih (x-1) om om om
    have A: ∀ p∈mL m i,p.2.Lo+1≠x∧p.2.Hi+1≠x:=fun p hp=>by
     constructor<;>intro e<;>apply c<;>refine cS _ (List.mem_filter.2 ⟨List.mem_flatMap.2 ⟨p,hp,by rw [← e]; simp⟩,fI ⟨h1,h2⟩⟩)
    refine ⟨n,hn,om,?_,?_⟩
    ·rw [B]
     unfold gW
     apply List.countP_congr
     intro p hp
     have:=(A p hp).2
     rw [decide_eq_true_eq,decide_eq_true_eq]
     omega
    ·rw [C]
     unfold jX
     apply List.countP_congr
     intro p hp
     have:=(A p hp).1
     rw [decide_eq_true_eq,decide_eq_true_eq]
     omega
 exact key _ x h1 h2 U
theorem IK {n:Int} (ho:own.Lo≤own.Hi) (h:n∈jx m i own):own.Lo≤n∧n≤own.Hi:=by
 rcases List.mem_cons.1 h with rfl|h
 ·omega
 ·exact of_decide_eq_true (List.mem_filter.1 h).2
/-- a rank comes about at some sum -/
theorem qz (ho:own.Lo≤own.Hi) {k:Int}:sG m i own k↔ ∃ x,own.Lo≤x∧x≤own.Hi∧(gW m i x:Int)+1≤k∧k≤(jX m i x:Int)+1:=by
 constructor
 ·rintro ⟨n,hn,A,B⟩
  have:=IK ho hn
  exact ⟨n,this.1,this.2,A,B⟩
 ·rintro ⟨x,A,B,E,F⟩
  obtain ⟨n,hn,_,C,D⟩:=JI (m:=m) (i:=i) A B
  exact ⟨n,hn,by rw [C]; exact E,by rw [D]; exact F⟩
theorem LK (hi:m.lookup i≠none) {x:Int}:jX m i x+1≤m.length:=by
 unfold jX
 refine Nat.lt_of_le_of_lt List.countP_le_length ?_
 unfold mL
 obtain ⟨v,hv⟩:=Option.ne_none_iff_exists'.1 hi
 have hm: ∃ p∈m,p.1=i:=by
  clear hi
  induction m with
  |nil=>simp at hv
  |cons p m ih=>
   obtain ⟨a,b⟩:=p
   by_cases e:i=a
   ·exact ⟨_,cf ..,e.symm⟩
   ·have:(i==a)=false:=by simpa using e
    simp only [List.lookup,this] at hv
    obtain ⟨p,hp,e⟩:=ih hv
    exact ⟨p,cS _ hp,e⟩
 obtain ⟨p,hp,e⟩:=hm
 refine Nat.lt_of_le_of_ne (List.length_filter_le _ _) fun q=>?_
 have:=(List.filter_eq_self (p:=fun p:Int×aa=> !decide (p.1=i))).1 (List.filter_sublist.eq_of_length q) p hp
 simp [e] at this
theorem q9 (hi:m.lookup i≠none) {k:Int}:k∈dq m i own↔sG m i own k:=by
 unfold dq
 rw [List.mem_filter,sZ,decide_eq_true_eq]
 constructor
 ·rintro ⟨_,h⟩; exact h
 ·intro h
  refine ⟨?_,h⟩
  obtain ⟨n,_,A,B⟩:=h
  have:=LK hi (x:=n)
  exact ⟨(k-1).toNat,List.mem_range.2 om,om⟩
end
end
section
def qg (l:List Int):List (List Value):=l.map fun x=>[vI x]
theorem tL {l:List Int}:(qg l).length=l.length:=by simp [qg]
theorem HQ {l:List Int} {k:Nat} {x:Int} (h:l[k]? =some x):(qg l)[k]? =some [vI x]:=by simp [qg,h]
theorem Hr {l:List Int} {k:Nat} {x:List Value} (h:(qg l)[k]? =some x): ∃ y,l[k]? =some y∧x=[vI y]:=by
 simp only [qg,fw,Option.map_eq_some_iff] at h
 obtain ⟨y,hy,rfl⟩:=h
 exact ⟨y,hy,U⟩
theorem Dw {l:List Int}: ∀ x∈qg l,x.length=1:=fun x hx=>by
 simp only [qg,sZ] at hx
 obtain ⟨y,_,rfl⟩:=hx
 rfl
theorem yh {l:List Int}:l.take (qg l).length=l:=by rw [tL,List.take_of_length_le (Nat.le_refl _)]
theorem lG {l:List Int} {k:Nat} {x:Int} (h:l[k]? =some x):l.take (k+1)=l.take k++[x]:=by
 rw [List.take_add_one,h]; rfl
def dg (l:List Int):List Int:=l.mergeSort fun a b=>decide (a≤b)
theorem fB {l:List Int}:(dg l).Perm l:=List.mergeSort_perm _ _
theorem kU {l:List Int}:(dg l).Pairwise (· ≤ ·):=by
 have:=List.pairwise_mergeSort (le:=fun (a b:Int)=>decide (a≤b)) (fun a b c A B=>by simp at A B ⊢; omega) (fun a b=>by simp; omega) l
 exact this.imp fun h=>by simpa using h
@[simp] theorem gk {l:List Int}:(dg l).length=l.length:=fB.length_eq
theorem qs {l m:List Int} (h1:m.Perm l) (h2:m.Pairwise (· ≤ ·)):m=dg l:=rO (h1.trans fB.symm) h2 kU
end
section
open Go.RowKit
def sC (s:bp):List Value:=[vS s.a s.n s.c]
theorem zF: ∀ s,(sC s).length=1:=fun s=>rfl
theorem J0 (l:List bp): ∀ v∈(l.map sC).flatten,v.oneCell'=true:=mz (fun s=>rfl) l
def B6 (l:List aa) (a:RA):bp:=⟨a.1,l.length,a.2⟩
def D7 (l:List aa) (a:RA):List Value:=[vS a.1 l.length a.2]
def Mo (l:List aa) (a:RA):List au:=[rd a.1 l.length 2 (l.map aa.cells)]
def Dn (l:List aa) (a:RA):List au:=[own a.1 a.2 Kq 2 (l.map aa.cells)]
theorem yp {ls:List (List aa)} {az:List RA}:(List.zipWith B6 ls az).map sC=List.zipWith D7 ls az:=by
 rw [List.map_zipWith]; rfl
theorem s7: ∀ (m:List aa) (a:RA) (w:World),(∀ X∈Dn m a,X.holds w)→ ∀ X∈Mo m a,X.holds w:=fun m a w h X hX=>by
 simp only [Mo,bR] at hX
 subst hX
 have:=nx (h _ (List.mem_singleton.2 rfl))
 simpa using this
theorem wD {l:List (List aa)} {bz:List RA}:(bu (aU Dn l bz)).wr=true:=by
 show (aU Dn l bz).all (·.wr)=true
 rw [e9]
 intro X hX
 obtain ⟨k,m,a,_,_,h⟩:=jM hX
 simp only [Dn,bR] at h
 subst h; rfl
theorem mR {ls:List (List aa)} {az:List RA} (h:az.length=ls.length):(List.zipWith D7 ls az).length=ls.length:=by simp [h]
noncomputable def gv (r:bT) (i:Nat):List (List aa):=(r.ar.take i).map fun h=>h.map (df r.an)
noncomputable def cL (r:bT):List (List aa):=gv r r.ar.length
section
variable {r:bT} {i:Nat} {h:List aw} {tz:List RA} {a:RA}
theorem vr (hh:r.ar[i]? =some h):gv r (i+1)=gv r i++[h.map (df r.an)]:=by unfold gv; rw [List.take_add_one,hh,List.map_append]; rfl
theorem kF (hi:i≤r.ar.length):(gv r i).length=i:=by unfold gv; rw [List.length_map,List.length_take]; omega
theorem dB:(cL r).length=r.ar.length:=kF (Nat.le_refl _)
theorem D4 (hh:r.ar[i]? =some h):(cL r)[i]? =some (h.map (df r.an)):=by
 unfold cL gv
 rw [List.take_length,fw,hh]; rfl
theorem yV {m:List aa} (hh:r.ar[i]? =some h) (hm:(cL r)[i]? =some m):m=h.map (df r.an):=by
 rw [D4 hh] at hm
 exact (Option.some.inj hm).symm
theorem tG (hh:r.ar[i]? =some h) (hl:tz.length=i):List.zipWith B6 (gv r (i+1)) (tz++[a])=List.zipWith B6 (gv r i) tz++[B6 (h.map (df r.an)) a]:=by
 have hi:=(List.getElem?_eq_some_iff.1 hh).1
 rw [vr hh,List.zipWith_append (by rw [kF om,hl])]
 rfl
theorem BR (hh:r.ar[i]? =some h) (hl:tz.length=i):aU Dn (gv r i) tz++[own a.1 a.2 Kq 2 ((h.map (df r.an)).map aa.cells)]=aU Dn (gv r (i+1)) (tz++[a]):=by
 have hi:=(List.getElem?_eq_some_iff.1 hh).1
 rw [vr hh,jS (by rw [kF om,hl])]
 simp [aU,Dn]
end
theorem yx {lo hi:Int} {l:List Int}:pT lo hi l=true↔ ∀ x∈l,lo≤x∧x≤hi:=by
 unfold pT
 rw [Bool.not_eq_true',List.any_eq_false]
 constructor
 ·intro h x hx; have:=h x hx; simp only [decide_eq_true_eq] at this; omega
 ·intro h x hx; have:=h x hx; simp only [decide_eq_true_eq]; omega
abbrev GJ (n:Nat):List Int:=(List.range n).map fun (k:Nat)=>(k:Int)
theorem wN (n:Nat):(GJ n).Pairwise (· ≤ ·):=by
 unfold GJ
 rw [List.pairwise_map]
 exact List.pairwise_lt_range.imp fun h=>by omega
theorem vk {l:List Int} {n:Nat} (h:l.Perm (GJ n)):dg l=GJ n:=(qs h.symm (wN n)).symm
theorem Hu {l:List Int} {n:Nat} (hl:l.length=n) (h: ∀ j,j<n→ ∀ x,(dg l)[j]? =some x→x=(j:Int)):l.Perm (GJ n):=by
 have e:dg l=GJ n:=by
  apply List.ext_getElem
  ·simp [hl]
  ·intro j A B
   have C:j<n:=by simpa using B
   have:=h j C _ (e8 A)
   simpa using this
 rw [← e]; exact fB.symm
def rn (r:bT) (i:Nat):Prop:= ∀ j,j<i→(∀ x,(dg r.bL)[j]? =some x→x=(j:Int))∧ ∀ x y,r.aK[j]? =some x→0<j→r.aK[j-1]? =some y→y<x
def E0 (r:bT) (h:List aw):Prop:=h.length=r.aK.length∧ ∀ d∈h,g7 r.an d
def j3 (r:bT) (i:Nat):Prop:= ∀ (j:Nat) h,j<i→r.ar[j]? =some h→E0 r h
def nX (l:aX) (h:List aw) (k:Nat):Prop:= ∀ (j:Nat) d,j<k→h[j]? =some d→g7 l d
section
variable {r:bT} {i:Nat}
theorem Ej:rn r 0:=fun j hj=>absurd hj (Nat.not_lt_zero _)
theorem wI {x:Int} (h:rn r i) (hd:(dg r.bL)[i]? =some x) (e:x=(i:Int)) (hs: ∀ x y,r.aK[i]? =some x→0<i→r.aK[i-1]? =some y→y<x):rn r (i+1):=fun j hj=>by
 rcases Nat.lt_or_ge j i with q|q
 ·exact h j q
 ·obtain rfl:j=i:=by omega
  exact ⟨fun y hy=>by rw [hd] at hy; cases hy; exact e,hs⟩
theorem xp:j3 r 0:=fun j h hj=>absurd hj (Nat.not_lt_zero _)
theorem xO {h:List aw} (hh:j3 r i) (hx:r.ar[i]? =some h) (ho:E0 r h):j3 r (i+1):=fun j y hj hy=>by
 rcases Nat.lt_or_ge j i with q|q
 ·exact hh j y q hy
 ·obtain rfl:j=i:=by omega
  rw [hx] at hy; cases hy; exact ho
theorem vg {l:aX} {h:List aw}:nX l h 0:=fun j d hj=>absurd hj (Nat.not_lt_zero _)
theorem vl {l:aX} {h:List aw} {d:aw} (ht:nX l h i) (hx:h[i]? =some d) (ho:g7 l d):nX l h (i+1):=fun j y hj hy=>by
 rcases Nat.lt_or_ge j i with q|q
 ·exact ht j y q hy
 ·obtain rfl:j=i:=by omega
  rw [hx] at hy; cases hy; exact ho
theorem FR {h:List aw} (hl:h.length=r.aK.length) (ht:nX r.an h i) (hi:h.length≤i):E0 r h:=⟨hl,fun d hd=>by
 obtain ⟨j,hj⟩:=List.getElem?_of_mem hd
 exact ht j d (by have:=(List.getElem?_eq_some_iff.1 hj).1; omega) hj⟩
theorem Il {n:Nat} (hn:n=r.aK.length) (h1:1≤(r.aK.length:Int)∧(r.aK.length:Int)≤5) (h2:r.bL.length=r.aK.length) (h3:0≤r.ik∧r.ik≤5) (h4:1≤(r.ar.length:Int)∧(r.ar.length:Int)≤3) (h5:pT 0 9999 r.aK=true)
 (h6:rn r n) (h7:j3 r i) (hi:r.ar.length≤i):eV r:=by
 subst hn
 refine ⟨h1,h3,h4,fun k x hx=>⟨yx.1 h5 x (aT hx),fun y hk hy=>?_⟩,Hu h2 fun j hj=>(h6 j hj).1,fun h hh=>?_⟩
 ·exact (h6 k (List.getElem?_eq_some_iff.1 hx).1).2 x y hx hk hy
 ·obtain ⟨j,hj⟩:=List.getElem?_of_mem hh
  exact h7 j h (by have:=(List.getElem?_eq_some_iff.1 hj).1; omega) hj
theorem eV.yl (h:eV r):r.bL.length=r.aK.length:=by have:=h.draw.length_eq; simpa using this
theorem eV.ins (h:eV r):pT 0 9999 r.aK=true:=yx.2 fun x hx=>by
 obtain ⟨j,hj⟩:=List.getElem?_of_mem hx
 exact (h.ids j x hj).1
theorem eV.drawn (h:eV r) {x:Int} (hx:(dg r.bL)[i]? =some x):x=(i:Int):=by
 rw [vk h.draw] at hx
 have hi:=(List.getElem?_eq_some_iff.1 hx).1
 simp at hi
 rw [fw,List.getElem?_range hi] at hx
 exact (Option.some.inj hx).symm
theorem eV.z9 (h:eV r):j3 r i:=fun j x _ hx=>h.lq x (aT hx)
theorem yG (h: ¬ dp r.an=0):cr r=dp r.an:=if_neg h
theorem ko (h:dp r.an=0) (hn: ¬ eV r):cr r=60:=by unfold cr; rw [if_pos h,if_neg hn]
theorem Ce (h:dp r.an=0) (hn:eV r):cr r=0:=by unfold cr; rw [if_pos h,if_pos hn]
theorem ib (h:cr r=0):dp r.an=0∧eV r:=by
 unfold cr at h
 split at h
 ·split at h
  ·exact ⟨asm,asm⟩
  ·cases h
 ·exact absurd h asm
end
section
variable {r:bT} {k i n h:Nat} {s:aa} {l:aX} {hs:List (List aw)}
theorem As: ∀ {k:Nat} {s:aa},j3 r k→k≤r.ar.length→eN r.an r.ar i k=some s→0≤s.Lo∧s.Lo≤s.Hi∧s.Hi≤8640000*(k:Int)
 |0,s,_,_,h=>by
  simp only [eN,Option.some.injEq] at h
  subst h; simp
 |k+1,s,hh,hk,h=>by
  unfold eN at h
  split at h
  ·rename_i u d hu hd
   split at h
   ·cases h
   ·cases h
    have A:=As (fun j x hj hx=>hh j x om hx) om hu
    obtain ⟨x,hx,hd⟩:=Option.bind_eq_some_iff.1 hd
    have B:=vU ((hh k x om hx).2 d (aT hd))
    simp only
    push_cast
    omega
  ·cases h
theorem NW:ew (dY l hs i 0 0) (i:Int) ⟨0,0⟩=dY l hs (i+1) 0 0:=by
 have A:(dY l hs i 0 0).lookup (i:Int)=none:=by rw [wc,if_neg (Nat.lt_irrefl i)]
 unfold ew
 rw [A]
 simp only [Option.isSome_none,Bool.false_eq_true,if_false]
 unfold dY
 rw [List.range_succ,List.filterMap_append]
 simp [eN]
theorem Ie (hi:i<n):(dY l hs n h i).lookup (i:Int)=eN l hs i h:=by rw [wc,if_pos hi,if_neg (Nat.lt_irrefl i)]
theorem Mf {α β:Type} {f:α→β} {tr:List β} {ht:List α} {x:β} {d:α} (e:tr=ht.map f) (hx:tr[i]? =some x) (hd:ht[i]? =some d):x=f d:=by
 rw [e,fw,hd] at hx
 exact (Option.some.inj hx).symm
theorem MA:dY r.an r.ar r.aK.length h 0=eB r h:=CV
end
end
section
def vE (key:Int→Int) (l:List Int) (x:Int):List Int:=l.takeWhile (fun y=>decide (key y≤key x))++x::l.dropWhile (fun y=>decide (key y≤key x))
def er (key:Int→Int) (l:List Int):List Int:=l.foldl (vE key) []
def DM (key:Int→Int) (l:List Int):Prop:=l.Pairwise fun a b=>key a≤key b
section
variable {key:Int→Int} {l A B D:List Int} {x u v:Int} {i j:Nat}
theorem Gy:(vE key l x).Perm (x::l):=by
 unfold vE
 refine List.perm_middle.trans ?_
 rw [List.takeWhile_append_dropWhile]
theorem Po (hA: ∀ y∈A,key y≤key x) (hB: ∀ y∈B,key x<key y):(A++B).takeWhile (fun y=>decide (key y≤key x))=A∧(A++B).dropWhile (fun y=>decide (key y≤key x))=B:=by
 induction A with
 |nil=>
  cases B with
  |nil=>simp
  |cons b B=>
   have h:=hB b cf
   have:decide (key b≤key x)=false:=cd om
   rw [List.nil_append,List.takeWhile_cons,List.dropWhile_cons,this]
   exact ⟨U,U⟩
 |cons a A ih=>
  have h:=ih fun y hy=>hA y (cS _ hy)
  have:decide (key a≤key x)=true:=fI (hA a cf)
  simp only [List.cons_append,List.takeWhile,List.dropWhile,this]
  exact ⟨by rw [h.1],h.2⟩
theorem xy (hA: ∀ y∈A,key y≤key x) (hB: ∀ y∈B,key x<key y):vE key (A++B) x=A++x::B:=by
 unfold vE
 rw [(Po hA hB).1,(Po hA hB).2]
theorem B0 (x:Int): ∀ {l:List Int},DM key l→ ∃ A B,l=A++B∧(∀ y∈A,key y≤key x)∧ ∀ y∈B,key x<key y
 |[],_=>⟨[],[],rfl,(fun y h=>by cases h),fun y h=>by cases h⟩
 |a::l,h=>by
  unfold DM at h
  rw [List.pairwise_cons] at h
  by_cases c:key a≤key x
  ·obtain ⟨A,B,e,hA,hB⟩:=B0 x (l:=l) h.2
   refine ⟨a::A,B,by rw [e]; rfl,fun y hy=>?_,hB⟩
   rcases List.mem_cons.1 hy with rfl|hy
   ·exact c
   ·exact hA y hy
  ·refine ⟨[],a::l,rfl,fun y hy=>(by cases hy),fun y hy=>?_⟩
   rcases List.mem_cons.1 hy with rfl|hy
   ·omega
   ·have:=h.1 y hy; omega
theorem Nr (h:DM key l):DM key (vE key l x):=by
 obtain ⟨A,B,rfl,hA,hB⟩:=B0 x h
 rw [xy hA hB]
 unfold DM at h ⊢
 rw [List.pairwise_append] at h ⊢
 refine ⟨h.1,List.pairwise_cons.2 ⟨fun y hy=>by have:=hB y hy; omega,h.2.1⟩,fun y hy z hz=>?_⟩
 rcases List.mem_cons.1 hz with rfl|hz
 ·exact hA y hy
 ·exact h.2.2 y hy z hz
theorem Be:er key (l++[x])=vE key (er key l) x:=by unfold er; rw [List.foldl_append]; rfl
theorem Cv (h:l[i]? =some x):er key (l.take (i+1))=vE key (er key (l.take i)) x:=by rw [lG h,Be]
theorem x9: ∀ {l m:List Int},(l.foldl (vE key) m).Perm (m++l)
 |[],m=>by simp
 |x::l,m=>(x9 (l:=l) (m:=vE key m x)).trans (((Gy).append_right l).trans (by
  rw [List.cons_append]
  exact List.perm_middle.symm))
theorem qP:(er key l).Perm l:=by simpa [er] using x9 (key:=key) (l:=l) (m:=[])
theorem BV: ∀ {l m:List Int},DM key m→DM key (l.foldl (vE key) m)
 |[],m,h=>h
 |x::l,m,h=>BV (l:=l) (Nr h)
theorem uH:DM key (er key l):=BV List.Pairwise.nil
theorem kp:(er key l).length=l.length:=qP.length_eq
def Bu (key:Int→Int) (l:List Int) (i j:Nat) (D:List Int):Prop:= ∃ A B x,l[i]? =some x∧A.length=j∧er key (l.take i)=A++B∧(∀ y∈B,key x<key y)∧D=A++x::(B++l.drop (i+1))
def tP (key:Int→Int) (l:List Int) (i:Nat) (D:List Int):Prop:=D=er key (l.take i)++l.drop i
theorem Kb (h:0<l.length):tP key l 1 l:=by
 cases l with
 |nil=>simp at h
 |cons a l=>simp [tP,er,vE]
theorem Ko (hi:l.length≤i) (h:tP key l i D):D=er key l:=by
 subst h; rw [List.take_of_length_le hi,List.drop_of_length_le hi,List.append_nil]
theorem El (hi:i<l.length) (h:tP key l i D):Bu key l i i D:=by
 have hx:l[i]? =some l[i]:=e8 hi
 refine ⟨er key (l.take i),[],l[i],hx,by rw [kp,List.length_take]; omega,sm,fun y hy=>(by cases hy),?_⟩
 rw [h,List.nil_append,List.drop_eq_getElem_cons hi]
theorem wm: ∀ {A:List Int},0<A.length→ ∃ A' y,A=A'++[y]:=fun {A} h=>⟨A.dropLast,A.getLast (by intro e; subst e; simp at h),(List.dropLast_concat_getLast _).symm⟩
theorem Gu (hj:0<j) (h:Bu key l i j D) (hu:D[j]? =some u) (hv:D[j-1]? =some v) (hlt:key u<key v):Bu key l i (j-1) ((D.set j v).set (j-1) u):=by
 obtain ⟨A,B,x,hx,hl,he,hB,rfl⟩:=h
 obtain ⟨A',y,rfl⟩:=wm (A:=A) om
 simp only [List.length_append,List.length_cons,List.length_nil] at hl
 subst hl
 have C:(A'++[y]++x::(B++l.drop (i+1)))=A'++y::x::(B++l.drop (i+1)):=by simp
 rw [C] at hu hv ⊢
 rw [List.getElem?_append_right om,show A'.length+(0+1)-A'.length=1 by omega] at hu
 rw [show A'.length+(0+1)-1=A'.length by omega,List.getElem?_append_right (Nat.le_refl _),Nat.sub_self] at hv
 simp at hu hv
 subst hu hv
 refine ⟨A',y::B,x,hx,om,by rw [he]; simp,fun z hz=>?_,?_⟩
 ·rcases List.mem_cons.1 hz with rfl|hz
  ·exact hlt
  ·exact hB z hz
 ·rw [show A'.length+(0+1)-1=A'.length by omega,List.set_append_right _ _ om,List.set_append_right _ _ (Nat.le_refl _),show A'.length+(0+1)-A'.length=1 by omega,Nat.sub_self]
  simp
theorem za (h:Bu key l i j D) (hc: ∀ A,A.length=j→(∃ C,D=A++C)→DM key A→ ∀ x,l[i]? =some x→D[j]? =some x→ ∀ y∈A,key y≤key x):tP key l (i+1) D:=by
 obtain ⟨A,B,x,hx,hl,he,hB,rfl⟩:=h
 unfold tP
 have E:DM key (A++B):=he▸uH
 rw [Cv hx,he,xy (hc A hl ⟨_,rfl⟩ (by unfold DM at E ⊢; rw [List.pairwise_append] at E; exact E.1) x hx (by rw [List.getElem?_append_right om,← hl]; simp)) hB]
 simp
theorem yr (hj: ¬ 0<j) (h:Bu key l i j D):tP key l (i+1) D:=za h fun A hl _ _ x _ _ y hy=>by
 have:A=[]:=jC om
 subst this; cases hy
theorem yN (hj:0<j) (h:Bu key l i j D) (hu:D[j]? =some u) (hv:D[j-1]? =some v) (hlt: ¬ key u<key v):tP key l (i+1) D:=za h fun A hl hC hA x hx hd y hy=>by
 obtain ⟨C,hC⟩:=hC
 obtain ⟨A',z,rfl⟩:=wm (A:=A) om
 simp only [List.length_append,List.length_cons,List.length_nil] at hl
 rw [hd] at hu; cases hu
 have e:D[j-1]? =some z:=by
  rw [hC,List.append_assoc,List.getElem?_append_right om,show j-1-A'.length=0 by omega]; simp
 rw [e] at hv; cases hv
 unfold DM at hA
 rw [List.pairwise_append] at hA
 rcases List.mem_append.1 hy with hy|hy
 ·have:=hA.2.2 y hy v sm; omega
 ·rw [bR] at hy; subst hy; omega
end
end
section
def rV (k:Nat) (l:List Int):List Int:=(l.take k).reverse++l.drop k
def GI (l:List Int) (k i:Nat) (D:List Int):Prop:=D.length=l.length∧ ∀ p,p<l.length→D[p]? =l[if p<k∧(p<i∨k≤p+i) then k-1-p else p]?
section
variable {l D:List Int} {k i j:Nat} {u v:Int}
theorem j4:(rV k l).length=l.length:=by unfold rV; rw [List.length_append,List.length_reverse,List.length_take,List.length_drop]; omega
theorem Mm:GI l k 0 l:=⟨rfl,fun p hp=>by rw [if_neg om]⟩
theorem KO (hk:k≤l.length) (hij:i<j) (hj:j+i+1=k) (h:GI l k i D) (hu:D[i]? =some u) (hv:D[j]? =some v):GI l k (i+1) ((D.set i v).set j u):=by
 refine ⟨by rw [List.length_set,List.length_set]; exact h.1,fun p hp=>?_⟩
 have hl:=h.1
 have hi:=h.2 i om
 have A:=h.2 j om
 rw [hu,if_neg om] at hi
 rw [hv,if_neg om] at A
 by_cases B:p=j
 ·subst B
  rw [List.getElem?_set_self (by rw [List.length_set]; omega),if_pos om,show k-1-p=i by omega,hi]
 ·rw [List.getElem?_set_ne (fun e=>B e.symm)]
  by_cases C:p=i
  ·subst C
   rw [List.getElem?_set_self om,if_pos om,show k-1-p=j by omega,A]
  ·rw [List.getElem?_set_ne (fun e=>C e.symm),h.2 p hp]
   by_cases c:p<k∧(p<i∨k≤p+i)
   ·rw [if_pos c,if_pos om]
   ·rw [if_neg c,if_neg om]
theorem MW (hk:k≤l.length) (hi:k≤2*i+1) (h:GI l k i D):D=rV k l:=by
 apply List.ext_getElem?
 intro p
 by_cases hp:p<l.length
 ·rw [h.2 p hp]
  unfold rV
  by_cases c:p<k
  ·rw [List.getElem?_append_left (by rw [List.length_reverse,List.length_take]; omega),List.getElem?_reverse (by rw [List.length_take]; omega),List.length_take,Nat.min_eq_left hk,List.getElem?_take]
   rw [if_pos (show k-1-p<k by omega)]
   by_cases A:p<k∧(p<i∨k≤p+i)
   ·rw [if_pos A]
   ·rw [if_neg A,show k-1-p=p by omega]
  ·rw [if_neg om,List.getElem?_append_right (by rw [List.length_reverse,List.length_take]; omega),List.length_reverse,List.length_take,Nat.min_eq_left hk,List.getElem?_drop,show k+(p-k)=p by omega]
 ·rw [List.getElem?_eq_none (by rw [h.1]; omega),List.getElem?_eq_none (by rw [j4]; omega)]
end
end
end Go.Proofs.YtadjgjnicdcjbaaGreatDoor
