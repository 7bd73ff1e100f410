/-
 The statement raceRanks_said, part 4 of 8: Short, Grow, Global, RunA, Tab, Run, Comp, MapK, Watch, Passes, Keys, MapR, RangeG, Nest, WMaps, WBounds, PassG, Drop, Spot, First, Line, Wrap, Goes, OpenW, Wheres, LineR, Race, RaceS, Vals, RaceO, RaceV, RankP, BoolC, RaceR, MapD.
 Conditions: none.
-/
import Derived.Test.YtcoejkiaokbmpaaGreatDoorQa1
import Derived.Test.YtcoejkiaokbmpaaGreatDoorQa2
import Derived.Test.YtcoejkiaokbmpaaGreatDoorQa3
import Derived.Test.YtcoejkiaokbmpaaGreatDoorProg
import Derived.KernelRfl
import Derived.WideKeyRuns
namespace Go.Proofs.YtcoejkiaokbmpaaGreatDoor
set_option maxRecDepth 100000
set_option maxHeartbeats 4000000
set_option linter.unusedVariables false
section
open Go.RowKit
/-- an operation that hands v to its slot d -/
structure SE (E:e9) (ops:Array Oper) (o:Oper) (D:List Deferred) (L:List (Nat×Value)) (C:List aq) (v:Value) (d:Nat):Prop where
 h:SD E ops o D L C v
 o:o.dst=some d
 n:Nat.blt d E.n=true
theorem rS {E:e9} {ops:Array Oper} {Q:dj} {o:Oper} {rest:List Oper} {D:List Deferred} {L:List (Nat×Value)} {C:List aq} {v:Value} {d:Nat}
 (h:SE E ops o D L C v d) (k:RJ E ops Q rest D ((d,v)::L) C):RJ E ops Q (o::rest) D L C:=Mt h.h h.o h.n k
theorem dS {E:e9} {ops:Array Oper} {F:List (Nat×Value)→Prop} {o:Oper} {rest:List Oper} {D:List Deferred} {L:List (Nat×Value)} {C:List aq} {v:Value} {d:Nat}
 (h:SE E ops o D L C v d) (k:DJ E ops D C F rest ((d,v)::L)):DJ E ops D C F (o::rest) L:=Mr h.h h.o h.n k
theorem eS {E:e9} {ops:Array Oper} {D:List Deferred} {C' C1:List aq} {F:List (Nat×Value)→Prop} {bs:List Bool} {o:Oper} {l rest:List Oper} {L:List (Nat×Value)} {v:Value} {d:Nat}
 (hl:l=o::rest) (h:SE E ops o D L C' v d) (k:o0 E ops D C' C1 F bs rest ((d,v)::L)):o0 E ops D C' C1 F (false::bs) l L:=Ky h.h hl h.o h.n k
theorem fS {E:e9} {ops:Array Oper} {D:List Deferred} {C' C1:List aq} {F:List (Nat×Value)→Prop} {bs:List Bool} {o:Oper} {l rest:List Oper} {L:List (Nat×Value)} {v:Value} {d:Nat}
 (hl:l=o::rest) (h:SE E ops o D L C1 v d) (k:o0 E ops D C' C1 F bs rest ((d,v)::L)):o0 E ops D C' C1 F (true::bs) l L:=Lq h.h hl h.o h.n k
def gB (n:Nat) (ops:Array Oper) (L:List (Nat×Value)) (d:Nat) (g:Option (Nat×Bool)):Bool:=ju ops L g&&Nat.blt d n
theorem IM {n:Nat} {ops:Array Oper} {L:List (Nat×Value)} {d:Nat} {g:Option (Nat×Bool)} (h:gB n ops L d g=true):ju ops L g=true:=by
 unfold gB at h; rw [cS] at h; exact h.1
theorem IC {n:Nat} {ops:Array Oper} {L:List (Nat×Value)} {d:Nat} {g:Option (Nat×Bool)} (h:gB n ops L d g=true):Nat.blt d n=true:=by
 unfold gB at h; rw [cS] at h; exact h.2
def vF (n:Nat) (ops:Array Oper) (L:List (Nat×Value)) (d:Nat) (g:Option (Nat×Bool)) (x:Operand):Option Value:=match gB n ops L d g with
 |true=>ev L x
 |false=>none
def bF (n:Nat) (ops:Array Oper) (L:List (Nat×Value)) (d:Nat) (g:Option (Nat×Bool)) (x y:Operand):Option (Value×Value):=match gB n ops L d g with
 |true=>match ev L x,ev L y with
  |some u,some v=>some (u,v)
  |_,_=>none
 |false=>none
def pF (n:Nat) (ops:Array Oper) (L:List (Nat×Value)) (d:Nat) (g:Option (Nat×Bool)) (c x y:Operand):Option Value:=match gB n ops L d g with
 |true=>match ev L c with
  |some (.bool true)=>ev L x
  |some (.bool false)=>ev L y
  |_=>none
 |false=>none
def xF (n:Nat) (ops:Array Oper) (L:List (Nat×Value)) (d:Nat) (g:Option (Nat×Bool)) (x:Operand) (i:Nat):Option Value:=match vF n ops L d g x with
 |some (.tuple vs)=>vs.toList[i]?
 |_=>none
def uF (n:Nat) (ops:Array Oper) (L:List (Nat×Value)) (d:Nat) (g:Option (Nat×Bool)) (xs ys:List Operand):Option (List Value×List Value):=match gB n ops L d g with
 |true=>match evs L xs,evs L ys with
  |some u,some v=>some (u,v)
  |_,_=>none
 |false=>none
def cF (n:Nat) (ops:Array Oper) (L:List (Nat×Value)) (d:Nat) (g:Option (Nat×Bool)) (fop:Operand) (xs:List Operand):Option (FuncId×List Value):=match gB n ops L d g with
 |true=>match ev L fop,evs L xs with
  |some (.func (.func f) fi ca),some vs=>some (f,fi.toList++vs++ca.toList)
  |_,_=>none
 |false=>none
theorem iX {n:Nat} {ops:Array Oper} {L:List (Nat×Value)} {d:Nat} {g:Option (Nat×Bool)} {x:Operand} {v:Value} (h:vF n ops L d g x=some v):ju ops L g=true∧Nat.blt d n=true∧ev L x=some v:=by
 unfold vF at h
 split at h
 ·rename_i hb; exact ⟨IM hb,IC hb,h⟩
 ·cases h
theorem qF {n:Nat} {ops:Array Oper} {L:List (Nat×Value)} {d:Nat} {g:Option (Nat×Bool)} {x y:Operand} {u v:Value} (h:bF n ops L d g x y=some (u,v)):ju ops L g=true∧Nat.blt d n=true∧ev L x=some u∧ev L y=some v:=by
 unfold bF at h
 split at h
 ·rename_i hb
  split at h
  ·rename_i hx hy; cases h; exact ⟨IM hb,IC hb,hx,hy⟩
  ·cases h
 ·cases h
theorem Kd {n:Nat} {ops:Array Oper} {L:List (Nat×Value)} {d:Nat} {g:Option (Nat×Bool)} {x y:List Operand} {u v:List Value} (h:uF n ops L d g x y=some (u,v)):ju ops L g=true∧Nat.blt d n=true∧evs L x=some u∧evs L y=some v:=by
 unfold uF at h
 split at h
 ·rename_i hb
  split at h
  ·rename_i hx hy; cases h; exact ⟨IM hb,IC hb,hx,hy⟩
  ·cases h
 ·cases h
section
variable {E:e9} {ops:Array Oper} {Q:dj} {rest:List Oper} {D:List Deferred} {L:List (Nat×Value)} {C:List aq}
variable {d:Nat} {ty:TypeId} {ps:String} {af:Array Edge} {g:Option (Nat×Bool)}
theorem SX {o:Oper} {v:Value} (h:SD E ops o D L C v) (ho:o.dst=some d) (hd:Nat.blt d E.n=true):SE E ops o D L C v d:=⟨h,ho,hd⟩
theorem MV {x:Operand} {v:Value} (h:vF E.n ops L d g x=some v):SE E ops ⟨some d,.move x,ty,ps,af,g⟩ D L C v d:=by
 obtain ⟨h1,h2,h3⟩:=iX h; exact ⟨BT h1 h3,rfl,h2⟩
theorem AG {x:Operand} {v:Value} (h:vF E.n ops L d g x=some v):SE E ops ⟨some d,.assign x,ty,ps,af,g⟩ D L C v d:=by
 obtain ⟨h1,h2,h3⟩:=iX h; exact ⟨wE h1 h3,rfl,h2⟩
theorem OX {op:Op} (h:(z5 ops L g&&Nat.blt d E.n)=true):SE E ops ⟨some d,op,ty,ps,af,g⟩ D L C undef d:=by
 rw [cS] at h; exact ⟨GH h.1,rfl,h.2⟩
theorem NT {xt:TypeId} {x:Operand} {b:Bool} (h:vF E.n ops L d g x=some (.bool b)):SE E ops ⟨some d,.unOp .not xt x,ty,ps,af,g⟩ D L C (.bool !b) d:=by
 obtain ⟨h1,h2,h3⟩:=iX h; exact ⟨Ga h1 h3,rfl,h2⟩
theorem NG {xt:TypeId} {x:Operand} {n:Int} (h:vF E.n ops L d g x=some (.int .i64 n)) (hb:o4 (-n)):SE E ops ⟨some d,.unOp .neg xt x,ty,ps,af,g⟩ D L C (.int .i64 (-n)) d:=by
 obtain ⟨h1,h2,h3⟩:=iX h; exact ⟨Kk h1 h3 hb,rfl,h2⟩
theorem PK {c x y:Operand} {v:Value} (h:pF E.n ops L d g c x y=some v):SE E ops ⟨some d,.pick c x y,ty,ps,af,g⟩ D L C v d:=by
 unfold pF at h
 split at h
 ·rename_i hb
  split at h
  ·rename_i hc; exact ⟨wN (IM hb) hc h,rfl,IC hb⟩
  ·rename_i hc; exact ⟨xd (IM hb) hc h,rfl,IC hb⟩
  ·cases h
 ·cases h
theorem EX {x:Operand} {i:Nat} {v:Value} (h:xF E.n ops L d g x i=some v):SE E ops ⟨some d,.extract x i,ty,ps,af,g⟩ D L C v d:=by
 unfold xF at h
 split at h
 ·rename_i vs hv
  obtain ⟨h1,h2,h3⟩:=iX hv
  exact ⟨uR (vs:=vs.toList) h1 (by simpa using h3) h,rfl,h2⟩
 ·cases h
theorem LN {x:Operand} {t e:TypeId} {A:OA} {n c:Nat} (h:vF E.n ops L d g x=some (.slice A n c)) (ht:E.P.underlying t=some (.slice e)):
 SE E ops ⟨some d,.call {callee:= .builtin .len,args:= #[x],argTypes:= #[t]},ty,ps,af,g⟩ D L C (.int .i64 n) d:=by
 obtain ⟨h1,h2,h3⟩:=iX h; exact ⟨Eg h1 h3 ht,rfl,h2⟩
theorem BI {op:BinOp} {xt yt:TypeId} {x y:Operand} {u v r:Value} (h:bF E.n ops L d g x y=some (u,v)) (hb:g_ E.P op xt x y u v r):SE E ops ⟨some d,.binOp op xt x y yt,ty,ps,af,g⟩ D L C r d:=by
 obtain ⟨h1,h2,h3,h4⟩:=qF h; exact ⟨cb h1 h3 h4 hb,rfl,h2⟩
theorem MN {x y:Operand} {ts:Array TypeId} {a b:Int} {k:IntKind} (h:bF E.n ops L d g x y=some (.int k a,.int k b)):
 SE E ops ⟨some d,.call {callee:= .builtin .min,args:= #[x,y],argTypes:=ts},ty,ps,af,g⟩ D L C (.int k (min a b)) d:=by
 obtain ⟨h1,h2,h3,h4⟩:=qF h; exact ⟨Ks h1 h3 h4,rfl,h2⟩
theorem MX {x y:Operand} {ts:Array TypeId} {a b:Int} {k:IntKind} (h:bF E.n ops L d g x y=some (.int k a,.int k b)):
 SE E ops ⟨some d,.call {callee:= .builtin .max,args:= #[x,y],argTypes:=ts},ty,ps,af,g⟩ D L C (.int k (max a b)) d:=by
 obtain ⟨h1,h2,h3,h4⟩:=qF h; exact ⟨Ki h1 h3 h4,rfl,h2⟩
theorem FA (o':Nat) {x:Operand} {b o s f k:Nat} (h:vF E.n ops L d g x=some (.pointer (some ⟨b,o,none⟩))) (hf:uc E.P s f=some k) (ho:o+k=o'):
 SE E ops ⟨some d,.fieldAddr s x f,ty,ps,af,g⟩ D L C (.pointer (some ⟨b,o',none⟩)) d:=by
 obtain ⟨h1,h2,h3⟩:=iX h; exact ⟨IG h1 h3 hf ho,rfl,h2⟩
theorem mT (k':Nat) {x:Operand} {A:OA} {n sz:Nat} {es:List (List Value)} {k0 s f k:Nat} (h:vF E.n ops L d g x=some (.pointer (o3 A k0))) (hR:ji C (rd A n sz es).holds) (hn:0<n*sz)
 (hf:uc E.P s f=some k) (ho:k0+k=k'):SE E ops ⟨some d,.fieldAddr s x f,ty,ps,af,g⟩ D L C (.pointer (o3 A k')) d:=by
 obtain ⟨h1,h2,h3⟩:=iX h; exact ⟨Fv h1 h3 hR hn hf ho,rfl,h2⟩
theorem IA (k:Nat) {x ix:Operand} {A:OA} {n c sz e t:Nat} {es:List (List Value)} {j:Int} (h:bF E.n ops L d g x ix=some (.slice A n c,.int .i64 j)) (hR:ji C (rd A n sz es).holds)
 (ht:tE E.P t=some (e,sz)) (hz:0<sz) (hj:j=(k:Int)) (hk:k<n):SE E ops ⟨some d,.indexAddr t x ix,ty,ps,af,g⟩ D L C (.pointer (o3 A (k*sz))) d:=by
 obtain ⟨h1,h2,h3,h4⟩:=qF h; exact ⟨LS h1 h3 h4 hR ht hz hj hk,rfl,h2⟩
theorem MF (k o':Nat) {x ix:Operand} {b o n c sz e t:Nat} {j:Int} (h:bF E.n ops L d g x ix=some (.slice (some ⟨b,o,none⟩) n c,.int .i64 j))
 (ht:tE E.P t=some (e,sz)) (hj:j=(k:Int)) (hk:k<n) (ho:o+k*sz=o'):SE E ops ⟨some d,.indexAddr t x ix,ty,ps,af,g⟩ D L C (.pointer (some ⟨b,o',none⟩)) d:=by
 obtain ⟨h1,h2,h3,h4⟩:=qF h; exact ⟨Iv h1 h3 h4 ht hj hk ho,rfl,h2⟩
/-- the whole of a block, a part of it, one cell -/
theorem LW (i:Nat) {x:Operand} {b t tt n:Nat} {cs:List Value} (h:vF E.n ops L d g x=some (.pointer (some ⟨b,0,none⟩))) (ht:tK E.P t=some (true,n)) (hC:C[i]? =some (br b tt cs)) (hn:cs.length=n):
 SE E ops ⟨some d,.load t x,ty,ps,af,g⟩ D L C (.agg cs.toArray) d:=by
 obtain ⟨h1,h2,h3⟩:=iX h; exact ⟨uA h1 h3 ht (bQ i hC sm) hn,rfl,h2⟩
theorem LP (vs:List Value) (i:Nat) {x:Operand} {b o t tt n:Nat} {cs:List Value} (h:vF E.n ops L d g x=some (.pointer (some ⟨b,o,none⟩))) (ht:tK E.P t=some (true,n)) (hC:C[i]? =some (br b tt cs)) (hv:(cs.drop o).take vs.length=vs) (hn:vs.length=n):
 SE E ops ⟨some d,.load t x,ty,ps,af,g⟩ D L C (.agg vs.toArray) d:=by
 obtain ⟨h1,h2,h3⟩:=iX h; exact ⟨uA h1 h3 ht (bQ i hC hv) hn,rfl,h2⟩
theorem Od (vs:List Value) (i:Nat) {x:Operand} {b o t tt n:Nat} {cs:List Value} (h:vF E.n ops L d g x=some (.pointer (some ⟨b,o,none⟩))) (ht:tK E.P t=some (true,n)) (hC:C[i]? =some (br b tt cs).ro) (hv:(cs.drop o).take vs.length=vs) (hn:vs.length=n):
 SE E ops ⟨some d,.load t x,ty,ps,af,g⟩ D L C (.agg vs.toArray) d:=by
 obtain ⟨h1,h2,h3⟩:=iX h; exact ⟨uA h1 h3 ht (ue i hC hv) hn,rfl,h2⟩
theorem L1 (v:Value) (i:Nat) {x:Operand} {b o t tt n:Nat} {cs:List Value} (h:vF E.n ops L d g x=some (.pointer (some ⟨b,o,none⟩))) (ht:tK E.P t=some (false,n)) (hC:C[i]? =some (br b tt cs)) (hv:(cs.drop o).take 1=[v]):
 SE E ops ⟨some d,.load t x,ty,ps,af,g⟩ D L C v d:=by
 obtain ⟨h1,h2,h3⟩:=iX h; exact ⟨td h1 h3 ht (bQ i hC hv),rfl,h2⟩
theorem Ed (v:Value) (i:Nat) {x:Operand} {b o t tt n:Nat} {cs:List Value} (h:vF E.n ops L d g x=some (.pointer (some ⟨b,o,none⟩))) (ht:tK E.P t=some (false,n)) (hC:C[i]? =some (br b tt cs).ro) (hv:(cs.drop o).take 1=[v]):
 SE E ops ⟨some d,.load t x,ty,ps,af,g⟩ D L C v d:=by
 obtain ⟨h1,h2,h3⟩:=iX h; exact ⟨td h1 h3 ht (ue i hC hv),rfl,h2⟩
theorem Ax (i:Nat) {x:Operand} {b t tt n:Nat} {v:Value} (h:vF E.n ops L d g x=some (.pointer (some ⟨b,0,none⟩))) (ht:tK E.P t=some (false,n)) (hC:C[i]? =some (br b tt [v])):
 SE E ops ⟨some d,.load t x,ty,ps,af,g⟩ D L C v d:=by
 obtain ⟨h1,h2,h3⟩:=iX h; exact ⟨td h1 h3 ht (bQ i hC rfl),rfl,h2⟩
theorem MH (i:Nat) {x:Operand} {b t tt n:Nat} {v:Value} (h:vF E.n ops L d g x=some (.pointer (some ⟨b,0,none⟩))) (ht:tK E.P t=some (false,n)) (hC:C[i]? =some (br b tt [v]).ro):
 SE E ops ⟨some d,.load t x,ty,ps,af,g⟩ D L C v d:=by
 obtain ⟨h1,h2,h3⟩:=iX h; exact ⟨td h1 h3 ht (ue i hC rfl),rfl,h2⟩
/-- what is read of a row -/
theorem gU (k o:Nat) (v:Value) {x:Operand} {A:OA} {t m n sz:Nat} {es:List (List Value)} {e:List Value} (h:vF E.n ops L d g x=some (.pointer (o3 A m))) {nn:Nat} (ht:tK E.P t=some (false,nn)) (hR:ji C (rd A n sz es).holds) (he:es[k]? =some e) (hm:m=k*sz+o) (hz:0<sz) (hv:(e.drop o).take 1=[v]):
 SE E ops ⟨some d,.load t x,ty,ps,af,g⟩ D L C v d:=by
 obtain ⟨h1,h2,h3⟩:=iX h; exact ⟨td h1 h3 ht (IE hR he hm hz hv),rfl,h2⟩
theorem n9 (k o:Nat) (vs:List Value) {x:Operand} {A:OA} {t m n sz:Nat} {es:List (List Value)} {e:List Value} (h:vF E.n ops L d g x=some (.pointer (o3 A m))) {nn:Nat} (ht:tK E.P t=some (true,nn)) (hR:ji C (rd A n sz es).holds) (he:es[k]? =some e) (hm:m=k*sz+o) (hz:0<sz) (hv:(e.drop o).take vs.length=vs) (hn:vs.length=nn):
 SE E ops ⟨some d,.load t x,ty,ps,af,g⟩ D L C (.agg vs.toArray) d:=by
 obtain ⟨h1,h2,h3⟩:=iX h; exact ⟨uA h1 h3 ht (IE hR he hm hz hv) hn,rfl,h2⟩
theorem CL {fop:Operand} {xs:Array Operand} {ts:Array TypeId} {f:FuncId} {args:List Value} {Cp:List aq} {v:Value} (c:eu E.P f args Cp v) (hC:kG C Cp) (h:cF E.n ops L d g fop xs.toList=some (f,args)):
 SE E ops ⟨some d,.call {callee:= .value fop,args:=xs,argTypes:=ts},ty,ps,af,g⟩ D L C v d:=by
 unfold cF at h
 split at h
 ·rename_i hb
  split at h
  ·rename_i hf hx; cases h; exact ⟨B5 (IM hb) hf hx rfl c hC,rfl,IC hb⟩
  ·cases h
 ·cases h
theorem FU {fn:Fn} {xs ys:Array Operand} {us vs:List Value} (h:uF E.n ops L d g xs.toList ys.toList=some (us,vs)):SE E ops ⟨some d,.makeFunc fn xs ys,ty,ps,af,g⟩ D L C (.func fn us.toArray vs.toArray) d:=by
 obtain ⟨h1,h2,h3,h4⟩:=Kd h; exact ⟨H0 h1 h3 h4,rfl,h2⟩
theorem cX {fop:Operand} {xs:Array Operand} {ts:Array TypeId} {f:FuncId} {args:List Value} {Cp:List aq} {α:Type} {V:α→Value} {p:α→Prop} {N:α→List aq} (c:oY E.P f args Cp V p N) (hC:kG C Cp)
 (h:cF E.n ops L d g fop xs.toList=some (f,args)) (k: ∀ x,p x→RJ E ops Q rest D ((d,V x)::L) (N x++C)):
 RJ E ops Q (⟨some d,.call {callee:= .value fop,args:=xs,argTypes:=ts},ty,ps,af,g⟩::rest) D L C:=by
 unfold cF at h
 split at h
 ·rename_i hb
  split at h
  ·rename_i hf hx; cases h; exact JJ (IM hb) hf hx rfl c hC (IC hb) k
  ·cases h
 ·cases h
/-- a box of a struct, of one cell -/
theorem fP {t:TypeId} {x:Operand} {cs:List Value} (h:vF E.n ops L d g x=some (.agg cs.toArray)) (k: ∀ b,RJ E ops Q rest D ((d,.pointer (some ⟨b,0,none⟩))::L) (br b t cs::C)):
 RJ E ops Q (⟨some d,.box t x,ty,ps,af,g⟩::rest) D L C:=by
 obtain ⟨h1,h2,h3⟩:=iX h; exact I4 h1 h3 rfl h2 k
theorem t_ {t:TypeId} {x:Operand} {v:Value} (h:vF E.n ops L d g x=some v) (hv:v.cells.toList=[v]) (k: ∀ b,RJ E ops Q rest D ((d,.pointer (some ⟨b,0,none⟩))::L) (br b t [v]::C)):
 RJ E ops Q (⟨some d,.box t x,ty,ps,af,g⟩::rest) D L C:=by
 obtain ⟨h1,h2,h3⟩:=iX h; exact I4 h1 h3 hv h2 k
theorem AL {t:TypeId} {cs:List Value} (h:gB E.n ops L d g=true) (hz:tZ E.P t=some cs) (k: ∀ b,RJ E ops Q rest D ((d,.pointer (some ⟨b,0,none⟩))::L) (br b t cs::C)):
 RJ E ops Q (⟨some d,.alloc t,ty,ps,af,g⟩::rest) D L C:=Hm (IM h) hz (IC h) k
/-- a store into the block at the place i of the state -/
def sF (ops:Array Oper) (L:List (Nat×Value)) (g:Option (Nat×Bool)) (x y:Operand):Option (Value×Value):=match ju ops L g with
 |true=>match ev L x,ev L y with
  |some u,some v=>some (u,v)
  |_,_=>none
 |false=>none
theorem AX {ops:Array Oper} {L:List (Nat×Value)} {g:Option (Nat×Bool)} {x y:Operand} {u v:Value} (h:sF ops L g x y=some (u,v)):ju ops L g=true∧ev L x=some u∧ev L y=some v:=by
 unfold sF at h
 split at h
 ·rename_i hb
  split at h
  ·rename_i hx hy; cases h; exact ⟨hb,hx,hy⟩
  ·cases h
 ·cases h
theorem Lv {t n b o tt:Nat} {x y:Operand} {v:Value} {cs cs':List Value} {C':List aq} (i:Nat) (h:sF ops L g x y=some (.pointer (some ⟨b,o,none⟩),v)) (ht:(tK E.P t).map (·.2)=some n) (hC:C[i]? =some (br b tt cs))
 (hk:(v.cells.toList.length==n&&v.cells.toList.all Value.oneCell'&&Nat.ble (o+n) cs.length)=true) (hcs:cs.take o++v.cells.toList++cs.drop (o+n)=cs') (hC':C.set i (br b tt cs')=C') (k:RJ E ops Q rest D L C'):
 RJ E ops Q (⟨none,.store t x y,ty,ps,af,g⟩::rest) D L C:=by
 obtain ⟨h1,h2,h3⟩:=AX h
 simp only [cS,beq_iff_eq] at hk
 exact qQ i h1 h2 h3 ht rfl hk.1.1 hk.1.2 hC hk.2 hcs hC' k
/-- a store of a whole block, by a struct, by one cell -/
theorem IX {t n b tt:Nat} {x y:Operand} {cs cs':List Value} {C':List aq} (i:Nat) (h:sF ops L g x y=some (.pointer (some ⟨b,0,none⟩),.agg cs'.toArray)) (ht:(tK E.P t).map (·.2)=some n) (hC:C[i]? =some (br b tt cs))
 (hk:(Nat.beq cs'.length n&&cs'.all Value.oneCell'&&Nat.beq n cs.length)=true) (hC':C.set i (br b tt cs')=C') (k:RJ E ops Q rest D L C'):
 RJ E ops Q (⟨none,.store t x y,ty,ps,af,g⟩::rest) D L C:=by
 obtain ⟨h1,h2,h3⟩:=AX h
 simp only [cS] at hk
 obtain ⟨⟨hk1,hk2⟩,hk3⟩:=hk
 have e1:=Nat.eq_of_beq_eq_true hk1
 have e3:=Nat.eq_of_beq_eq_true hk3
 exact qQ i h1 h2 h3 ht rfl e1 hk2 hC (by rw [Nat.zero_add,e3]; exact Nat.ble_self_eq_true _) (by rw [Nat.zero_add,e3,List.take_zero,List.drop_length]; show []++cs'++[]=cs'; simp) hC' k
theorem NI {t n b tt:Nat} {x y:Operand} {v u:Value} {C':List aq} (i:Nat) (h:sF ops L g x y=some (.pointer (some ⟨b,0,none⟩),v)) (ht:(tK E.P t).map (·.2)=some n) (hC:C[i]? =some (br b tt [u]))
 (hv:v.cells.toList=[v]) (hk:(Nat.beq n 1&&v.oneCell')=true) (hC':C.set i (br b tt [v])=C') (k:RJ E ops Q rest D L C'):
 RJ E ops Q (⟨none,.store t x y,ty,ps,af,g⟩::rest) D L C:=by
 obtain ⟨h1,h2,h3⟩:=AX h
 rw [cS] at hk
 obtain ⟨hk1,hk2⟩:=hk
 have e1:=Nat.eq_of_beq_eq_true hk1
 subst e1
 exact qQ i h1 h2 h3 ht hv rfl (by simp [hk2]) hC rfl rfl hC' k
theorem f_ {t n b tt:Nat} {x y:Operand} {cs cs':List Value} (h:sF ops L g x y=some (.pointer (some ⟨b,0,none⟩),.agg cs'.toArray)) (ht:(tK E.P t).map (·.2)=some n) (hk:(Nat.beq cs'.length n&&cs'.all Value.oneCell'&&Nat.beq n cs.length)=true) (k:RJ E ops Q rest D L (br b tt cs'::C)):RJ E ops Q (⟨none,.store t x y,ty,ps,af,g⟩::rest) D L (br b tt cs::C):=IX 0 h ht rfl hk rfl k
theorem GW {t n b tt:Nat} {x y:Operand} {v u:Value} (h:sF ops L g x y=some (.pointer (some ⟨b,0,none⟩),v)) (ht:(tK E.P t).map (·.2)=some n) (hv:v.cells.toList=[v]) (hk:(Nat.beq n 1&&v.oneCell')=true) (k:RJ E ops Q rest D L (br b tt [v]::C)):RJ E ops Q (⟨none,.store t x y,ty,ps,af,g⟩::rest) D L (br b tt [u]::C):=NI 0 h ht rfl hv hk rfl k
theorem oV {t n b tt:Nat} {x y:Operand} {cs cs':List Value} {A0:aq} (h:sF ops L g x y=some (.pointer (some ⟨b,0,none⟩),.agg cs'.toArray)) (ht:(tK E.P t).map (·.2)=some n) (hk:(Nat.beq cs'.length n&&cs'.all Value.oneCell'&&Nat.beq n cs.length)=true) (k:RJ E ops Q rest D L (A0::br b tt cs'::C)):RJ E ops Q (⟨none,.store t x y,ty,ps,af,g⟩::rest) D L (A0::br b tt cs::C):=IX 1 h ht rfl hk rfl k
theorem wb {t n b tt:Nat} {x y:Operand} {cs cs':List Value} {A0 A1:aq} (h:sF ops L g x y=some (.pointer (some ⟨b,0,none⟩),.agg cs'.toArray)) (ht:(tK E.P t).map (·.2)=some n) (hk:(Nat.beq cs'.length n&&cs'.all Value.oneCell'&&Nat.beq n cs.length)=true) (k:RJ E ops Q rest D L (A0::A1::br b tt cs'::C)):RJ E ops Q (⟨none,.store t x y,ty,ps,af,g⟩::rest) D L (A0::A1::br b tt cs::C):=IX 2 h ht rfl hk rfl k
theorem N2 (cs':List Value) {t n b o tt:Nat} {x y:Operand} {v:Value} {cs:List Value} {A0 A1:aq} (h:sF ops L g x y=some (.pointer (some ⟨b,o,none⟩),v)) (ht:(tK E.P t).map (·.2)=some n) (hk:(v.cells.toList.length==n&&v.cells.toList.all Value.oneCell'&&Nat.ble (o+n) cs.length)=true) (hcs:cs.take o++v.cells.toList++cs.drop (o+n)=cs') (k:RJ E ops Q rest D L (A0::A1::br b tt cs'::C)):RJ E ops Q (⟨none,.store t x y,ty,ps,af,g⟩::rest) D L (A0::A1::br b tt cs::C):=Lv 2 h ht rfl hk hcs rfl k
theorem GZ {t n b tt:Nat} {x y:Operand} {cs cs':List Value} {A0 A1 A2:aq} (h:sF ops L g x y=some (.pointer (some ⟨b,0,none⟩),.agg cs'.toArray)) (ht:(tK E.P t).map (·.2)=some n) (hk:(Nat.beq cs'.length n&&cs'.all Value.oneCell'&&Nat.beq n cs.length)=true) (k:RJ E ops Q rest D L (A0::A1::A2::br b tt cs'::C)):RJ E ops Q (⟨none,.store t x y,ty,ps,af,g⟩::rest) D L (A0::A1::A2::br b tt cs::C):=IX 3 h ht rfl hk rfl k
theorem NZ {t n b tt:Nat} {x y:Operand} {v u:Value} {A0 A1 A2:aq} (h:sF ops L g x y=some (.pointer (some ⟨b,0,none⟩),v)) (ht:(tK E.P t).map (·.2)=some n) (hv:v.cells.toList=[v]) (hk:(Nat.beq n 1&&v.oneCell')=true) (k:RJ E ops Q rest D L (A0::A1::A2::br b tt [v]::C)):RJ E ops Q (⟨none,.store t x y,ty,ps,af,g⟩::rest) D L (A0::A1::A2::br b tt [u]::C):=NI 3 h ht rfl hv hk rfl k
theorem Jo (cs':List Value) {t n b o tt:Nat} {x y:Operand} {v:Value} {cs:List Value} {A0 A1 A2:aq} (h:sF ops L g x y=some (.pointer (some ⟨b,o,none⟩),v)) (ht:(tK E.P t).map (·.2)=some n) (hk:(v.cells.toList.length==n&&v.cells.toList.all Value.oneCell'&&Nat.ble (o+n) cs.length)=true) (hcs:cs.take o++v.cells.toList++cs.drop (o+n)=cs') (k:RJ E ops Q rest D L (A0::A1::A2::br b tt cs'::C)):RJ E ops Q (⟨none,.store t x y,ty,ps,af,g⟩::rest) D L (A0::A1::A2::br b tt cs::C):=Lv 3 h ht rfl hk hcs rfl k
theorem Kw {t n b tt:Nat} {x y:Operand} {cs cs':List Value} {A0 A1 A2 A3:aq} (h:sF ops L g x y=some (.pointer (some ⟨b,0,none⟩),.agg cs'.toArray)) (ht:(tK E.P t).map (·.2)=some n) (hk:(Nat.beq cs'.length n&&cs'.all Value.oneCell'&&Nat.beq n cs.length)=true) (k:RJ E ops Q rest D L (A0::A1::A2::A3::br b tt cs'::C)):RJ E ops Q (⟨none,.store t x y,ty,ps,af,g⟩::rest) D L (A0::A1::A2::A3::br b tt cs::C):=IX 4 h ht rfl hk rfl k
theorem Oh (cs':List Value) {t n b o tt:Nat} {x y:Operand} {v:Value} {cs:List Value} {A0 A1 A2 A3:aq} (h:sF ops L g x y=some (.pointer (some ⟨b,o,none⟩),v)) (ht:(tK E.P t).map (·.2)=some n) (hk:(v.cells.toList.length==n&&v.cells.toList.all Value.oneCell'&&Nat.ble (o+n) cs.length)=true) (hcs:cs.take o++v.cells.toList++cs.drop (o+n)=cs') (k:RJ E ops Q rest D L (A0::A1::A2::A3::br b tt cs'::C)):RJ E ops Q (⟨none,.store t x y,ty,ps,af,g⟩::rest) D L (A0::A1::A2::A3::br b tt cs::C):=Lv 4 h ht rfl hk hcs rfl k
theorem Jp {t n b tt:Nat} {x y:Operand} {cs cs':List Value} {A0 A1 A2 A3 A4:aq} (h:sF ops L g x y=some (.pointer (some ⟨b,0,none⟩),.agg cs'.toArray)) (ht:(tK E.P t).map (·.2)=some n) (hk:(Nat.beq cs'.length n&&cs'.all Value.oneCell'&&Nat.beq n cs.length)=true) (k:RJ E ops Q rest D L (A0::A1::A2::A3::A4::br b tt cs'::C)):RJ E ops Q (⟨none,.store t x y,ty,ps,af,g⟩::rest) D L (A0::A1::A2::A3::A4::br b tt cs::C):=IX 5 h ht rfl hk rfl k
theorem Of (cs':List Value) {t n b o tt:Nat} {x y:Operand} {v:Value} {cs:List Value} {A0 A1 A2 A3 A4:aq} (h:sF ops L g x y=some (.pointer (some ⟨b,o,none⟩),v)) (ht:(tK E.P t).map (·.2)=some n) (hk:(v.cells.toList.length==n&&v.cells.toList.all Value.oneCell'&&Nat.ble (o+n) cs.length)=true) (hcs:cs.take o++v.cells.toList++cs.drop (o+n)=cs') (k:RJ E ops Q rest D L (A0::A1::A2::A3::A4::br b tt cs'::C)):RJ E ops Q (⟨none,.store t x y,ty,ps,af,g⟩::rest) D L (A0::A1::A2::A3::A4::br b tt cs::C):=Lv 5 h ht rfl hk hcs rfl k
theorem Oe {t n b tt:Nat} {x y:Operand} {v u:Value} {A0 A1 A2 A3 A4 A5:aq} (h:sF ops L g x y=some (.pointer (some ⟨b,0,none⟩),v)) (ht:(tK E.P t).map (·.2)=some n) (hv:v.cells.toList=[v]) (hk:(Nat.beq n 1&&v.oneCell')=true) (k:RJ E ops Q rest D L (A0::A1::A2::A3::A4::A5::br b tt [v]::C)):RJ E ops Q (⟨none,.store t x y,ty,ps,af,g⟩::rest) D L (A0::A1::A2::A3::A4::A5::br b tt [u]::C):=NI 6 h ht rfl hv hk rfl k
theorem Oj (cs':List Value) {t n b o tt:Nat} {x y:Operand} {v:Value} {cs:List Value} {A0 A1 A2 A3 A4 A5:aq} (h:sF ops L g x y=some (.pointer (some ⟨b,o,none⟩),v)) (ht:(tK E.P t).map (·.2)=some n) (hk:(v.cells.toList.length==n&&v.cells.toList.all Value.oneCell'&&Nat.ble (o+n) cs.length)=true) (hcs:cs.take o++v.cells.toList++cs.drop (o+n)=cs') (k:RJ E ops Q rest D L (A0::A1::A2::A3::A4::A5::br b tt cs'::C)):RJ E ops Q (⟨none,.store t x y,ty,ps,af,g⟩::rest) D L (A0::A1::A2::A3::A4::A5::br b tt cs::C):=Lv 6 h ht rfl hk hcs rfl k
theorem NW {t n b tt:Nat} {x y:Operand} {cs cs':List Value} {A0 A1 A2 A3 A4 A5 A6 A7:aq} (h:sF ops L g x y=some (.pointer (some ⟨b,0,none⟩),.agg cs'.toArray)) (ht:(tK E.P t).map (·.2)=some n) (hk:(Nat.beq cs'.length n&&cs'.all Value.oneCell'&&Nat.beq n cs.length)=true) (k:RJ E ops Q rest D L (A0::A1::A2::A3::A4::A5::A6::A7::br b tt cs'::C)):RJ E ops Q (⟨none,.store t x y,ty,ps,af,g⟩::rest) D L (A0::A1::A2::A3::A4::A5::A6::A7::br b tt cs::C):=IX 8 h ht rfl hk rfl k
theorem N4 {t n b tt:Nat} {x y:Operand} {cs cs':List Value} {A0 A1 A2 A3 A4 A5 A6 A7 A8:aq} (h:sF ops L g x y=some (.pointer (some ⟨b,0,none⟩),.agg cs'.toArray)) (ht:(tK E.P t).map (·.2)=some n) (hk:(Nat.beq cs'.length n&&cs'.all Value.oneCell'&&Nat.beq n cs.length)=true) (k:RJ E ops Q rest D L (A0::A1::A2::A3::A4::A5::A6::A7::A8::br b tt cs'::C)):RJ E ops Q (⟨none,.store t x y,ty,ps,af,g⟩::rest) D L (A0::A1::A2::A3::A4::A5::A6::A7::A8::br b tt cs::C):=IX 9 h ht rfl hk rfl k
end
section
variable {E:e9} {y:Code} {Q:dj} {D:List Deferred} {L:List (Nat×Value)} {C:List aq}
theorem WS {id:Nat} {ops:Array Oper} (h: ∀ K:Act→World→Prop,(∀ D L C,WJ E y Q D L C→KJ E K D L C)→RJ E ops (Exit.then K Q) ops.toList D L C):WJ E (.seq (.region id ops false) y) Q D L C:=ai fun K hK=>ak (h K hK)
theorem RK {ops:Array Oper} {K:Act→World→Prop} {Q':dj} (hK: ∀ D L C,WJ E y Q D L C→KJ E K D L C) (k:WJ E y Q D L C):RJ E ops (Exit.then K Q') [] D L C:=aB (aN (hK _ _ _ k))
theorem KK {K:Act→World→Prop} {Q':dj} (hK: ∀ D L C,WJ E y Q D L C→KJ E K D L C) (k:WJ E y Q D L C):KJ E (Exit.then K Q' .normal) D L C:=aN (hK _ _ _ k)
theorem WK {K:Act→World→Prop} {Q':dj} (hK: ∀ D L C,WJ E y Q D L C→KJ E K D L C) (k:WJ E y Q D L C):WJ E .skip (Exit.then K Q') D L C:=bZ (aN (hK _ _ _ k))
end
theorem DT {p:Prop} [Decidable p] (h:decide p=true):p:=of_decide_eq_true h
theorem DF {p:Prop} [Decidable p] (h:decide p=false): ¬ p:=of_decide_eq_false h
theorem XT {p:Prop} [Decidable p] (h:(!decide p)=true): ¬ p:=by simpa using h
theorem XF {p:Prop} [Decidable p] (h:(!decide p)=false):p:=by simpa using h
/-- what a function hands back: one result, two, three, that lie in slots -/
theorem Q1 {E:e9} {fn:Func} {K:Act→World→Prop} {L:List (Nat×Value)} {C:List aq} {t:Nat} {u v:Value} (hQ: ∀ D L C,LJ E fn (Dk E.w0 v) D L C→KJ E K D L C) (hS:E.S=wG) (hr:fn.results.toList=[.tmp t]) (hl:L.lookup t=some u) (e:u=v):KJ E K [] L C:=
 hQ _ _ _ (aZ (vs:=[u]) (by rw [hr]; exact ⟨hl,trivial⟩) fun w hs=>eM e (by rw [hS] at hs; exact hs))
theorem Q2 {E:e9} {fn:Func} {K:Act→World→Prop} {L:List (Nat×Value)} {C:List aq} {t s:Nat} {u x v:Value} (hQ: ∀ D L C,LJ E fn (Dk E.w0 v) D L C→KJ E K D L C) (hS:E.S=wG) (hr:fn.results.toList=[.tmp t,.tmp s]) (hl:L.lookup t=some u) (hm:L.lookup s=some x) (e:vT [u,x]=v):KJ E K [] L C:=
 hQ _ _ _ (aZ (vs:=[u,x]) (by rw [hr]; exact ⟨hl,hm,trivial⟩) fun w hs=>eM e (by rw [hS] at hs; exact hs))
theorem N1 {E:e9} {ops:Array Oper} {D:List Deferred} {C' C1:List aq} {F:List (Nat×Value)→List aq→Prop} {tb rem:List Nat} {n:Nat} {L:List (Nat×Value)} {C:List aq} (i:Nat)
 (h:yQ E ops D C' C1 F tb n (rem.filter (· != i)) i L C) (hm:rem.filter (fun i=>rem.all fun j=> !g9 (oW ops) j i)=[i]:=by kernel_rfl):TN E ops D C' C1 F tb (n+1) rem L C:=ox [i] hm (jG h qP)
theorem NO {E:e9} {ops:Array Oper} {D:List Deferred} {C' C1:List aq} {F:List (Nat×Value)→List aq→Prop} {tb rem:List Nat} {n i:Nat} {L:List (Nat×Value)} {C:List aq} {o:Oper} (ho:ops[i]? =some o) (ht:tb.contains i=false) (rem':List Nat)
 (h: ∀ K:Act→World→Prop,(∀ L' C'',(∀ w,St E.S E.w0 C'' w→St E.S E.w0 C' w)→TN E ops D C' C1 F tb n rem' L' C''→KJ E K D L' C'')→RJ E ops (NQ K) [o] D L C) (hr:rem=rem':=by kernel_rfl):yQ E ops D C' C1 F tb n rem i L C:=Ny ho hr ht h
theorem RD {E:e9} {ops:Array Oper} {K:Act→World→Prop} {D:List Deferred} {L:List (Nat×Value)} {C C':List aq} {X:List (Nat×Value)→List aq→Prop} (hT: ∀ L' C'',(∀ w,St E.S E.w0 C'' w→St E.S E.w0 C' w)→X L' C''→KJ E K D L' C'')
 (k:Nat) (h2:C.drop k=C') (h:X L C):RJ E ops (NQ K) [] D L C:=aB (hT _ _ (fun w hs=>h2▸hs.take (List.drop_sublist k C)) h)
theorem aL {L L':List (Nat×Value)} (h:L'.map (fun p=>L.lookup p.1)=L'.map (fun p=>some p.2)):dK L L':=by
 induction L' with
 |nil=>exact dK.nil _
 |cons p t ih=>
  simp only [List.map_cons,List.cons.injEq] at h
  exact dK.cons h.1 (ih h.2)
theorem JS {C:List aq} {A A' B B' D D':aq} (i j k:Nat) (h1:C[i]? =some A') (e1:A'.holds=A.holds) (h2:C[j]? =some B') (e2:B'.holds=B.holds) (h3:C[k]? =some D') (e3:D'.holds=D.holds):kG C [A,B,D]:=cw i h1 e1 (cw j h2 e2 (cw k h3 e3 aT))
theorem bM {E:e9} {c:Operand} {x y:Code} {b:Bool} {Q:dj} {D:List Deferred} {L:List (Nat×Value)} {C:List aq} (hc:ev L c=some (.bool b)) (h2:b=false→WJ E y Q D L C) (h1:b=true→WJ E x Q D L C):WJ E (.cond c x y) Q D L C:=cP hc h1 h2
theorem dp {E:e9} {ops:Array Oper} {Q:dj} {rest:List Oper} {D:List Deferred} {L:List (Nat×Value)} {C:List aq} {t:Nat} {b:Bool} (h:L.lookup t=some (.bool b)) (h2:b=false→RJ E ops Q rest D ((t,.bool false)::L) C) (h1:b=true→RJ E ops Q rest D ((t,.bool true)::L) C):RJ E ops Q rest D L C:=c8 h h1 h2
theorem jT {E:e9} {ops:Array Oper} {Q:dj} {rest:List Oper} {D:List Deferred} {L:List (Nat×Value)} {C:List aq} {t:Nat} {b:Bool} {os:List Oper} (h:L.lookup t=some (.bool b)) (h2:b=false→DJ E ops D C (fun L2=>RJ E ops Q rest D L2 C) os ((t,.bool false)::L)) (h1:b=true→DJ E ops D C (fun L2=>RJ E ops Q rest D L2 C) os ((t,.bool true)::L)):DJ E ops D C (fun L2=>RJ E ops Q rest D L2 C) os L:=iL h h1 h2
theorem cv {L:List (Nat×Value)}: ∀ (k:Nat) {L2:List (Nat×Value)} (q:dK L (L2.drop k)) (h:(L2.take k).map (fun p=>L.lookup p.1)=(L2.take k).map (fun p=>some p.2):=by rfl),dK L L2
 |0,_,q,_=>q
 |_+1,[],_,_=>dK.nil _
 |k+1,p::L2,q,h=>by
  obtain ⟨h1,h2⟩:=List.cons.inj (show L.lookup p.1::(L2.take k).map (fun p=>L.lookup p.1)=some p.2::(L2.take k).map (fun p=>some p.2) from h)
  exact dK.cons (t:=p.1) (v:=p.2) h1 (cv k q h2)
theorem oX {E:e9} {ops:Array Oper} {Q:dj} {rest:List Oper} {D:List Deferred} {L:List (Nat×Value)} {C:List aq} {d:Nat} {ty:TypeId} {ps:String} {af:Array Edge} {g:Option (Nat×Bool)} {op:Op} (k:RJ E ops Q rest D ((d,undef)::L) C) (h:(z5 ops L g&&Nat.blt d E.n)=true:=by rfl):RJ E ops Q (⟨some d,op,ty,ps,af,g⟩::rest) D L C:=rS (OX h) k
theorem dX {E:e9} {ops:Array Oper} {F:List (Nat×Value)→Prop} {rest:List Oper} {D:List Deferred} {L:List (Nat×Value)} {C:List aq} {d:Nat} {ty:TypeId} {ps:String} {af:Array Edge} {g:Option (Nat×Bool)} {op:Op} (k:DJ E ops D C F rest ((d,undef)::L)) (h:(z5 ops L g&&Nat.blt d E.n)=true:=by rfl):DJ E ops D C F (⟨some d,op,ty,ps,af,g⟩::rest) L:=dS (OX h) k
end
section
open Go.RowKit
/-- what of a slice is left from k on -/
def D0 (A:OA) (c k sz:Nat):OA:=if c=k then A else A.map (·.add (k*sz))
section
variable {E:e9} {ops:Array Oper} {Q:dj} {rest:List Oper} {D:List Deferred} {L:List (Nat×Value)} {C:List aq}
variable {d:Nat} {ty:TypeId} {ps:String} {af:Array Edge} {g:Option (Nat×Bool)}
theorem Ct {P:Program} {t e sz:Nat} (h:tE P t=some (e,sz)) (w:World):P.underlying t=some (.slice e)∧(sizeOf e).run P w= .ok sz w:=by
 unfold tE at h
 split at h
 ·rename_i e' hu
  split at h
  ·rename_i i hi
   cases h
   exact ⟨hu,by simp [sizeOf,typeInfo,hi]⟩
  ·cases h
 ·cases h
theorem uv {P:Program} {t e:Nat} (h:P.underlying t=some (.slice e)):P.underlying t=some (.slice (P.elem t)):=by
 rw [h]; simp [Program.elem,h]
theorem Ce {P:Program} {t e:Nat} (h:P.underlying t=some (.slice e)):P.elem t=e:=by simp [Program.elem,h]
/-- s[k:] -/
theorem N0 (k:Nat) {x lo:Operand} {t e sz n c:Nat} {A:OA} {j:Int} (h:bF E.n ops L d g x lo=some (.slice A n c,.int .i64 j)) (ht:tE E.P t=some (e,sz)) (hj:j=(k:Int)) (hk:k≤n):
 SE E ops ⟨some d,.slice t x (some lo) none none,ty,ps,af,g⟩ D L C (.slice (D0 A c k sz) (n-k) (c-k)) d:=by
 obtain ⟨h1,h2,h3,h4⟩:=qF h
 subst hj
 refine ⟨dJ h1 sm fun a w hfr hs=>?_,rfl,h2⟩
 obtain ⟨hu,hz⟩:=Ct ht w
 have hr:=run_slice_l (P:=E.P) w t A n c (uv hu) .i64 (k:Int) om om
 rw [Ce hu,hz] at hr
 simp only [Result.andThen,Int.toNat_natCast,sliced] at hr
 have hs2:=run_sliceAt_slice (P:=E.P) w t (.slice A n c) (some (.int .i64 (k:Int))) none none (uv hu)
 simp [execOp,hfr.ev h3,hfr.ev h4,hs2,hr,D0]
/-- s[:k] -/
theorem N7 (k:Nat) {x hi:Operand} {t e sz n c:Nat} {A:OA} {j:Int} (h:bF E.n ops L d g x hi=some (.slice A n c,.int .i64 j)) (ht:tE E.P t=some (e,sz)) (hj:j=(k:Int)) (hk:k≤c):
 SE E ops ⟨some d,.slice t x none (some hi) none,ty,ps,af,g⟩ D L C (.slice A k c) d:=by
 obtain ⟨h1,h2,h3,h4⟩:=qF h
 subst hj
 refine ⟨dJ h1 sm fun a w hfr hs=>?_,rfl,h2⟩
 obtain ⟨hu,hz⟩:=Ct ht w
 have hr:=run_slice_h (P:=E.P) w t A n c (uv hu) .i64 (k:Int) om om
 rw [Ce hu,hz] at hr
 have e0:(if c=0 then A else A.map (·.add (0*sz)))=A:=by
  split
  ·rfl
  ·cases A with
   |none=>rfl
   |some ad=>simp [Addr.add]
 simp only [Result.andThen,Int.toNat_natCast,sliced,e0,Nat.sub_zero] at hr
 have hs2:=run_sliceAt_slice (P:=E.P) w t (.slice A n c) none (some (.int .i64 (k:Int))) none (uv hu)
 simp [execOp,hfr.ev h3,hfr.ev h4,hs2,hr]
end
theorem Ik {w:World} {a:OA} {c e sz:Nat} {es:List (List Value)} (h:(own a c e sz es).holds w):es.length≤c:=by
 rcases h.2.2 with ⟨h1,h2⟩|⟨g,cap,cur,hv,_,_,h4,_⟩
 ·omega
 ·injection hv with _ _ hc; omega
end
section
open Go.RowKit
/-- an array's length, its elements' type and their size -/
def aE (P:Program) (t:TypeId):Option (Nat×TypeId×Nat):=
 match P.underlying t with
 |some (.array n e)=>match P.info? e with
  |some i=>some (n,e,i.size)
  |none=>none
 |_=>none
theorem B4 {P:Program} {t n e sz:Nat} (h:aE P t=some (n,e,sz)) (w:World):P.underlying t=some (.array n e)∧(sizeOf e).run P w= .ok sz w:=by
 unfold aE at h
 split at h
 ·rename_i n' e' hu
  split at h
  ·rename_i i hi
   cases h
   exact ⟨hu,by simp [sizeOf,typeInfo,hi]⟩
  ·cases h
 ·cases h
theorem tW {P:Program} {t n e sz:Nat} (h:aE P t=some (n,e,sz)) (a:Addr) (w:World):
 (Instr.sliceAt t (.pointer (some a)) none none none).run P w= .ok (.slice (some a) n n) w:=by
 obtain ⟨hu,hz⟩:=B4 h w
 have e0:a.add 0=a:=by simp [Addr.add]
 simp [Instr.sliceAt,underlying,hu,Instr.sureAddr,Instr.sliceBounds,hz,e0]
theorem ub {P:Program} {t n e sz:Nat} (h:aE P t=some (n,e,sz)) (a:Addr) {k:Nat} (hk:k<n) (w:World):
 (Instr.indexAt t (.pointer (some a)) (.int .i64 (k:Int))).run P w= .ok (.pointer (some (a.add (k*sz)))) w:=by
 obtain ⟨hu,hz⟩:=B4 h w
 have h1: ¬ n≤k:=by omega
 simp [Instr.indexAt,underlying,hu,Instr.sureAddr,asIntOf,hz,h1]
 try exact fun h=>absurd h h1
 try omega
section
variable {E:e9} {ops:Array Oper} {Q:dj} {rest:List Oper} {D:List Deferred} {L:List (Nat×Value)} {C:List aq}
variable {dst:Option Nat} {ty:TypeId} {ps:String} {af:Array Edge} {g:Option (Nat×Bool)}
theorem Bb {x:Operand} {a:Addr} {t n e sz:Nat} (hg:ju ops L g=true) (hx:ev L x=some (.pointer (some a))) (ht:aE E.P t=some (n,e,sz)):
 SD E ops ⟨dst,.slice t x none none none,ty,ps,af,g⟩ D L C (.slice (some a) n n):=
 dJ hg sm fun b w hfr hs=>by
  simp [execOp,hfr.ev hx,tW ht]
theorem Bn {x ix:Operand} {a:Addr} {t n e sz k:Nat} {j:Int} (hg:ju ops L g=true) (hx:ev L x=some (.pointer (some a))) (hi:ev L ix=some (.int .i64 j)) (ht:aE E.P t=some (n,e,sz)) (hj:j=(k:Int)) (hk:k<n):
 SD E ops ⟨dst,.indexAddr t x ix,ty,ps,af,g⟩ D L C (.pointer (o3 (some a) (k*sz))):=
 dJ hg sm fun b w hfr hs=>by
  subst hj
  simp [execOp,hfr.ev hx,hfr.ev hi,o3,ub ht a hk]
end
end
section
open Go.RowKit
/-- a table of facts on the program's types -/
structure CB where
 tk:List (Nat×Bool×Nat)
 fo:List (Nat×List (Option Nat))
 sl:List Nat
def Kx {α:Type}:List (Nat×α)→Nat→Option α
 |[],_=>none
 |(k,v)::l,t=>match Nat.beq k t with
  |true=>some v
  |false=>Kx l t
theorem xI {α:Type}: ∀ {l:List (Nat×α)} {t:Nat} {v:α},Kx l t=some v→(t,v)∈l
 |[],t,v,h=>by simp [Kx] at h
 |(k,u)::l,t,v,h=>by
  unfold Kx at h
  split at h
  ·rename_i hb
   cases h
   rw [Nat.eq_of_beq_eq_true hb]; exact cZ
  ·exact dY _ (xI h)
def GP:List Nat→Nat→Bool
 |[],_=>false
 |k::l,t=>match Nat.beq k t with
  |true=>true
  |false=>GP l t
theorem zp: ∀ {l:List Nat} {t:Nat},GP l t=true→t∈l
 |[],t,h=>by simp [GP] at h
 |k::l,t,h=>by
  unfold GP at h
  split at h
  ·rename_i hb
   rw [Nat.eq_of_beq_eq_true hb]; exact cZ
  ·exact dY _ (zp h)
def CB.JC (T:CB) (t:Nat):Option (Bool×Nat):=Kx T.tk t
def CB.foF (T:CB) (s f:Nat):Option Nat:=match Kx T.fo s with
 |some l=>match l[f]? with
  |some (some k)=>some k
  |_=>none
 |none=>none
structure ql (P:Program) (T:CB):Prop where
 tk: ∀ p∈T.tk,tK P p.1=some p.2
 fo: ∀ p∈T.fo,∀ f k,p.2[f]? =some (some k)→uc P p.1 f=some k
 sl: ∀ t∈T.sl,∃ e,P.underlying t=some (.slice e)
theorem ql.JC {P:Program} {T:CB} (h:ql P T) {t:Nat} {r:Bool×Nat} (e:T.JC t=some r):tK P t=some r:=h.tk _ (xI e)
theorem ql.foF {P:Program} {T:CB} (h:ql P T) {s f k:Nat} (e:T.foF s f=some k):uc P s f=some k:=by
 unfold CB.foF at e
 split at e
 ·rename_i l hl
  split at e
  ·rename_i k' hk
   cases e
   exact h.fo _ (xI hl) f k hk
  ·cases e
 ·cases e
def MD (P:Program) (T:CB):Bool:=(T.tk.all fun p=>decide (tK P p.1=some p.2))&&(T.fo.all fun p=>(List.range p.2.length).all fun f=>match p.2[f]? with
 |some (some k)=>decide (uc P p.1 f=some k)
 |_=>true)&&T.sl.all fun t=>match P.underlying t with
 |some (.slice _)=>true
 |_=>false
theorem Kh {P:Program} {T:CB} (h:MD P T=true):ql P T:=by
 unfold MD at h
 rw [cS,cS] at h
 obtain ⟨⟨h1,h2⟩,h3⟩:=h
 refine ⟨fun p hp=>by simpa using List.all_eq_true.1 h1 p hp,fun p hp f k hk=>?_,fun t ht=>?_⟩
 ·have h4:=List.all_eq_true.1 (List.all_eq_true.1 h2 p hp) f (List.mem_range.2 (List.getElem?_eq_some_iff.1 hk).1)
  rw [hk] at h4
  simpa using h4
 ·have h4:=List.all_eq_true.1 h3 t ht
  split at h4
  ·rename_i e he; exact ⟨e,he⟩
  ·cases h4
end
section
theorem HD:tK Tryz.prog 3=some (false,1):=by kernel_rfl
theorem Oi:tK Tryz.prog 4=some (false,1):=by kernel_rfl
theorem M5:tK Tryz.prog 29=some (false,1):=by kernel_rfl
theorem NC:tK Tryz.prog 47=some (true,2):=by kernel_rfl
theorem M1:tK Tryz.prog 76=some (true,7):=by kernel_rfl
theorem MT:tK Tryz.prog 78=some (false,1):=by kernel_rfl
theorem MR:tK Tryz.prog 82=some (false,1):=by kernel_rfl
theorem NJ:tK Tryz.prog 86=some (false,1):=by kernel_rfl
theorem Mk:tK Tryz.prog 114=some (false,1):=by kernel_rfl
theorem KP:tK Tryz.prog 119=some (true,2):=by kernel_rfl
theorem Mw:tK Tryz.prog 121=some (false,1):=by kernel_rfl
theorem KY:tK Tryz.prog 137=some (true,3):=by kernel_rfl
theorem KQ:tK Tryz.prog 139=some (true,3):=by kernel_rfl
theorem LH:tK Tryz.prog 150=some (true,1):=by kernel_rfl
theorem KS:tK Tryz.prog 151=some (true,4):=by kernel_rfl
theorem LQ:tK Tryz.prog 163=some (true,9):=by kernel_rfl
theorem Lr:tK Tryz.prog 165=some (true,2):=by kernel_rfl
theorem Lf:tK Tryz.prog 216=some (true,1):=by kernel_rfl
theorem LF:tK Tryz.prog 232=some (true,3):=by kernel_rfl
theorem Le:tK Tryz.prog 274=some (false,1):=by kernel_rfl
theorem L6:tK Tryz.prog 280=some (false,1):=by kernel_rfl
theorem Lj:tK Tryz.prog 282=some (true,2):=by kernel_rfl
theorem DI:(tK Tryz.prog 3).map (·.2)=some 1:=by rw [HD]; rfl
theorem N9:(tK Tryz.prog 4).map (·.2)=some 1:=by rw [Oi]; rfl
theorem Ho:(tK Tryz.prog 29).map (·.2)=some 1:=by rw [M5]; rfl
theorem bY:(tK Tryz.prog 47).map (·.2)=some 2:=by rw [NC]; rfl
theorem Nh:(tK Tryz.prog 76).map (·.2)=some 7:=by rw [M1]; rfl
theorem NN:(tK Tryz.prog 78).map (·.2)=some 1:=by rw [MT]; rfl
theorem Nx:(tK Tryz.prog 82).map (·.2)=some 1:=by rw [MR]; rfl
theorem Jh:(tK Tryz.prog 86).map (·.2)=some 1:=by rw [NJ]; rfl
theorem Ma:(tK Tryz.prog 114).map (·.2)=some 1:=by rw [Mk]; rfl
theorem IY:(tK Tryz.prog 119).map (·.2)=some 2:=by rw [KP]; rfl
theorem KL:(tK Tryz.prog 121).map (·.2)=some 1:=by rw [Mw]; rfl
theorem qT:(tK Tryz.prog 137).map (·.2)=some 3:=by rw [KY]; rfl
theorem IK:(tK Tryz.prog 139).map (·.2)=some 3:=by rw [KQ]; rfl
theorem BF:(tK Tryz.prog 150).map (·.2)=some 1:=by rw [LH]; rfl
theorem Kz:(tK Tryz.prog 151).map (·.2)=some 4:=by rw [KS]; rfl
theorem EW:(tK Tryz.prog 163).map (·.2)=some 9:=by rw [LQ]; rfl
theorem uU:(tK Tryz.prog 165).map (·.2)=some 2:=by rw [Lr]; rfl
theorem E9:(tK Tryz.prog 216).map (·.2)=some 1:=by rw [Lf]; rfl
theorem L_:(tK Tryz.prog 232).map (·.2)=some 3:=by rw [LF]; rfl
theorem wv:(tK Tryz.prog 274).map (·.2)=some 1:=by rw [Le]; rfl
theorem Gv:(tK Tryz.prog 280).map (·.2)=some 1:=by rw [L6]; rfl
theorem qg:(tK Tryz.prog 282).map (·.2)=some 2:=by rw [Lj]; rfl
theorem xe:aE Tryz.prog 158=some (3,157,2):=by kernel_rfl
theorem MP:rW Tryz.prog 64=true:=by kernel_rfl
theorem gM (l:List aa): ∀ v∈(l.map aa.cells).flatten,v.oneCell'=true:=rv (fun _=>rfl) l
theorem qe:tA Tryz.prog 29=some (3,1,8,(vI 0)):=by kernel_rfl
theorem Ar:tA Tryz.prog 78=some (47,2,16,(Value.agg [(vI 0),(vI 0)].toArray)):=by kernel_rfl
theorem Ld:tA Tryz.prog 82=some (78,1,24,(vS none 0 0)):=by kernel_rfl
theorem I1:tA Tryz.prog 114=some (4,1,1,(vB false)):=by kernel_rfl
theorem ID:tA Tryz.prog 209=some (235,3,72,(Value.agg [(vS none 0 0),(vS none 0 0),(vS none 0 0)].toArray)):=by kernel_rfl
theorem KO:tA Tryz.prog 273=some (86,1,8,(Value.map none)):=by kernel_rfl
theorem zC:tA Tryz.prog 274=some (280,1,8,(Value.map none)):=by kernel_rfl
theorem fg:tB Tryz.prog 47=some ([(vI 0),(vI 0)],[(0,1),(1,1)]):=by kernel_rfl
theorem Lp:tB Tryz.prog 100=some ([(vS none 0 0),(vI 0),(vS none 0 0),(vS none 0 0),(vI 0),(vI 0),(vI 0),(vS none 0 0),(vS none 0 0),(vI 0),(vS none 0 0),(vS none 0 0),(Value.map none)],[(0,11),(11,1),(12,1)]):=by kernel_rfl
theorem LX:tB Tryz.prog 148=some ([(vI 0),(vI 0)],[(0,1),(1,1)]):=by kernel_rfl
theorem Cl:tB Tryz.prog 150=some ([Value.nilFunc],[(0,1)]):=by kernel_rfl
theorem LG:tB Tryz.prog 151=some ([Value.nilFunc,Value.nilFunc,Value.nilFunc,Value.nilFunc],[(0,1),(1,1),(2,1),(3,1)]):=by kernel_rfl
theorem Mn:tB Tryz.prog 165=some ([(vI 0),(vI 0)],[(0,1),(1,1)]):=by kernel_rfl
theorem LC:tB Tryz.prog 216=some ([(vS none 0 0)],[(0,1)]):=by kernel_rfl
theorem My:tB Tryz.prog 235=some ([(vS none 0 0),(vS none 0 0),(vS none 0 0)],[(0,1),(1,1),(2,1)]):=by kernel_rfl
theorem LL:tB Tryz.prog 276=some ([(vS none 0 0),(vI 0),(vS none 0 0),(vS none 0 0),(vI 0),(vI 0),(vI 0),(vI 0),(vI 0),(vS none 0 0),(vS none 0 0),(vS none 0 0),(vS none 0 0),(vS none 0 0)],[(0,7),(7,3),(10,1),(11,1),(12,1),(13,1)]):=by kernel_rfl
theorem yr:tB Tryz.prog 282=some ([(vI 0),(vI 0)],[(0,1),(1,1)]):=by kernel_rfl
theorem yJ:tE Tryz.prog 22=some (163,9):=by kernel_rfl
theorem F_:tE Tryz.prog 25=some (119,2):=by kernel_rfl
theorem wi:tE Tryz.prog 26=some (141,4):=by kernel_rfl
theorem dB:tE Tryz.prog 29=some (3,1):=by kernel_rfl
theorem zG:tE Tryz.prog 30=some (71,1):=by kernel_rfl
theorem EA:tE Tryz.prog 71=some (76,7):=by kernel_rfl
theorem A_:tE Tryz.prog 72=some (165,2):=by kernel_rfl
theorem jF:tE Tryz.prog 78=some (47,2):=by kernel_rfl
theorem E3:tE Tryz.prog 82=some (78,1):=by kernel_rfl
theorem Cm:tE Tryz.prog 114=some (4,1):=by kernel_rfl
theorem rp:tE Tryz.prog 117=some (137,3):=by kernel_rfl
theorem FX:tE Tryz.prog 154=some (157,2):=by kernel_rfl
theorem Bw:tE Tryz.prog 209=some (235,3):=by kernel_rfl
theorem FN:tE Tryz.prog 236=some (139,3):=by kernel_rfl
theorem IQ:tE Tryz.prog 272=some (268,1):=by kernel_rfl
theorem BX:tE Tryz.prog 273=some (86,1):=by kernel_rfl
theorem m7:tE Tryz.prog 274=some (280,1):=by kernel_rfl
theorem Fi:(match Tryz.prog.underlying 47 with |some (.struct fs)=>(fs[0]?).map (fun fl=>tK Tryz.prog fl.type)|_=>none)=some (some (false,1)):=by kernel_rfl
theorem ET:(match Tryz.prog.underlying 47 with |some (.struct fs)=>(fs[1]?).map (fun fl=>tK Tryz.prog fl.type)|_=>none)=some (some (false,1)):=by kernel_rfl
theorem N5:tV Tryz.prog 3=some (vI 0):=by kernel_rfl
theorem xz:tV Tryz.prog 47=some (Value.agg [(vI 0),(vI 0)].toArray):=by kernel_rfl
theorem BM:tX Tryz.prog 148=some (2,3):=by kernel_rfl
theorem B1:tX Tryz.prog 151=some (4,150):=by kernel_rfl
theorem lT:tZ Tryz.prog 3=some [(vI 0)]:=by kernel_rfl
theorem N_:tZ Tryz.prog 4=some [(vB false)]:=by kernel_rfl
theorem Ja:tZ Tryz.prog 12=some [(Value.int .u64 0)]:=by kernel_rfl
theorem cV:tZ Tryz.prog 47=some [(vI 0),(vI 0)]:=by kernel_rfl
theorem Nc:tZ Tryz.prog 76=some [(vB false),(vB false),(vI 0),(vI 0),(vI 0),(vI 0),(vS none 0 0)]:=by kernel_rfl
theorem Me:tZ Tryz.prog 78=some [(vS none 0 0)]:=by kernel_rfl
theorem NH:tZ Tryz.prog 86=some [(Value.map none)]:=by kernel_rfl
theorem IB:tZ Tryz.prog 119=some [(vI 0),(vS none 0 0)]:=by kernel_rfl
theorem LD:tZ Tryz.prog 121=some [(Value.map none)]:=by kernel_rfl
theorem rG:tZ Tryz.prog 137=some [(vI 0),(vI 0),(vI 0)]:=by kernel_rfl
theorem B0:tZ Tryz.prog 139=some [(vI 0),(vI 0),(vI 0)]:=by kernel_rfl
theorem BV:tZ Tryz.prog 150=some [Value.nilFunc]:=by kernel_rfl
theorem Lw:tZ Tryz.prog 151=some [Value.nilFunc,Value.nilFunc,Value.nilFunc,Value.nilFunc]:=by kernel_rfl
theorem Fh:tZ Tryz.prog 163=some [(vI 0),(vI 0),(vI 0),(vI 0),(vI 0),(vI 0),(vI 0),(Value.int .u8 0),(vI 0)]:=by kernel_rfl
theorem EU:tZ Tryz.prog 165=some [(vI 0),(vI 0)]:=by kernel_rfl
theorem F9:tZ Tryz.prog 216=some [(vS none 0 0)]:=by kernel_rfl
theorem IU:tZ Tryz.prog 232=some [(vS none 0 0),(vS none 0 0),(vS none 0 0)]:=by kernel_rfl
theorem Mg:tZ Tryz.prog 235=some [(vS none 0 0),(vS none 0 0),(vS none 0 0)]:=by kernel_rfl
theorem KA:tZ Tryz.prog 268=some [Value.nilFunc]:=by kernel_rfl
theorem rY:tZ Tryz.prog 282=some [(vI 0),(vI 0)]:=by kernel_rfl
theorem oZ:Tryz.prog.underlying 3=some (.int .i64):=by kernel_rfl
theorem NU:Tryz.prog.underlying 4=some .bool:=by kernel_rfl
theorem ML:Tryz.prog.underlying 5=some (.int .u8):=by kernel_rfl
theorem Og:Tryz.prog.underlying 9=some .string:=by kernel_rfl
theorem L9:Tryz.prog.underlying 22=some (.slice 163):=by kernel_rfl
theorem Nl:Tryz.prog.underlying 25=some (.slice 119):=by kernel_rfl
theorem Mc:Tryz.prog.underlying 26=some (.slice 141):=by kernel_rfl
theorem No:Tryz.prog.underlying 29=some (.slice 3):=by kernel_rfl
theorem M9:Tryz.prog.underlying 30=some (.slice 71):=by kernel_rfl
theorem MZ:Tryz.prog.underlying 71=some (.slice 76):=by kernel_rfl
theorem NL:Tryz.prog.underlying 72=some (.slice 165):=by kernel_rfl
theorem nJ:Tryz.prog.underlying 86=some (.map 3 47):=by kernel_rfl
theorem LO:Tryz.prog.underlying 117=some (.slice 137):=by kernel_rfl
theorem th:Tryz.prog.underlying 121=some (.map 3 4):=by kernel_rfl
theorem Lh:Tryz.prog.underlying 145=some (.int .u64):=by kernel_rfl
theorem Lg:Tryz.prog.underlying 179=some (.int .u64):=by kernel_rfl
theorem nH:Tryz.prog.underlying 280=some (.map 282 3):=by kernel_rfl
theorem Ko:fL Tryz.prog 47=some [(3,0),(3,1)]:=by kernel_rfl
theorem I7 (d:Nat) (s z:aa) (w:World):(Op.equalIn (d+2) 47 (.agg s.cells.toArray) (.agg z.cells.toArray)).run Tryz.prog w= .ok (decide (s=z)) w:=by
 have hc:(decide (s.Lo=z.Lo)&&(decide (s.Hi=z.Hi)&&true))=decide (s=z):=by rw [Bool.eq_iff_iff]; simp [aa.ext_iff]
 rw [← hc]
 exact vN (d+1) Ko w (rh w (jH HD rfl w) (jH HD rfl w) (ui _ oZ w) (rh w (jH HD rfl w) (jH HD rfl w) (ui _ oZ w) (BU w)))
theorem tL (x y:Operand) (s z:aa):g_ Tryz.prog .eql 47 x y (.agg s.cells.toArray) (.agg z.cells.toArray) (.bool (decide (s=z))):=Dd x y (yO Ko) fun w=>I7 9998 s z w
theorem Lx (x y:Operand) (s z:aa):g_ Tryz.prog .neq 47 x y (.agg s.cells.toArray) (.agg z.cells.toArray) (.bool (!decide (s=z))):=D7 x y (yO Ko) fun w=>I7 9998 s z w
theorem I9:fL Tryz.prog 282=some [(3,0),(3,1)]:=by kernel_rfl
theorem JQ (d:Nat) (s z:ao) (w:World):(Op.equalIn (d+2) 282 (.agg s.cells.toArray) (.agg z.cells.toArray)).run Tryz.prog w= .ok (decide (s=z)) w:=by
 have hc:(decide (s.right=z.right)&&(decide (s.dG=z.dG)&&true))=decide (s=z):=by rw [Bool.eq_iff_iff]; simp [ao.ext_iff]
 rw [← hc]
 exact vN (d+1) I9 w (rh w (jH HD rfl w) (jH HD rfl w) (ui _ oZ w) (rh w (jH HD rfl w) (jH HD rfl w) (ui _ oZ w) (BU w)))
theorem cD:Tryz.prog.follows .mixedOrders=true:=by kernel_rfl
def TT:CB:=⟨[(1,false,1),(2,false,1),(3,false,1),(4,false,1),(5,false,1),(6,false,1),(7,true,4),(8,true,4),(12,false,1),(15,false,1),(16,false,1),(17,false,1),(18,true,1),(19,true,1),(21,false,1),(22,false,1),(23,true,1),(24,true,1),(25,false,1),(26,false,1),(27,true,7),(28,true,7),(29,false,1),(30,false,1),(31,true,11),(32,true,11),(33,false,1),(34,false,1),(36,false,1),(38,false,1),(40,false,1),(42,false,1),(43,false,1),(44,false,1),(45,false,1),(46,true,2),(47,true,2),(49,false,1),(51,false,1),(52,false,1),(53,false,1),(54,false,1),(55,false,1),(56,false,1),(57,false,1),(59,false,1),(61,false,1),(63,false,1),(65,false,1),(66,false,1),(67,false,1),(68,false,1),(69,false,1),(70,false,1),(71,false,1),(72,false,1),(73,true,3),(74,true,3),(75,true,7),(76,true,7),(77,false,1),(78,false,1),(80,false,1),(81,false,1),(82,false,1),(84,false,1),(85,false,1),(86,false,1),(87,false,1),(89,false,1),(90,false,1),(92,false,1),(93,false,1),(94,false,1),(96,false,1),(97,false,1),(98,false,1),(99,true,13),(100,true,13),(101,false,1),(102,false,1),(103,false,1),(104,false,1),(105,false,1),(106,false,1),(107,false,1),(108,false,1),(109,false,1),(110,false,1),(111,false,1),(112,false,1),(113,false,1),(114,false,1),(115,false,1),(116,false,1),(117,false,1),(118,true,2),(119,true,2),(120,false,1),(121,false,1),(122,false,1),(123,false,1),(124,false,1),(125,false,1),(127,false,1),(128,false,1),(129,false,1),(130,false,1),(131,false,1),(132,false,1),(133,false,1),(134,false,1),(135,false,1),(136,true,3),(137,true,3),(138,true,3),(139,true,3),(140,true,4),(141,true,4),(142,false,1),(143,false,1),(144,false,1),(145,false,1),(146,false,1),(147,false,1),(148,true,2),(149,false,1),(150,true,1),(151,true,4),(152,false,1),(153,false,1),(154,false,1),(155,false,1),(156,true,2),(157,true,2),(158,true,6),(159,false,1),(160,false,1),(161,false,1),(162,true,9),(163,true,9),(164,true,2),(165,true,2),(166,false,1),(167,false,1),(168,false,1),(170,false,1),(171,false,1),(172,false,1),(173,false,1),(175,false,1),(176,false,1),(177,false,1),(178,false,1),(179,false,1),(180,false,1),(181,false,1),(182,false,1),(183,false,1),(184,false,1),(185,false,1),(186,false,1),(187,false,1),(188,false,1),(189,false,1),(190,false,1),(191,false,1),(192,false,1),(193,false,1),(194,false,1),(195,false,1),(196,false,1),(197,false,1),(198,false,1),(199,false,1),(200,false,1),(201,false,1),(202,false,1),(203,false,1),(204,false,1),(205,false,1),(206,false,1),(207,false,1),(208,false,1),(209,false,1),(211,false,1),(212,false,1),(213,false,1),(214,false,1),(215,true,1),(216,true,1),(218,false,1),(219,false,1),(221,false,1),(222,false,1),(223,false,1),(224,false,1),(226,false,1),(227,false,1),(228,false,1),(229,false,1),(230,false,1),(231,true,3),(232,true,3),(233,false,1),(234,true,3),(235,true,3),(236,false,1),(237,false,1),(238,false,1),(239,false,1),(240,false,1),(241,false,1),(242,false,1),(243,false,1),(244,false,1),(245,false,1),(246,false,1),(247,false,1),(250,true,0),(251,true,0),(252,true,0),(253,false,1),(254,false,1),(255,false,1),(256,false,1),(257,false,1),(258,false,1),(259,false,1),(260,true,11),(261,true,11),(263,false,1),(264,false,1),(265,false,1),(267,false,1),(268,false,1),(269,false,1),(270,false,1),(271,false,1),(272,false,1),(273,false,1),(274,false,1),(275,true,14),(276,true,14),(277,false,1),(278,false,1),(279,false,1),(280,false,1),(281,true,2),(282,true,2),(283,false,1),(284,false,1),(285,false,1),(286,false,1)],[(7,[some 0,some 1,some 2,some 3]),(8,[some 0,some 1,some 2,some 3]),(18,[some 0]),(19,[some 0]),(23,[some 0]),(24,[some 0]),(27,[some 0,some 1,some 2,some 3,some 4,some 5,some 6]),(28,[some 0,some 1,some 2,some 3,some 4,some 5,some 6]),(31,[some 0,some 7,some 8,some 9,some 10]),(32,[some 0,some 7,some 8,some 9,some 10]),(46,[some 0,some 1]),(47,[some 0,some 1]),(73,[some 0,some 1,some 2]),(74,[some 0,some 1,some 2]),(75,[some 0,some 1,some 2,some 4]),(76,[some 0,some 1,some 2,some 4]),(99,[some 0,some 11,some 12]),(100,[some 0,some 11,some 12]),(118,[some 0,some 1]),(119,[some 0,some 1]),(136,[some 0,some 1]),(137,[some 0,some 1]),(138,[some 0,some 1]),(139,[some 0,some 1]),(140,[some 0,some 3]),(141,[some 0,some 3]),(150,[some 0]),(156,[some 0,some 1]),(157,[some 0,some 1]),(162,[some 0,some 1,some 3,some 5,some 7,some 8]),(163,[some 0,some 1,some 3,some 5,some 7,some 8]),(164,[some 0,some 1]),(165,[some 0,some 1]),(215,[some 0]),(216,[some 0]),(231,[some 0,some 1,some 2]),(232,[some 0,some 1,some 2]),(234,[some 0,some 1,some 2]),(235,[some 0,some 1,some 2]),(260,[some 0,some 1,some 2,some 3,some 4,some 5,some 6,some 7,some 8,some 9,some 10]),(261,[some 0,some 1,some 2,some 3,some 4,some 5,some 6,some 7,some 8,some 9,some 10]),(275,[some 0,some 7,some 10,some 11,some 12,some 13]),(276,[some 0,some 7,some 10,some 11,some 12,some 13]),(281,[some 0,some 1]),(282,[some 0,some 1])],[22,25,26,29,30,57,71,72,78,82,114,117,154,209,236,272,273,274]⟩
theorem Cr:ql Tryz.prog TT:=Kh kr
theorem bJ {t:TypeId} {x:Bool×Nat} (h:TT.JC t=some x:=by rfl):tK Tryz.prog t=some x:=Cr.JC h
theorem gp {s f k:Nat} (h:TT.foF s f=some k:=by rfl):uc Tryz.prog s f=some k:=Cr.foF h
end
section
open Go.RowKit
/-- blocks that are read -/
def MM (C:List aq) (M:List (Nat×List Value)):Prop:= ∀ p∈M,∀ o vs,(p.2.drop o).take vs.length=vs→At C (some ⟨p.1,o,none⟩) vs
theorem mn {C:List aq}:MM C []:=fun p h=>by cases h
theorem mc {C:List aq} {b t:Nat} {cs:List Value} {M:List (Nat×List Value)} (i:Nat) (hC:C[i]? =some (br b t cs)) (h:MM C M):MM C ((b,cs)::M):=fun p hp o vs hv=>by
 rcases List.mem_cons.1 hp with rfl|hp
 ·exact bQ i hC hv
 ·exact h p hp o vs hv
theorem mr {C:List aq} {b t:Nat} {cs:List Value} {M:List (Nat×List Value)} (i:Nat) (hC:C[i]? =some (br b t cs).ro) (h:MM C M):MM C ((b,cs)::M):=fun p hp o vs hv=>by
 rcases List.mem_cons.1 hp with rfl|hp
 ·exact ue i hC hv
 ·exact h p hp o vs hv
def wg:List Prop→Prop
 |[]=>True
 |p::l=>p∧wg l
theorem wU {p:Prop} {l:List Prop} (h:p) (h2:wg l):wg (p::l):=⟨h,h2⟩
/-- the value of an operation, what it asks for, and what is left of the list of places -/
def pv (T:CB) (ops:Array Oper) (M:List (Nat×List Value)) (L:List (Nat×Value)) (hs:List Nat) (g:Option (Nat×Bool)) (op:Op):Option (Value×List Prop×List Nat):=
 match z5 ops L g with
 |true=>some (undef,[],hs)
 |false=>match ju ops L g with
  |false=>none
  |true=>match op with
   | .move x=>match ev L x with
    |some v=>some (v,[],hs)
    |none=>none
   | .assign x=>match ev L x with
    |some v=>some (v,[],hs)
    |none=>none
   | .pick c x y=>match ev L c with
    |some (.bool true)=>match ev L x with
     |some v=>some (v,[],hs)
     |none=>none
    |some (.bool false)=>match ev L y with
     |some v=>some (v,[],hs)
     |none=>none
    |_=>none
   | .unOp .not _ x=>match ev L x with
    |some (.bool b)=>some (.bool !b,[],hs)
    |_=>none
   | .extract x i=>match ev L x with
    |some (.tuple vs)=>match vs.toList[i]? with
     |some v=>some (v,[],hs)
     |none=>none
    |_=>none
   | .fieldAddr s x f=>match ev L x with
    |some (.pointer (some ⟨b,o,none⟩))=>match T.foF s f with
     |some k=>some (.pointer (some ⟨b,o+k,none⟩),[],hs)
     |none=>none
    |_=>none
   | .binOp op _ x y _=>match ev L x with
    |some (.int .i64 a)=>match ev L y with
     |some (.int .i64 b)=>match op with
      | .lss=>some (.bool (decide (a<b)),[],hs)
      | .leq=>some (.bool (decide (a≤b)),[],hs)
      | .gtr=>some (.bool (decide (b<a)),[],hs)
      | .geq=>some (.bool (decide (b≤a)),[],hs)
      | .eql=>some (.bool (decide (a=b)),[],hs)
      | .neq=>some (.bool (!decide (a=b)),[],hs)
      | .add=>some (.int .i64 (a+b),[-9223372036854775808≤a+b,a+b≤9223372036854775807],hs)
      | .sub=>some (.int .i64 (a-b),[-9223372036854775808≤a-b,a-b≤9223372036854775807],hs)
      |_=>none
     |_=>none
    |_=>none
   | .load t x=>match ev L x with
    |some (.pointer (some ⟨b,o,none⟩))=>match M[hs.headD 0]? with
     |some (b',cs)=>match T.JC t with
      |some (false,_)=>match cs[o]? with
       |some v=>some (v,[b'=b],hs.tail)
       |none=>none
      |some (true,n)=>match Nat.beq o 0 with
       |true=>match Nat.beq cs.length n with
        |true=>some (.agg cs.toArray,[b'=b],hs.tail)
        |false=>none
       |false=>none
      |none=>none
     |none=>none
    |_=>none
   | .call c=>match c with
    |{callee:= .builtin .len,args:=xs,argTypes:=ts}=>match xs.toList with
     |[x]=>match ts.toList with
      |[t]=>match ev L x with
       |some (.slice A n c)=>match GP T.sl t with
        |true=>some (.int .i64 n,[],hs)
        |false=>none
       |_=>none
      |_=>none
     |_=>none
    |_=>none
   |_=>none
section
variable {E:e9} {T:CB} {ops:Array Oper} {M:List (Nat×List Value)} {D:List Deferred} {L:List (Nat×Value)} {C:List aq} {hs hs':List Nat}
theorem zf {cs:List Value} {o:Nat} {v:Value} (h:cs[o]? =some v):(cs.drop o).take [v].length=[v]:=by
 obtain ⟨hl,rfl⟩:=List.getElem?_eq_some_iff.1 h
 rw [List.drop_eq_getElem_cons hl]; rfl
theorem KU {o:Oper} {v:Value} {S:List Prop} (hT:ql E.P T) (hM:MM C M) (h:pv T ops M L hs o.guard o.op=some (v,S,hs')) (hS:wg S):SD E ops o D L C v:=by
 obtain ⟨dst,op,ty,ps,af,g⟩:=o
 unfold pv at h
 simp only at h
 split at h
 ·rename_i hg
  cases h
  exact GH hg
 ·split at h
  ·cases h
  ·rename_i hg
   split at h
   ·split at h
    ·rename_i hx; cases h; exact BT hg hx
    ·cases h
   ·split at h
    ·rename_i hx; cases h; exact wE hg hx
    ·cases h
   ·split at h
    ·rename_i hc
     split at h
     ·rename_i hx; cases h; exact wN hg hc hx
     ·cases h
    ·rename_i hc
     split at h
     ·rename_i hx; cases h; exact xd hg hc hx
     ·cases h
    ·cases h
   ·split at h
    ·rename_i hx; cases h; exact Ga hg hx
    ·cases h
   ·split at h
    ·rename_i vs hx
     split at h
     ·rename_i v' hv; cases h; exact uR (vs:=vs.toList) hg (by simpa using hx) hv
     ·cases h
    ·cases h
   ·split at h
    ·rename_i hx
     split at h
     ·rename_i hk; cases h; exact IG hg hx (hT.foF hk) rfl
     ·cases h
    ·cases h
   ·split at h
    ·rename_i hx
     split at h
     ·rename_i hy
      split at h
      ·cases h; exact cb hg hx hy gH
      ·cases h; exact cb hg hx hy Mb
      ·cases h; exact cb hg hx hy KR
      ·cases h; exact cb hg hx hy BY
      ·cases h; exact cb hg hx hy oR
      ·cases h; exact cb hg hx hy qj
      ·cases h; exact cb hg hx hy (g8 ⟨hS.1,hS.2.1⟩)
      ·cases h; exact cb hg hx hy (tM ⟨hS.1,hS.2.1⟩)
      ·cases h
     ·cases h
    ·cases h
   ·split at h
    ·rename_i hx
     split at h
     ·rename_i b' cs hm
      have hmem:=aw hm
      split at h
      ·rename_i hk
       split at h
       ·rename_i hv
        cases h
        obtain rfl:=hS.1
        exact td hg hx (hT.JC hk) (hM _ hmem _ _ (zf hv))
       ·cases h
      ·rename_i n hk
       split at h
       ·rename_i ho
        split at h
        ·rename_i hn
         cases h
         obtain rfl:=hS.1
         have e0:=Nat.eq_of_beq_eq_true ho
         subst e0
         exact uA hg hx (hT.JC hk) (hM _ hmem 0 cs sm) (Nat.eq_of_beq_eq_true hn)
        ·cases h
       ·cases h
      ·cases h
     ·cases h
    ·cases h
   ·split at h
    ·rename_i xs ts
     split at h
     ·rename_i x hxs
      split at h
      ·rename_i t hts
       split at h
       ·rename_i hx
        split at h
        ·rename_i hsl
         cases h
         obtain ⟨e,he⟩:=hT.sl t (zp hsl)
         have e1:xs= #[x]:=by apply Array.ext'; simpa using hxs
         have e2:ts= #[t]:=by apply Array.ext'; simpa using hts
         subst e1 e2
         exact Eg hg hx he
        ·cases h
       ·cases h
      ·cases h
     ·cases h
    ·cases h
   ·cases h
def pr (T:CB) (n:Nat) (ops:Array Oper) (M:List (Nat×List Value)):Nat→List Nat→List (Nat×Value)→List Oper→Option (List (Nat×Value)×List Oper×List Prop)
 |0,_,L,rest=>some (L,rest,[])
 |k+1,hs,L,[]=>none
 |k+1,hs,L,o::rest=>match o.dst with
  |none=>none
  |some d=>match Nat.blt d n with
   |false=>none
   |true=>match pv T ops M L hs o.guard o.op with
    |none=>none
    |some (v,S,hs')=>match pr T n ops M k hs' ((d,v)::L) rest with
     |none=>none
     |some (L',rest',S')=>some (L',rest',S++S')
theorem u3: ∀ {S S':List Prop},wg (S++S')→wg S∧wg S'
 |[],S',h=>⟨trivial,h⟩
 |p::S,S',h=>⟨⟨h.1,(u3 h.2).1⟩,(u3 h.2).2⟩
/-- whatever is closed under single steps -/
theorem FD {J:List Oper→List (Nat×Value)→Prop} (hT:ql E.P T) (hM:MM C M) (hJ: ∀ o rest L d v,SD E ops o D L C v→o.dst=some d→Nat.blt d E.n=true→J rest ((d,v)::L)→J (o::rest) L):
 ∀ (k:Nat) (hs:List Nat) (L:List (Nat×Value)) (rest:List Oper) {L':List (Nat×Value)} {rest':List Oper} {S:List Prop},pr T E.n ops M k hs L rest=some (L',rest',S)→wg S→J rest' L'→J rest L
 |0,hs,L,rest,L',rest',S,h,hS,hj=>by
  unfold pr at h
  cases h
  exact hj
 |k+1,hs,L,[],L',rest',S,h,hS,hj=>by unfold pr at h; cases h
 |k+1,hs,L,o::rest,L',rest',S,h,hS,hj=>by
  unfold pr at h
  split at h
  ·cases h
  ·rename_i d hd
   split at h
   ·cases h
   ·rename_i hn
    split at h
    ·cases h
    ·rename_i v S1 hs1 hv
     split at h
     ·cases h
     ·rename_i L1 r1 S2 hr
      cases h
      obtain ⟨h1,h2⟩:=u3 hS
      exact hJ o rest L d v (KU hT hM hv h1) hd hn (FD hT hM hJ k hs1 _ rest hr h2 hj)
variable {Q:dj} {rest rest':List Oper} {L0 L':List (Nat×Value)} {S:List Prop} {F:List (Nat×Value)→Prop}
/-- a run of operations, one after the other -/
theorem rP (k:Nat) (hs:List Nat) (hM:MM C M) (j:RJ E ops Q rest' D L' C) (hT:ql E.P T:=by exact Cr) (h:pr T E.n ops M k hs L rest=some (L0,rest',S):=by rfl) (hL:L0=L':=by (try dsimp only)<;>rfl) (hS:wg S:=by repeat' first|exact True.intro |refine wU ?_ ?_ |exact rfl|omega|(dsimp only; omega)):RJ E ops Q rest D L C:=by
 subst hL
 exact FD (J:=fun r L=>RJ E ops Q r D L C) hT hM (fun o rest L d v h1 h2 h3 h4=>Mt h1 h2 h3 h4) k hs L rest h hS j
theorem dP (k:Nat) (hs:List Nat) (hM:MM C M) (j:DJ E ops D C F rest' L') (hT:ql E.P T:=by exact Cr) (h:pr T E.n ops M k hs L rest=some (L0,rest',S):=by rfl) (hL:L0=L':=by (try dsimp only)<;>rfl) (hS:wg S:=by repeat' first|exact True.intro |refine wU ?_ ?_ |exact rfl|omega|(dsimp only; omega)):DJ E ops D C F rest L:=by
 subst hL
 exact FD (J:=fun r L=>DJ E ops D C F r L) hT hM (fun o rest L d v h1 h2 h3 h4=>Mr h1 h2 h3 h4) k hs L rest h hS j
end
end
section
open Go.RowKit
/-- parts of a context, reckoned to the end -/
def Eb (C:List aq):List Nat→Option (List aq)
 |[]=>some []
 |i::is=>match C[i]? with
  |some A=>match Eb C is with
   |some l=>some (A::l)
   |none=>none
  |none=>none
theorem BQ {C:List aq}: ∀ {is:List Nat} {C':List aq},Eb C is=some C'→lH C is=C'
 |[],C',h=>by cases h; rfl
 |i::is,C',h=>by
  unfold Eb at h
  split at h
  ·rename_i A hA
   split at h
   ·rename_i l hl
    cases h
    show List.filterMap (C[·]?) (i::is)=A::l
    rw [List.filterMap_cons_some hA]
    exact congrArg _ (BQ hl)
   ·cases h
  ·cases h
/-- a part of a context in place of the whole -/
theorem aG {S:BS} {w0:World} {C C':List aq} (is:List Nat) (hn:decide is.Nodup=true:=by rfl) (hC:lH C is=C':=by rfl): ∀ w,St S w0 C w→St S w0 C' w:=fun w h=>St.lH is hn hC h
theorem LY {S:BS} {w0:World} {C C':List aq} (is:List Nat) (hC:Eb C is=some C') (hn:decide is.Nodup=true:=by rfl): ∀ w,St S w0 C w→St S w0 C' w:=fun w h=>St.lH is hn (BQ hC) h
def Ix (C:List aq) (i:Nat) (B:aq):Option (List aq):=match i,C with
 |0,_::C=>some (B::C)
 |i+1,A::C=>match Ix C i B with
  |some l=>some (A::l)
  |none=>none
 |_,[]=>none
theorem B_: ∀ {C:List aq} {i:Nat} {B:aq} {C':List aq},Ix C i B=some C'→C.set i B=C'
 |[],0,B,C',h=>by cases h
 |[],i+1,B,C',h=>by cases h
 |A::C,0,B,C',h=>by cases h; rfl
 |A::C,i+1,B,C',h=>by
  unfold Ix at h
  split at h
  ·rename_i l hl
   cases h
   exact congrArg _ (B_ hl)
  ·cases h
theorem gT {E:e9} {K:Act→World→Prop} {D:List Deferred} {L:List (Nat×Value)} {C C':List aq} {A B:aq} (i:Nat) (hC:C[i]? =some A) (hh:(∀ w,A.holds w→B.holds w)∧(∀ b,B.eX b→A.eX b)∧ ∀ b,B.wf b→A.wf b) (hC':Ix C i B=some C') (h:KJ E K D L C'):KJ E K D L C:=ED i hC hh (B_ hC') h
/-- the operations of a region but these; marks of some places -/
def NF (n:Nat) (T:List Nat):List Nat:=(List.range n).filter fun i=> !T.contains i
def NV (k:Nat) (t:List Nat):List Bool:=(List.range k).map fun i=>t.contains i
theorem ep {E:e9} {id:Nat} {ops:Array Oper} {Q:dj} {D:List Deferred} {L:List (Nat×Value)} {C:List aq} (hm:E.P.follows .mixedOrders=true) (T fe tb i1 i2:List Nat) {C' C1:List aq} {free:List Nat} {feb tbb:List Bool}
 (h1:Eb C i1=some C') (h2:Eb C i2=some C1) (hf:free=NF ops.size T) (hfe:feb=NV free.length fe) (htb:tbb=NV T.length tb)
 (h:o0 E ops D C' C1 (fun L'=>TJ E ops D C' C1 (fun L C=>KJ E (Q .normal) D L C) tbb (eB ops T) L' C) feb (eB ops free) L)
 (hc:Ie ops free T feb tbb=true:=by kernel_rfl) (n1:decide i1.Nodup=true:=by rfl) (n2:decide i2.Nodup=true:=by rfl):WJ E (.region id ops true) Q D L C:=
 Ib hm free T feb tbb C' C1 hc (LY i1 h1 n1) (LY i2 h2 n2) h
end
section
open Go.RowKit
set_option linter.unusedSectionVars false
/-- what is asked of keys -/
structure sV (P:Program) (kt:Nat) {K:Type} (kV:K→Value):Prop where
 check: ∀ (e:Bool) (x:K) (w:World),(Instr.checkKey e 10000 kt (kV x)).run P w= .ok () w
 find: ∀ (x:K) (w:World) (es:List MapEntry),(∀ e∈es,∃ k,e.key=kV k)→
  ((Instr.findKey kt (kV x) es).run P w= .ok none w∧ ∀ e∈es,e.key≠kV x)∨ ∃ j e,(Instr.findKey kt (kV x) es).run P w= .ok (some (j,e.val)) w∧es[j]? =some e∧e.key=kV x
 bits: ∀ x,Instr.sameBits 10000 (kV x) (kV x)=true
 inj: ∀ x y,kV x=kV y→x=y
section
variable {K:Type} [DecidableEq K] {kV:K→Value}
def eg {β:Type} (l:List (K×β)) (x:K) (y:β):List (K×β):=if (l.lookup x).isSome then l.map (fun p=>if p.1=x then (x,y) else p) else l++[(x,y)]
def cj {β:Type} (l:List (K×β)) (x:K):List (K×β):=l.filter fun p=> !decide (p.1=x)
def bw {β γ:Type} (f:β→γ) (l:List (K×β)):List (K×γ):=l.map fun p=>(p.1,f p.2)
theorem DA {β γ:Type} (f:β→γ) (l:List (K×β)):(bw f l).length=l.length:=by simp [bw]
theorem l_ {β γ:Type} (f:β→γ) (x:K): ∀ l:List (K×β),(bw f l).lookup x=(l.lookup x).map f
 |[]=>rfl
 |p::l=>by
  obtain ⟨k,v⟩:=p
  have ih:=l_ f x l
  by_cases h:x=k
  ·subst h; simp [bw,List.lookup]
  ·have:(x==k)=false:=by simpa using h
   simp only [bw,List.map_cons,List.lookup,this] at ih ⊢
   exact ih
theorem gK {β γ:Type} (f:β→γ) (l:List (K×β)) (x:K) (y:β):bw f (eg l x y)=eg (bw f l) x (f y):=by
 unfold eg
 rw [l_,Option.isSome_map]
 split
 ·simp only [bw,List.map_map]
  refine List.map_congr_left fun p _=>?_
  simp only [Function.comp]
  split<;>rfl
 ·simp [bw]
theorem kS {β γ:Type} (f:β→γ) (l:List (K×β)) (x:K):bw f (cj l x)=cj (bw f l) x:=by
 unfold cj bw
 rw [List.filter_map]
 rfl
theorem ja {β:Type} {x:K}: ∀ {l:List (K×β)},l.lookup x=none↔ ∀ p∈l,p.1≠x
 |[]=>by simp
 |p::l=>by
  obtain ⟨k,v⟩:=p
  by_cases h:x=k
  ·subst h; simp [List.lookup]
  ·have hb:(x==k)=false:=by simpa using h
   simp only [List.lookup,hb,dZ,forall_eq_or_imp]
   rw [ja (l:=l)]
   exact ⟨fun q=>⟨fun e=>h e.symm,q⟩,fun q=>q.2⟩
theorem jJ {β:Type} {x:K} {y:β}: ∀ {l:List (K×β)},(l.map (·.1)).Nodup→((x,y)∈l↔l.lookup x=some y)
 |[],_=>by simp
 |p::l,hn=>by
  obtain ⟨k,v⟩:=p
  simp only [List.map_cons,List.nodup_cons] at hn
  by_cases h:x=k
  ·subst h
   simp only [List.lookup,beq_self_eq_true,dZ,Prod.mk.injEq,true_and,Option.some.injEq]
   constructor
   ·rintro (e|e)
    ·exact e.symm
    ·exact absurd (List.mem_map.2 ⟨_,e,rfl⟩) hn.1
   ·intro e; exact .inl e.symm
  ·have hb:(x==k)=false:=by simpa using h
   simp only [List.lookup,hb,dZ,Prod.mk.injEq,h,false_and,false_or]
   exact jJ hn.2
structure iD (kV:K→Value) (es:Array MapEntry) (c:Nat) (m:List (K×Value)):Prop where
 list:es.toList.map (fun (e:MapEntry)=>(e.key,e.val))=m.map (fun p=>(kV p.1,p.2))
 keys:(m.map (·.1)).Nodup
 Ey: ∀ e∈es.toList,e.born<c
 born:(es.toList.map (·.born)).Nodup
def gQ (kV:K→Value) (b:Nat) (m:List (K×Value)):aq where
 eX k:=k=b
 wf k:=k=b
 holds w:= ∃ es c,w.heap[b]? =some (.map es c)∧iD kV es c m
 wr:=true
 j3 _ h:=h
 whole _ _ h:=h
 lt w h k hk:=by obtain ⟨es,c,he,_⟩:=h; exact hk▸dW he
 lh w w' hk h:=by obtain ⟨es,c,he,hm⟩:=h; exact ⟨es,c,(hk b rfl).trans he,hm⟩
theorem iD.nil:iD kV #[] 0 []:=⟨rfl,List.nodup_nil,sm,List.nodup_nil⟩
theorem iD.size {es:Array MapEntry} {c:Nat} {m:List (K×Value)} (h:iD kV es c m):es.size=m.length:=by
 have:=congrArg List.length h.list
 simpa using this
theorem Ad {P:Program} {kt:Nat} (hk:sV P kt kV) (x:K): ∀ (es:List MapEntry) (m:List (K×Value)),es.map (fun (e:MapEntry)=>(e.key,e.val))=m.map (fun p=>(kV p.1,p.2))→
 ((∀ e∈es,e.key≠kV x)→m.lookup x=none)∧ ∀ (j:Nat) (e:MapEntry),es[j]? =some e→e.key=kV x→m[j]? =some (x,e.val):=by
 intro es m h
 refine ⟨fun hn=>ja.2 fun p hp e=>?_,fun j e he hx=>?_⟩
 ·have:(kV p.1,p.2)∈es.map (fun (e:MapEntry)=>(e.key,e.val)):=by rw [h]; exact List.mem_map.2 ⟨p,hp,rfl⟩
  obtain ⟨z,hz,hze⟩:=List.mem_map.1 this
  simp only [Prod.mk.injEq] at hze
  exact hn z hz (by rw [hze.1,e])
 ·have h1:(es.map (fun (e:MapEntry)=>(e.key,e.val)))[j]? =some (e.key,e.val):=by rw [fq,he]; rfl
  rw [h,fq] at h1
  cases hm:m[j]? with
  |none=>simp [hm] at h1
  |some p=>
   simp only [hm,Option.map_some,Option.some.injEq,Prod.mk.injEq] at h1
   have:=hk.inj _ _ (h1.1.trans hx)
   obtain ⟨k,v⟩:=p
   simp only at this h1
   rw [this,h1.2]
theorem nR {P:Program} {w:World} {kt:Nat} {x:K} {es:Array MapEntry} {c:Nat} {m:List (K×Value)} (hk:sV P kt kV) (h:iD kV es c m):
 ((Instr.findKey kt (kV x) es.toList).run P w= .ok none w∧m.lookup x=none)∨
 ∃ j v,(Instr.findKey kt (kV x) es.toList).run P w= .ok (some (j,v)) w∧m[j]? =some (x,v)∧m.lookup x=some v:=by
 obtain ⟨q1,q2⟩:=Ad hk x es.toList m h.list
 rcases hk.find x w es.toList (fun e he=>by
  have:(e.key,e.val)∈m.map (fun p=>(kV p.1,p.2)):=by rw [← h.list]; exact List.mem_map.2 ⟨e,he,rfl⟩
  obtain ⟨p,_,hp⟩:=List.mem_map.1 this
  simp only [Prod.mk.injEq] at hp
  exact ⟨p.1,hp.1.symm⟩) with ⟨h1,h2⟩|⟨j,e,h1,h2,h3⟩
 ·exact .inl ⟨h1,q1 h2⟩
 ·have:=q2 j e h2 h3
  exact .inr ⟨j,e.val,h1,this,(jJ h.keys).1 (aw this)⟩
theorem iu {P:Program} {w:World} {kt:Nat} {x:K} (hk:sV P kt kV) (e:Bool):(Instr.checkKey e 10000 kt (kV x)).run P w= .ok () w:=hk.check e x w
section
variable {E:e9} {ops:Array Oper} {Q:dj} {rest:List Oper} {D:List Deferred} {L:List (Nat×Value)} {C:List aq}
variable {dst:Option Tmp} {d:Nat} {ty:TypeId} {ps:String} {af:Array Edge} {g:Option (Nat×Bool)}
theorem mD {t:TypeId} (hg:ju ops L g=true) (hd:Nat.blt d E.n=true) (k: ∀ b,RJ E ops Q rest D ((d,.map (some b))::L) (gQ kV b []::C)):RJ E ops Q (⟨some d,.makeMap t none,ty,ps,af,g⟩::rest) D L C:=by
 intro a w hfr hs
 have hd':d<E.n:=by rw [← Nat.blt_eq]; exact hd
 unfold qf
 rw [if_pos (dH hfr hg)]
 refine gz (v:= .map (some w.heap.size)) (w':=w.alloc (.map #[] 0)) sm ?_ ?_
 ·simp [execOp,Instr.makeMap,newObj,Sem.run]
 ·refine k _ _ _ (hfr.put hd' _) (hs.grow (dD.alloc no w _) (N:=[gQ kV w.heap.size []]) ⟨fun A hA=>?_,fun A hA b hb=>?_,List.pairwise_singleton _ _⟩)
  ·simp at hA; subst hA; exact ⟨#[],0,heap_alloc_new w _,iD.nil⟩
  ·simp at hA; subst hA; exact Nat.le_of_eq (Eq.symm hb)
theorem iD.push {es:Array MapEntry} {c:Nat} {m:List (K×Value)} (h:iD kV es c m) {x:K} (hx:m.lookup x=none) (v:Value):iD kV (es.push {key:=kV x,val:=v,born:=c}) (c+1) (m++[(x,v)]):=by
 refine ⟨by simp [h.list],?_,?_,?_⟩
 ·rw [List.map_append,List.nodup_append]
  refine ⟨h.keys,sm,fun a ha b hb=>?_⟩
  simp at hb; subst hb
  obtain ⟨p,hp,rfl⟩:=List.mem_map.1 ha
  exact ja.1 hx p hp
 ·intro e he
  simp only [Array.toList_push,g4,bU] at he
  rcases he with he|rfl
  ·exact Nat.lt_succ_of_lt (h.Ey e he)
  ·exact Nat.lt_succ_self _
 ·simp only [Array.toList_push,List.map_append,List.map_cons,List.map_nil]
  rw [List.nodup_append]
  refine ⟨h.born,sm,fun a ha b hb=>?_⟩
  simp at hb; subst hb
  obtain ⟨p,hp,rfl⟩:=List.mem_map.1 ha
  exact Nat.ne_of_lt (h.Ey p hp)
theorem G4 {m:List (K×Value)} {j:Nat} {x:K} {v0 v:Value} (hn:(m.map (·.1)).Nodup) (hj:m[j]? =some (x,v0)):m.map (fun p=>if p.1=x then (x,v) else p)=m.set j (x,v):=by
 refine List.ext_getElem? fun i=>?_
 rw [fq,List.getElem?_set]
 by_cases e:j=i
 ·subst e
  have hl:=(List.getElem?_eq_some_iff.1 hj).1
  rw [hj]; simp [hl]
 ·rw [if_neg e]
  cases hi:m[i]? with
  |none=>rfl
  |some p=>
   simp only [Option.map_some]
   rw [if_neg]
   intro hp
   have h1:(m.map (·.1))[i]? =some x:=by rw [fq,hi]; simp [hp]
   have h2:(m.map (·.1))[j]? =some x:=by rw [fq,hj]; rfl
   have hil:=(List.getElem?_eq_some_iff.1 h1).1
   exact e (((List.getElem?_inj hil hn).1 (h1.trans h2.symm)).symm)
theorem iD.set {es:Array MapEntry} {c:Nat} {m:List (K×Value)} (h:iD kV es c m) {x:K} {j:Nat} {v0:Value} (hj:m[j]? =some (x,v0)) (hx:m.lookup x=some v0) (v:Value):
 iD kV (es.modify j fun e=>{e with key:=kV x,val:=v}) c (eg m x v):=by
 have e1:eg m x v=m.set j (x,v):=by unfold eg; rw [hx]; simpa using G4 h.keys hj
 have hl:=(List.getElem?_eq_some_iff.1 hj).1
 have hsz:=h.size
 have hje:j<es.size:=by omega
 have e2:(es.modify j fun e=>{e with key:=kV x,val:=v}).toList=es.toList.set j {(es[j]) with key:=kV x,val:=v}:=by
  refine List.ext_getElem? fun i=>?_
  rw [Array.getElem?_toList,Array.getElem?_modify,List.getElem?_set]
  by_cases e:j=i
  ·subst e; simp [hje]
  ·simp [e]
 have e3:(es.toList.set j {(es[j]) with key:=kV x,val:=v}).map (·.born)=es.toList.map (·.born):=by
  rw [List.map_set]
  refine List.ext_getElem? fun i=>?_
  rw [List.getElem?_set]
  by_cases e:j=i
  ·subst e; simp [hje]
  ·rw [if_neg e]
 refine ⟨?_,?_,?_,?_⟩
 ·rw [e2,e1,List.map_set,List.map_set,h.list]
 ·rw [e1,List.map_set]
  have:(m.map (·.1)).set j x=m.map (·.1):=by
   refine List.ext_getElem? fun i=>?_
   rw [List.getElem?_set]
   by_cases e:j=i
   ·subst e; simp [hl]; simpa using (congrArg Prod.fst ((List.getElem?_eq_some_iff.1 hj).2)).symm
   ·rw [if_neg e]
  simp only [this]
  exact h.keys
 ·intro e he
  rw [e2] at he
  have hb:e.born∈(es.toList.set j {(es[j]) with key:=kV x,val:=v}).map (·.born):=List.mem_map.2 ⟨e,he,rfl⟩
  rw [e3] at hb
  obtain ⟨e',he',hq⟩:=List.mem_map.1 hb
  rw [← hq]; exact h.Ey e' he'
 ·rw [e2,e3]; exact h.born
/-- m[x] = y -/
theorem jk {t kt et:TypeId} {xm xk xv:Operand} {b:Nat} {x:K} {v:Value} {m m':List (K×Value)} {C':List aq} (i:Nat) (hg:ju ops L g=true) (hm:ev L xm=some (.map (some b))) (hk:ev L xk=some (kV x)) (hv:ev L xv=some v)
 (ht:E.P.underlying t=some (.map kt et)) (hkt:sV E.P kt kV) (hC:C[i]? =some (gQ kV b m)) (hm':eg m x v=m') (hC':C.set i (gQ kV b m')=C') (k:RJ E ops Q rest D L C'):
 RJ E ops Q (⟨none,.mapUpdate t xm xk xv,ty,ps,af,g⟩::rest) D L C:=by
 subst hm' hC'
 intro a w hfr hs
 unfold qf
 rw [if_pos (dH hfr hg)]
 obtain ⟨es,c,he,hi⟩:=hs.holds _ (aw hC)
 have hget:(getObj b).run E.P w= .ok (.map es c) w:=MapKept.run_getObj_map he
 rcases nR (P:=E.P) (w:=w) (x:=x) hkt hi with ⟨h1,h2⟩|⟨j,v0,h1,h2,h3⟩
 ·refine qd (w':={w with heap:=w.heap.setIfInBounds b (.map (es.push {key:=kV x,val:=v,born:=c}) (c+1))}) sm ?_ ?_
  ·simp [execOp,hfr.ev hm,hfr.ev hk,hfr.ev hv,Instr.mapUpdate,run_underlying ht,hget,iu hkt,h1,MapKept.run_setObj_map _ he]
  ·refine k _ _ ⟨hfr.defers,hfr.size,hfr.at_⟩ (hs.zK (b:=b) i hC rfl rfl (mq _) (fun _ h=>h) ⟨_,_,nZ he,?_⟩)
   have:eg m x v=m++[(x,v)]:=by unfold eg; rw [h2]; rfl
   rw [this]; exact hi.push h2 v
 ·have hsz:=hi.size
  have hje:j<es.size:=by have:=(List.getElem?_eq_some_iff.1 h2).1; omega
  have hkey:(es[j]).key=kV x:=by
   have:=congrArg (fun l=>l[j]?) hi.list
   simp [hje,h2] at this
   exact this.1
  refine qd (w':={w with heap:=w.heap.setIfInBounds b (.map (es.modify j fun e=>{e with key:=kV x,val:=v}) c)}) sm ?_ ?_
  ·simp [execOp,hfr.ev hm,hfr.ev hk,hfr.ev hv,Instr.mapUpdate,run_underlying ht,hget,iu hkt,h1,MapKept.run_setObj_map _ he,Instr.keyThatStays,hje,hkey,hkt.bits x]
  ·exact k _ _ ⟨hfr.defers,hfr.size,hfr.at_⟩ (hs.zK (b:=b) i hC rfl rfl (mq _) (fun _ h=>h) ⟨_,_,nZ he,hi.set h2 h3 v⟩)
theorem iD.del {es:Array MapEntry} {c:Nat} {m:List (K×Value)} (h:iD kV es c m) {x:K} {j:Nat} {v0:Value} (hj:m[j]? =some (x,v0)):iD kV (es.eraseIdxIfInBounds j) c (cj m x):=by
 have hl:=(List.getElem?_eq_some_iff.1 hj).1
 have hsz:=h.size
 have hje:j<es.size:=by omega
 have e1:(es.eraseIdxIfInBounds j).toList=es.toList.eraseIdx j:=by simp [Array.eraseIdxIfInBounds,hje]
 have e2:cj m x=m.eraseIdx j:=by
  have hn:=h.keys
  clear h hsz hje e1
  induction m generalizing j with
  |nil=>simp at hj
  |cons p m ih=>
   obtain ⟨k,v⟩:=p
   simp only [List.map_cons,List.nodup_cons] at hn
   cases j with
   |zero=>
    simp at hj
    obtain ⟨rfl,rfl⟩:=hj
    simp only [cj,List.eraseIdx_zero,List.tail_cons]
    rw [List.filter_cons_of_neg sm]
    refine List.filter_eq_self.2 fun p hp=>?_
    have:p.1≠k:=fun e=>hn.1 (List.mem_map.2 ⟨p,hp,e⟩)
    simpa using this
   |succ j=>
    simp only [List.getElem?_cons_succ] at hj
    have hne:k≠x:=fun e=>hn.1 (List.mem_map.2 ⟨_,aw hj,e.symm⟩)
    simp only [cj,List.eraseIdx_cons_succ] at ih ⊢
    rw [List.filter_cons_of_pos (by simpa using hne),ih hj (by simpa using (List.getElem?_eq_some_iff.1 hj).1) hn.2]
 have sub:(es.eraseIdxIfInBounds j).toList.Sublist es.toList:=by rw [e1]; exact List.eraseIdx_sublist _ _
 refine ⟨?_,?_,fun e he=>h.Ey e (sub.subset he),h.born.sublist (sub.map _)⟩
 ·rw [e1,e2,ChangeMaps.map_eraseIdx,ChangeMaps.map_eraseIdx,h.list]
 ·rw [e2]; exact h.keys.sublist ((List.eraseIdx_sublist _ _).map _)
theorem Aa {m:List (K×Value)} {x:K} (h:m.lookup x=none):cj m x=m:=List.filter_eq_self.2 fun p hp=>by simpa using ja.1 h p hp
/-- y, ok := m[x] -/
theorem Ej {t kt et:TypeId} {xm xk:Operand} {b:Nat} {x:K} {z:Value} {m:List (K×Value)} (hg:ju ops L g=true) (hm:ev L xm=some (.map (some b))) (hk:ev L xk=some (kV x))
 (ht:E.P.underlying t=some (.map kt et)) (hkt:sV E.P kt kV) (hz:tV E.P et=some z) (hC:ji C (gQ kV b m).holds):
 SD E ops ⟨dst,.lookup t xm xk true,ty,ps,af,g⟩ D L C (.tuple [(m.lookup x).getD z,.bool (m.lookup x).isSome].toArray):=
 dJ hg sm fun a w hfr hs=>by
  obtain ⟨es,c,he,hi⟩:=hs.has hC
  have hget:(getObj b).run E.P w= .ok (.map es c) w:=MapKept.run_getObj_map he
  rcases nR (P:=E.P) (w:=w) (x:=x) hkt hi with ⟨h1,h2⟩|⟨j,v0,h1,h2,h3⟩
  ·simp [execOp,Instr.lookup,hfr.ev hm,hfr.ev hk,run_underlying ht,hget,iu hkt,h1,h2,Fb hz]
  ·simp [execOp,Instr.lookup,hfr.ev hm,hfr.ev hk,run_underlying ht,hget,iu hkt,h1,h3]
/-- m[x] -/
theorem DM {t kt et:TypeId} {xm xk:Operand} {b:Nat} {x:K} {z:Value} {m:List (K×Value)} (hg:ju ops L g=true) (hm:ev L xm=some (.map (some b))) (hk:ev L xk=some (kV x))
 (ht:E.P.underlying t=some (.map kt et)) (hkt:sV E.P kt kV) (hz:tV E.P et=some z) (hC:ji C (gQ kV b m).holds):
 SD E ops ⟨dst,.lookup t xm xk false,ty,ps,af,g⟩ D L C ((m.lookup x).getD z):=
 dJ hg sm fun a w hfr hs=>by
  obtain ⟨es,c,he,hi⟩:=hs.has hC
  have hget:(getObj b).run E.P w= .ok (.map es c) w:=MapKept.run_getObj_map he
  rcases nR (P:=E.P) (w:=w) (x:=x) hkt hi with ⟨h1,h2⟩|⟨j,v0,h1,h2,h3⟩
  ·simp [execOp,Instr.lookup,hfr.ev hm,hfr.ev hk,run_underlying ht,hget,iu hkt,h1,h2,Fb hz]
  ·simp [execOp,Instr.lookup,hfr.ev hm,hfr.ev hk,run_underlying ht,hget,iu hkt,h1,h3]
/-- len(m) -/
theorem F6 {t kt et:TypeId} {xm:Operand} {b:Nat} {m:List (K×Value)} (hg:ju ops L g=true) (hm:ev L xm=some (.map (some b))) (ht:E.P.underlying t=some (.map kt et)) (hC:ji C (gQ kV b m).holds):
 SD E ops ⟨dst,.call {callee:= .builtin .len,args:= #[xm],argTypes:= #[t]},ty,ps,af,g⟩ D L C (.int .i64 (m.length:Int)):=
 dJ hg sm fun a w hfr hs=>by
  obtain ⟨es,c,he,hi⟩:=hs.has hC
  have hget:(getObj b).run E.P w= .ok (.map es c) w:=MapKept.run_getObj_map he
  simp [execOp,resolve,invoke,builtin,hfr.ev hm,Builtin.len_,run_underlying ht,hget,hi.size,goInt]
theorem iY {β:Type} {t kt et:TypeId} {xm xk:Operand} {b:Nat} {x:K} {f:β→Value} {z:β} {l:List (K×β)} (hg:ju ops L g=true) (hm:ev L xm=some (.map (some b))) (hk:ev L xk=some (kV x))
 (ht:E.P.underlying t=some (.map kt et)) (hkt:sV E.P kt kV) (hz:tV E.P et=some (f z)) (hC:ji C (gQ kV b (bw f l)).holds):
 SD E ops ⟨dst,.lookup t xm xk true,ty,ps,af,g⟩ D L C (.tuple [f ((l.lookup x).getD z),.bool (l.lookup x).isSome].toArray):=by
 have:=Ej (dst:=dst) (ty:=ty) (ps:=ps) (af:=af) (D:=D) hg hm hk ht hkt hz hC
 rw [l_] at this
 have e1:((l.lookup x).map f).getD (f z)=f ((l.lookup x).getD z):=by cases l.lookup x<;>rfl
 rw [e1,Option.isSome_map] at this
 exact this
theorem tw {β:Type} {t kt et:TypeId} {xm xk:Operand} {b:Nat} {x:K} {f:β→Value} {z:β} {l:List (K×β)} (hg:ju ops L g=true) (hm:ev L xm=some (.map (some b))) (hk:ev L xk=some (kV x))
 (ht:E.P.underlying t=some (.map kt et)) (hkt:sV E.P kt kV) (hz:tV E.P et=some (f z)) (hC:ji C (gQ kV b (bw f l)).holds):
 SD E ops ⟨dst,.lookup t xm xk false,ty,ps,af,g⟩ D L C (f ((l.lookup x).getD z)):=by
 have:=DM (dst:=dst) (ty:=ty) (ps:=ps) (af:=af) (D:=D) hg hm hk ht hkt hz hC
 rw [l_] at this
 have e1:((l.lookup x).map f).getD (f z)=f ((l.lookup x).getD z):=by cases l.lookup x<;>rfl
 rw [e1] at this
 exact this
theorem Bm {β:Type} {t kt et:TypeId} {xm:Operand} {b:Nat} {f:β→Value} {l:List (K×β)} (hg:ju ops L g=true) (hm:ev L xm=some (.map (some b))) (ht:E.P.underlying t=some (.map kt et)) (hC:ji C (gQ kV b (bw f l)).holds):
 SD E ops ⟨dst,.call {callee:= .builtin .len,args:= #[xm],argTypes:= #[t]},ty,ps,af,g⟩ D L C (.int .i64 (l.length:Int)):=by
 have:=F6 (dst:=dst) (ty:=ty) (ps:=ps) (af:=af) (D:=D) hg hm ht hC
 rwa [DA] at this
end
theorem eI {β:Type} {x:K} {y:β} {l:List (K×β)} (h:(x,y)∈l):(cj l x).length<l.length:=by
 unfold cj
 exact List.length_filter_lt_length_iff_exists.2 ⟨_,h,sm⟩
theorem jS {β:Type} {x:K} {p:K×β} {l:List (K×β)}:p∈cj l x↔p∈l∧p.1≠x:=by simp [cj]
/-- an iterator over a map: what is left; what came last -/
def wJ (kV:K→Value) (r b:Nat) (m left:List (K×Value)) (cur:Option (K×Value)):aq where
 eX k:=k=r∨k=b
 wf k:=k=r∨k=b
 holds w:=r≠b∧ ∃ (es:Array MapEntry) (c since:Nat) (seen:Array Nat) (st:Nat),w.heap[b]? =some (.map es c)∧iD kV es c m∧w.heap[r]? =some (.mapIter (some b) since seen st)∧(∀ e∈es.toList,e.born<since)∧since≤st∧since≤c∧
  (leftOf es seen).toList.map (fun (e:MapEntry)=>(e.key,e.val))=left.map (fun p=>(kV p.1,p.2))∧
  ∀ p,cur=some p→ ∃ (e:MapEntry) (seen0:Array Nat),e∈es.toList∧seen=seen0.push e.born∧st=c∧e.key=kV p.1∧e.val=p.2
 wr:=true
 j3 _ h:=h
 whole _ _ h:=h
 lt w h k hk:=by
  obtain ⟨_,es,c,since,seen,st,h1,_,h2,_⟩:=h
  rcases hk with rfl|rfl
  ·exact dW h2
  ·exact dW h1
 lh w w' hk h:=by
  obtain ⟨hne,es,c,since,seen,st,h1,h2,h3,h4⟩:=h
  exact ⟨hne,es,c,since,seen,st,(hk b (.inr rfl)).trans h1,h2,(hk r (.inl rfl)).trans h3,h4⟩
theorem vZ {r b:Nat} {m left:List (K×Value)} {cur:Option (K×Value)}:(∀ w,(wJ kV r b m left cur).holds w→(wJ kV r b m left none).holds w)∧(∀ k,(wJ kV r b m left none).eX k→(wJ kV r b m left cur).eX k)∧ ∀ k,(wJ kV r b m left none).wf k→(wJ kV r b m left cur).wf k:=
 ⟨fun w h=>by
  obtain ⟨hne,es,c,since,seen,st,h1,h2,h3,h4,h5,h5',h6,_⟩:=h
  exact ⟨hne,es,c,since,seen,st,h1,h2,h3,h4,h5,h5',h6,fun p hp=>by cases hp⟩,fun _ h=>h,fun _ h=>h⟩
theorem Ez {r b:Nat} {m left:List (K×Value)} {cur:Option (K×Value)}:(∀ w,(wJ kV r b m left cur).holds w→(gQ kV b m).holds w)∧(∀ k,(gQ kV b m).eX k→(wJ kV r b m left cur).eX k)∧ ∀ k,(gQ kV b m).wf k→(wJ kV r b m left cur).wf k:=
 ⟨fun w h=>by
  obtain ⟨hne,es,c,since,seen,st,h1,h2,_⟩:=h
  exact ⟨es,c,h1,h2⟩,fun _ h=> .inr h,fun _ h=> .inr h⟩
theorem yI {es:Array MapEntry} {c:Nat} {m:List (K×Value)} (hinj: ∀ x y,kV x=kV y→x=y) (hi:iD kV es c m) {x y:MapEntry} (hx:x∈es.toList) (hy:y∈es.toList) (e:x.key=y.key):x=y:=by
 have hk:(es.toList.map (·.key))=(m.map (·.1)).map kV:=by
  have:=congrArg (List.map Prod.fst) hi.list
  simpa [Function.comp_def] using this
 have h:(es.toList.map (·.key)).Nodup:=by
  rw [hk,List.nodup_iff_pairwise_ne,List.pairwise_map]
  exact hi.keys.imp (fun hne he=>hne (hinj _ _ he))
 obtain ⟨i,hii⟩:=List.getElem?_of_mem hx
 obtain ⟨j,hj⟩:=List.getElem?_of_mem hy
 have h1:(es.toList.map (·.key))[i]? =some x.key:=by rw [fq,hii]; rfl
 have h2:(es.toList.map (·.key))[j]? =some x.key:=by rw [fq,hj,e]; rfl
 have h3:=(List.getElem?_inj (List.getElem?_eq_some_iff.1 h1).1 h).1 (h1.trans h2.symm)
 subst h3
 exact Option.some.inj (hii.symm.trans hj)
section
variable {E:e9} {ops:Array Oper} {Q:dj} {rest:List Oper} {D:List Deferred} {L:List (Nat×Value)} {C:List aq}
variable {dst:Option Tmp} {d:Nat} {ty:TypeId} {ps:String} {af:Array Edge} {g:Option (Nat×Bool)}
theorem sX {t kt et:TypeId} {xm:Operand} {b:Nat} {m:List (K×Value)} (i:Nat) (hg:ju ops L g=true) (hm:ev L xm=some (.map (some b))) (ht:E.P.underlying t=some (.map kt et)) (hC:C[i]? =some (gQ kV b m)) (hd:Nat.blt d E.n=true)
 (k: ∀ r,RJ E ops Q rest D ((d,.pointer (some ⟨r,0,none⟩))::L) (C.set i (wJ kV r b m m none))):RJ E ops Q (⟨some d,.range t xm,ty,ps,af,g⟩::rest) D L C:=by
 intro a w hfr hs
 have hd':d<E.n:=by rw [← Nat.blt_eq]; exact hd
 unfold qf
 rw [if_pos (dH hfr hg)]
 obtain ⟨es,c,he,hi⟩:=hs.holds _ (aw hC)
 have hbl:b<w.heap.size:=dW he
 have hget:(getObj b).run E.P w= .ok (.map es c) w:=MapKept.run_getObj_map he
 refine gz (v:= .pointer (some ⟨w.heap.size,0,none⟩)) (w':=w.alloc (.mapIter (some b) c #[] c)) sm ?_ ?_
 ·simp [execOp,Instr.range,hfr.ev hm,run_underlying ht,hget,newObj,Sem.run]
 ·refine k _ _ _ (hfr.put hd' _) (hs.mv i hC ⟨⟨om,es,c,c,#[],c,?_,hi,heap_alloc_new w _,hi.Ey,Nat.le_refl _,Nat.le_refl _,?_,fun p hp=>by cases hp⟩,dD.alloc _ w _,fun q hq=>?_,fun q hq=>?_⟩)
  ·rw [Below.heap_alloc w _ b hbl]; exact he
  ·have:leftOf es #[]=es:=by unfold leftOf; exact Array.filter_eq_self.2 sm
   rw [this]; exact hi.list
  ·rcases hq with rfl|rfl
   ·exact .inr (Nat.le_refl _)
   ·exact .inl rfl
  ·rcases hq with rfl|rfl
   ·exact .inr (Nat.le_refl _)
   ·exact .inl rfl
theorem vQ {es:Array MapEntry} {c:Nat} {m left:List (K×Value)} {seen:Array Nat} (hinj: ∀ x y,kV x=kV y→x=y) (hi:iD kV es c m) (h:(leftOf es seen).toList.map (fun (e:MapEntry)=>(e.key,e.val))=left.map (fun p=>(kV p.1,p.2))):(left.map (·.1)).Nodup:=by
 have h1:((leftOf es seen).toList.map (·.key)).Sublist (es.toList.map (·.key)):=by
  unfold leftOf; rw [Array.toList_filter]; exact List.filter_sublist.map _
 have h2:(es.toList.map (·.key))=(m.map (·.1)).map kV:=by
  have:=congrArg (List.map Prod.fst) hi.list
  simpa [Function.comp_def] using this
 have h3:((leftOf es seen).toList.map (·.key))=(left.map (·.1)).map kV:=by
  have:=congrArg (List.map Prod.fst) h
  simpa [Function.comp_def] using this
 rw [h2,h3] at h1
 have h4:((m.map (·.1)).map kV).Nodup:=by
  rw [List.nodup_iff_pairwise_ne,List.pairwise_map]
  exact hi.keys.imp (fun hne he=>hne (hinj _ _ he))
 have h5:=h4.sublist h1
 rw [List.nodup_iff_pairwise_ne,List.pairwise_map] at h5
 rw [List.nodup_iff_pairwise_ne]
 exact h5.imp (fun hne he=>hne (by rw [he]))
theorem Gz (hinj: ∀ x y,kV x=kV y→x=y) {xi:Operand} {r b:Nat} {m left:List (K×Value)} {cur:Option (K×Value)} (i:Nat) (hg:ju ops L g=true) (hm:ev L xi=some (.pointer (some ⟨r,0,none⟩))) (hC:C[i]? =some (wJ kV r b m left cur)) (hd:Nat.blt d E.n=true)
 (k0:left=[]→RJ E ops Q rest D ((d,.tuple [.bool false].toArray)::L) C)
 (k1: ∀ x v,(x,v)∈left→(left.map (·.1)).Nodup→RJ E ops Q rest D ((d,.tuple [.bool true,kV x,v].toArray)::L) (C.set i (wJ kV r b m (cj left x) (some (x,v))))):
 RJ E ops Q (⟨some d,.next xi false,ty,ps,af,g⟩::rest) D L C:=by
 intro a w hfr hs
 have hd':d<E.n:=by rw [← Nat.blt_eq]; exact hd
 unfold qf
 rw [if_pos (dH hfr hg)]
 obtain ⟨hne,es,c,since,seen,st,h1,hi,h3,hold,hsc,hsc2,hleft,_⟩:=hs.holds _ (aw hC)
 rcases run_next_at (P:=E.P) w ty r b since st seen es c h3 h1 hold hsc with ⟨h0,hr⟩|⟨e,he,w1,hw1,hr⟩
 ·refine gz (v:= .tuple #[.bool false]) (w':=w) sm ?_ ?_
  ·simp [execOp,hfr.ev hm,hr]
  ·refine k0 ?_ _ _ (hfr.put hd' _) hs
   have:(leftOf es seen).toList=[]:=by rw [← List.length_eq_zero_iff,Array.length_toList]; exact h0
   rw [this] at hleft
   exact List.map_eq_nil_iff.1 hleft.symm
 ·have hmem:(e.key,e.val)∈left.map (fun p=>(kV p.1,p.2)):=by rw [← hleft]; exact List.mem_map.2 ⟨e,he,rfl⟩
  obtain ⟨p,hp,hpe⟩:=List.mem_map.1 hmem
  obtain ⟨x,v⟩:=p
  simp only [Prod.mk.injEq] at hpe
  obtain ⟨hk,hv⟩:=hpe
  refine gz (v:= .tuple #[.bool true,e.key,e.val]) (w':=ChangeMaps.setBlock w1 r (.mapIter (some b) since (seen.push e.born) c)) sm ?_ ?_
  ·simp [execOp,hfr.ev hm,hr]
  ·rw [← hk,← hv]
   have hnd:=vQ hinj hi hleft
   have hees:e∈es.toList:=by unfold leftOf at he; rw [Array.toList_filter] at he; exact (List.mem_filter.1 he).1
   have hcs:c=c:=rfl
   have hheap:w1.heap=w.heap:=by rcases hw1 with rfl|rfl<;>rfl
   refine k1 x v hp hnd _ _ (hfr.put hd' _) (hs.mv i hC ⟨⟨hne,es,c,since,seen.push e.born,c,?_,hi,?_,hold,hsc2,hsc2,?_,fun q hq=>?_⟩,?_,fun q hq=> .inl hq,fun q hq=> .inl hq⟩)
   ·show (w1.heap.setIfInBounds r _)[b]? =_
    rw [Array.getElem?_setIfInBounds_ne hne,hheap]; exact h1
   ·show (w1.heap.setIfInBounds r _)[r]? =_
    rw [Array.getElem?_setIfInBounds_self_of_lt (by rw [hheap]; exact dW h3)]
   ·have hdk:leftOf es (seen.push e.born)=(leftOf es seen).filter (fun z=> !(z.born==e.born)):=by
     unfold leftOf
     rw [Array.filter_filter]
     congr 1
     funext z
     simp only [Array.contains_push,Bool.not_or]
     rw [Bool.and_comm]
    rw [hdk,Array.toList_filter]
    have key: ∀ (l:List MapEntry) (ll:List (K×Value)),(∀ z∈l,z∈es.toList)→l.map (fun (e:MapEntry)=>(e.key,e.val))=ll.map (fun p=>(kV p.1,p.2))→
     (l.filter (fun z=> !(z.born==e.born))).map (fun (e:MapEntry)=>(e.key,e.val))=(cj ll x).map (fun p=>(kV p.1,p.2)):=by
     intro l
     induction l with
     |nil=>intro ll _ h; cases ll with
      |nil=>rfl
      |cons p ll=>simp at h
     |cons z l ih=>
      intro ll hz h
      cases ll with
      |nil=>simp at h
      |cons p ll=>
       simp only [List.map_cons,List.cons.injEq,Prod.mk.injEq] at h
       have ih':=ih ll (fun y hy=>hz y (by simp [hy])) h.2
       have hiff:(z.born=e.born)↔(p.1=x):=by
        constructor
        ·intro hb
         have:z=e:=z3 hi.born (hz z sm) hees hb
         rw [this] at h
         have:=h.1.1.symm.trans hk.symm
         exact hinj _ _ this
        ·intro hx
         have hze:z.key=e.key:=by rw [h.1.1,hx,hk]
         rw [yI hinj hi (hz z sm) hees hze]
       unfold cj at ih' ⊢
       by_cases hx:p.1=x
       ·rw [List.filter_cons_of_neg (by simp [hiff.2 hx]),List.filter_cons_of_neg (by simp [hx])]; exact ih'
       ·rw [List.filter_cons_of_pos (by simpa using fun hb=>hx (hiff.1 hb)),List.filter_cons_of_pos (by simpa using hx)]
        simp only [List.map_cons,h.1.1,h.1.2,ih']
    exact key _ _ (fun z hz=>by unfold leftOf at hz; rw [Array.toList_filter] at hz; exact (List.mem_filter.1 hz).1) hleft
   ·cases hq
    exact ⟨e,seen,hees,rfl,rfl,hk.symm,hv.symm⟩
   ·refine ⟨?_,?_,?_,?_,fun q hq hn=>?_⟩
    ·rcases hw1 with rfl|rfl<;>rfl
    ·rcases hw1 with rfl|rfl<;>rfl
    ·rcases hw1 with rfl|rfl<;>rfl
    ·show w.heap.size≤(w1.heap.setIfInBounds r _).size
     simp [hheap]
    ·show (w1.heap.setIfInBounds r _)[q]? =_
     rw [Array.getElem?_setIfInBounds_ne (fun e=>hn (.inl e.symm)),hheap]
theorem qp {xi:Operand} {r b:Nat} {m left:List (K×Value)} {x:K} {v:Value} (i:Nat) (hg:ju ops L g=true) (hm:ev L xi=some (.pointer (some ⟨r,0,none⟩))) (hC:C[i]? =some (wJ kV r b m left (some (x,v)))):
 SD E ops ⟨dst,.entry xi,ty,ps,af,g⟩ D L C (.tuple [kV x,v].toArray):=
 dJ hg sm fun a w hfr hs=>by
  obtain ⟨hne,es,c,since,seen,st,h1,hi,h3,hold,hsc,hsc2,hleft,hcur⟩:=hs.holds _ (aw hC)
  obtain ⟨e,seen0,he,rfl,rfl,hk,hv⟩:=hcur _ rfl
  have:=run_entry_at (P:=E.P) w r b since seen0 es st e h3 h1 he hi.born
  simp [execOp,hfr.ev hm,this,hk,hv]
theorem qC (hinj: ∀ x y,kV x=kV y→x=y) {β:Type} {f:β→Value} {xi:Operand} {r b:Nat} {m:List (K×Value)} {ll:List (K×β)} {cur:Option (K×Value)} (i:Nat) (hg:ju ops L g=true) (hm:ev L xi=some (.pointer (some ⟨r,0,none⟩))) (hC:C[i]? =some (wJ kV r b m (bw f ll) cur)) (hd:Nat.blt d E.n=true)
 (k0:ll=[]→RJ E ops Q rest D ((d,.tuple [.bool false].toArray)::L) C)
 (k1: ∀ x y,(x,y)∈ll→(ll.map (·.1)).Nodup→RJ E ops Q rest D ((d,.tuple [.bool true,kV x,f y].toArray)::L) (C.set i (wJ kV r b m (bw f (cj ll x)) (some (x,f y))))):
 RJ E ops Q (⟨some d,.next xi false,ty,ps,af,g⟩::rest) D L C:=by
 refine Gz hinj i hg hm hC hd (fun h=>k0 (List.map_eq_nil_iff.1 h)) (fun x v hxv hn=>?_)
 obtain ⟨p,hp,hpe⟩:=List.mem_map.1 hxv
 simp only [Prod.mk.injEq] at hpe
 obtain ⟨rfl,rfl⟩:=hpe
 have:=k1 p.1 p.2 hp (by simpa [bw,Function.comp_def] using hn)
 rwa [kS] at this
end
end
end
section
structure bE where
 Start:Int
 fR:Int
 oU:List Int
 tO:List (List (Int×aa))
 e8:Int
 iH:Int
 Jk:Int
def bE.n (w:bE):Nat:=w.oU.length
def eL (s:Int):ao:=if s<0 then ⟨0,1⟩ else ⟨1,0⟩
def c_ (a b:ao):ao:=⟨a.right+b.right,a.dG+b.dG⟩
def rr (w:bE) (b:Nat):List (Int×aa):=(w.tO[b]?).getD []
def g7 (w:bE) (b:Nat):List (Int×aa):=(-1,⟨w.Start,w.fR⟩)::rr w b
def bH (w:bE) (b:Nat):Int:=(w.oU[b]?).getD 0
def kh (w:bE) (b:Nat) (p:ao×Int) (o:Int×aa):Option (ao×Int):=if max (p.2+bH w b) o.2.Lo≤min o.2.Hi w.fR then some (c_ p.1 (eL o.1),max (p.2+bH w b) o.2.Lo) else none
def fwd (w:bE):Nat→List (ao×Int)
 |0=>[(⟨0,0⟩,w.Start)]
 |b+1=>(fwd w b).flatMap fun p=>(g7 w b).filterMap (kh w b p)
def mS (w:bE) (b:Nat) (p:ao×Int) (o:Int×aa):Option (ao×Int):=if o.2.Lo≤min p.2 o.2.Hi then some (c_ p.1 (eL o.1),min p.2 o.2.Hi-bH w b) else none
def bwd (w:bE):Nat→List (ao×Int)
 |0=>[(⟨0,0⟩,w.fR)]
 |k+1=>(⟨0,0⟩,w.fR)::(bwd w k).flatMap fun p=>(g7 w (w.n-(k+1))).filterMap (mS w (w.n-(k+1)) p)
def back (w:bE) (b:Nat):List (ao×Int):=bwd w (w.n-b)
def j4 (w:bE) (t:ao):Bool:=decide (t.dG≤w.e8∧w.Jk-t.right≤w.iH)
theorem fB {w:bE} {b:Nat} {q:ao×Int}:q∈fwd w (b+1)↔ ∃ p∈fwd w b,∃ o∈g7 w b,kh w b p o=some q:=by
 simp only [fwd,List.mem_flatMap,List.mem_filterMap]
theorem s9 {w:bE} {b:Nat} (h:w.n≤b):back w b=[(⟨0,0⟩,w.fR)]:=by
 unfold back; rw [Nat.sub_eq_zero_of_le h]; rfl
theorem nP {w:bE} {b:Nat} (h:b<w.n) {q:ao×Int}:q∈back w b↔q=(⟨0,0⟩,w.fR)∨ ∃ p∈back w (b+1),∃ o∈g7 w b,mS w b p o=some q:=by
 unfold back
 have e:w.n-b=(w.n-(b+1))+1:=by omega
 rw [e]
 simp only [bwd,dZ,List.mem_flatMap,List.mem_filterMap]
 rw [show w.n-(w.n-(b+1)+1)=b by omega]
def rH (m c:List (ao×Int)):Prop:=(∀ t v,m.lookup t=some v→(t,v)∈c)∧ ∀ t y,(t,y)∈c→ ∃ v,m.lookup t=some v∧v≤y
def tG (m c:List (ao×Int)):Prop:=(∀ t v,m.lookup t=some v→(t,v)∈c)∧ ∀ t y,(t,y)∈c→ ∃ v,m.lookup t=some v∧y≤v
def tx (m c:List (ao×Int)):Prop:= ∀ t v,m.lookup t=some v→(t,v)∈c
theorem l6 {K β:Type} [DecidableEq K] {m:List (K×β)} {x t:K} {y:β}:(eg m x y).lookup t=if t=x then some y else m.lookup t:=by
 unfold eg
 by_cases hx:(m.lookup x).isSome
 ·rw [if_pos hx]
  have key: ∀ l:List (K×β),(l.lookup x).isSome∨True→(l.map (fun p=>if p.1=x then (x,y) else p)).lookup t=if t=x then (if (l.lookup x).isSome then some y else none) else l.lookup t:=by
   intro l _
   induction l with
   |nil=>simp
   |cons p l ih=>
    obtain ⟨k,v⟩:=p
    have ih:=ih (.inr trivial)
    by_cases hk:k=x
    ·subst hk
     by_cases ht:t=k
     ·subst ht; simp [List.lookup]
     ·have:(t==k)=false:=by simpa using ht
      simp only [List.map_cons,if_true,List.lookup,this,ih,if_neg ht]
    ·have hk':(x==k)=false:=by simpa using fun e=>hk e.symm
     by_cases ht:t=k
     ·subst ht; simp [List.lookup,hk]
     ·have h2:(t==k)=false:=by simpa using ht
      simp only [List.map_cons,if_neg hk,List.lookup,h2,ih,hk']
  rw [key m (.inr trivial)]
  by_cases ht:t=x
  ·subst ht
   rw [if_pos rfl,if_pos rfl,if_pos hx]
  ·rw [if_neg ht,if_neg ht]
 ·rw [if_neg hx]
  have hn:m.lookup x=none:=by cases h0:m.lookup x with
   |none=>rfl
   |some v=>exact absurd (by rw [h0]; rfl) hx
  by_cases ht:t=x
  ·subst ht
   rw [if_pos rfl]
   have:=ja.1 hn
   clear hn hx
   induction m with
   |nil=>simp
   |cons p m ih=>
    obtain ⟨k,v⟩:=p
    have hk:(t==k)=false:=by simpa using fun e=>this (k,v) sm e.symm
    simp only [List.cons_append,List.lookup,hk]
    exact ih (fun q hq=>this q (dY _ hq))
  ·rw [if_neg ht]
   clear hn hx
   induction m with
   |nil=>
    have:(t==x)=false:=by simpa using ht
    simp [List.lookup,this]
   |cons p m ih=>
    obtain ⟨k,v⟩:=p
    by_cases hk:t=k
    ·subst hk; simp [List.lookup]
    ·have:(t==k)=false:=by simpa using hk
     simp only [List.cons_append,List.lookup,this]
     exact ih
/-- what a map is after a try -/
def nY (m:List (ao×Int)) (q:ao×Int):List (ao×Int):=match m.lookup q.1 with
 |none=>eg m q.1 q.2
 |some v=>if q.2<v then eg m q.1 q.2 else m
def nV (m:List (ao×Int)) (q:ao×Int):List (ao×Int):=match m.lookup q.1 with
 |none=>eg m q.1 q.2
 |some v=>if v<q.2 then eg m q.1 q.2 else m
theorem uP {m:List (ao×Int)} {q:ao×Int} {t:ao}:(nY m q).lookup t=if t=q.1 then some (match m.lookup q.1 with |none=>q.2|some v=>min q.2 v) else m.lookup t:=by
 unfold nY
 cases h:m.lookup q.1 with
 |none=>simp only; rw [l6]
 |some v=>
  simp only
  split
  ·rename_i hlt
   rw [l6,Int.min_eq_left om]
  ·rename_i hlt
   split
   ·rename_i e; subst e; rw [h,Int.min_eq_right om]
   ·rfl
theorem uI {m:List (ao×Int)} {q:ao×Int} {t:ao}:(nV m q).lookup t=if t=q.1 then some (match m.lookup q.1 with |none=>q.2|some v=>max q.2 v) else m.lookup t:=by
 unfold nV
 cases h:m.lookup q.1 with
 |none=>simp only; rw [l6]
 |some v=>
  simp only
  split
  ·rename_i hlt
   rw [l6,Int.max_eq_left om]
  ·rename_i hlt
   split
   ·rename_i e; subst e; rw [h,Int.max_eq_right om]
   ·rfl
def vm (m m':List (ao×Int)):Prop:= ∀ t v,m.lookup t=some v→ ∃ v',m'.lookup t=some v'∧v'≤v
def vv (m m':List (ao×Int)):Prop:= ∀ t v,m.lookup t=some v→ ∃ v',m'.lookup t=some v'∧v≤v'
theorem vm.refl (m:List (ao×Int)):vm m m:=fun t v h=>⟨v,h,om⟩
theorem vv.refl (m:List (ao×Int)):vv m m:=fun t v h=>⟨v,h,om⟩
theorem tI {m:List (ao×Int)} {q:ao×Int}:vm m (nY m q):=fun t v h=>by
 rw [uP]
 split
 ·rename_i e; subst e; rw [h]; exact ⟨_,rfl,by simp only; omega⟩
 ·exact ⟨v,h,om⟩
theorem o9 {m:List (ao×Int)} {q:ao×Int}:vv m (nV m q):=fun t v h=>by
 rw [uI]
 split
 ·rename_i e; subst e; rw [h]; exact ⟨_,rfl,by simp only; omega⟩
 ·exact ⟨v,h,om⟩
theorem CS {m c:List (ao×Int)} {q:ao×Int} (h:tx m c) (hq:q∈c):tx (nY m q) c:=fun t v hv=>by
 rw [uP] at hv
 split at hv
 ·rename_i e
  subst e
  cases hm:m.lookup q.1 with
  |none=>simp only [hm,Option.some.injEq] at hv; subst hv; exact hq
  |some x=>
   simp only [hm,Option.some.injEq] at hv; subst hv
   rcases Int.lt_or_le q.2 x with q1|q1
   ·rw [Int.min_eq_left om]; exact hq
   ·rw [Int.min_eq_right om]; exact h _ _ hm
 ·exact h t v hv
theorem D3 {m c:List (ao×Int)} {q:ao×Int} (h:tx m c) (hq:q∈c):tx (nV m q) c:=fun t v hv=>by
 rw [uI] at hv
 split at hv
 ·rename_i e
  subst e
  cases hm:m.lookup q.1 with
  |none=>simp only [hm,Option.some.injEq] at hv; subst hv; exact hq
  |some x=>
   simp only [hm,Option.some.injEq] at hv; subst hv
   rcases Int.lt_or_le q.2 x with q1|q1
   ·rw [Int.max_eq_right om]; exact h _ _ hm
   ·rw [Int.max_eq_left om]; exact hq
 ·exact h t v hv
theorem CJ {m:List (ao×Int)} {q:ao×Int}: ∃ v,(nY m q).lookup q.1=some v∧v≤q.2:=by
 rw [uP,if_pos rfl]
 refine ⟨_,rfl,?_⟩
 cases m.lookup q.1<;>simp only <;>omega
theorem CX {m:List (ao×Int)} {q:ao×Int}: ∃ v,(nV m q).lookup q.1=some v∧q.2≤v:=by
 rw [uI,if_pos rfl]
 refine ⟨_,rfl,?_⟩
 cases m.lookup q.1<;>simp only <;>omega
/-- all that comes of one entry, by some options, is held -/
def iA (w:bE) (b:Nat) (m:List (ao×Int)) (p:ao×Int) (os:List (Int×aa)):Prop:= ∀ o∈os,∀ q,kh w b p o=some q→ ∃ v,m.lookup q.1=some v∧v≤q.2
def iE (w:bE) (b:Nat) (m:List (ao×Int)) (p:ao×Int) (os:List (Int×aa)):Prop:= ∀ o∈os,∀ q,mS w b p o=some q→ ∃ v,m.lookup q.1=some v∧q.2≤v
theorem iA.lower {w:bE} {b:Nat} {m m':List (ao×Int)} {p:ao×Int} {os:List (Int×aa)} (h:iA w b m p os) (hl:vm m m'):iA w b m' p os:=fun o ho q hq=>by
 obtain ⟨v,h1,h2⟩:=h o ho q hq
 obtain ⟨v',h3,h4⟩:=hl _ _ h1
 exact ⟨v',h3,om⟩
theorem iE.upper {w:bE} {b:Nat} {m m':List (ao×Int)} {p:ao×Int} {os:List (Int×aa)} (h:iE w b m p os) (hl:vv m m'):iE w b m' p os:=fun o ho q hq=>by
 obtain ⟨v,h1,h2⟩:=h o ho q hq
 obtain ⟨v',h3,h4⟩:=hl _ _ h1
 exact ⟨v',h3,om⟩
theorem iA.sub {w:bE} {b:Nat} {m:List (ao×Int)} {p:ao×Int} {os os':List (Int×aa)} (h:iA w b m p os) (hs: ∀ o∈os',o∈os):iA w b m p os':=fun o ho=>h o (hs o ho)
theorem iE.sub {w:bE} {b:Nat} {m:List (ao×Int)} {p:ao×Int} {os os':List (Int×aa)} (h:iE w b m p os) (hs: ∀ o∈os',o∈os):iE w b m p os':=fun o ho=>h o (hs o ho)
theorem iA.add {w:bE} {b:Nat} {m m':List (ao×Int)} {p:ao×Int} {os:List (Int×aa)} {o:Int×aa} (h:iA w b m p os) (hl:vm m m') (hn: ∀ q,kh w b p o=some q→ ∃ v,m'.lookup q.1=some v∧v≤q.2):iA w b m' p (os++[o]):=fun o' ho q hq=>by
 rcases List.mem_append.1 ho with ho|ho
 ·exact h.lower hl o' ho q hq
 ·simp only [bU] at ho; subst ho; exact hn q hq
theorem iE.add {w:bE} {b:Nat} {m m':List (ao×Int)} {p:ao×Int} {os:List (Int×aa)} {o:Int×aa} (h:iE w b m p os) (hl:vv m m') (hn: ∀ q,mS w b p o=some q→ ∃ v,m'.lookup q.1=some v∧q.2≤v):iE w b m' p (os++[o]):=fun o' ho q hq=>by
 rcases List.mem_append.1 ho with ho|ho
 ·exact h.upper hl o' ho q hq
 ·simp only [bU] at ho; subst ho; exact hn q hq
theorem eW {m:List (ao×Int)} (hn:(m.map (·.1)).Nodup) {t:ao} {v:Int}:(t,v)∈m↔m.lookup t=some v:=jJ hn
theorem nx {z t:ao} {x v:Int}:List.lookup t [(z,x)]=some v↔t=z∧v=x:=by
 by_cases e:t=z
 ·subst e; simp [List.lookup,eq_comm]
 ·have:(t==z)=false:=by simpa using e
  simp [List.lookup,this,e]
theorem CN {w:bE}:rH [(⟨0,0⟩,w.Start)] (fwd w 0):=by
 refine ⟨fun t v h=>?_,fun t y h=>?_⟩
 ·obtain ⟨rfl,rfl⟩:=nx.1 h
  simp [fwd]
 ·simp only [fwd,bU,Prod.mk.injEq] at h
  obtain ⟨rfl,rfl⟩:=h
  exact ⟨w.Start,nx.2 ⟨rfl,rfl⟩,Int.le_refl _⟩
theorem GI {w:bE} {b:Nat} {mb m:List (ao×Int)} (hn:(mb.map (·.1)).Nodup) (h:rH mb (fwd w b)) (hs:tx m (fwd w (b+1))) (hd: ∀ p∈mb,iA w b m p (g7 w b)):rH m (fwd w (b+1)):=⟨hs,fun t y hy=>by
 obtain ⟨p,hp,o,ho,e⟩:=fB.1 hy
 obtain ⟨v,h1,h2⟩:=h.2 p.1 p.2 hp
 unfold kh at e
 split at e
 ·rename_i hle
  simp only [Option.some.injEq,Prod.mk.injEq] at e
  obtain ⟨v',h3,h4⟩:=hd (p.1,v) ((eW hn).2 h1) o ho (c_ p.1 (eL o.1),max (v+bH w b) o.2.Lo) (by unfold kh; rw [if_pos (by simp only; omega)])
  simp only at h3 h4
  rw [e.1] at h3
  exact ⟨v',h3,om⟩
 ·cases e⟩
theorem E0 {w:bE} {b:Nat} (hb:w.n≤b):tG [(⟨0,0⟩,w.fR)] (back w b):=by
 rw [s9 hb]
 refine ⟨fun t v h=>?_,fun t y h=>?_⟩
 ·obtain ⟨rfl,rfl⟩:=nx.1 h
  simp
 ·simp only [bU,Prod.mk.injEq] at h
  obtain ⟨rfl,rfl⟩:=h
  exact ⟨w.fR,nx.2 ⟨rfl,rfl⟩,Int.le_refl _⟩
theorem Gi {w:bE} {b:Nat} (hb:b<w.n) {mb m:List (ao×Int)} (hn:(mb.map (·.1)).Nodup) (h:tG mb (back w (b+1))) (hs:tx m (back w b)) (h0: ∃ v,m.lookup ⟨0,0⟩=some v∧w.fR≤v) (hd: ∀ p∈mb,iE w b m p (g7 w b)):tG m (back w b):=⟨hs,fun t y hy=>by
 rcases (nP hb).1 hy with e|⟨p,hp,o,ho,e⟩
 ·simp only [Prod.mk.injEq] at e
  obtain ⟨rfl,rfl⟩:=e
  exact h0
 obtain ⟨v,h1,h2⟩:=h.2 p.1 p.2 hp
 unfold mS at e
 split at e
 ·rename_i hle
  simp only [Option.some.injEq,Prod.mk.injEq] at e
  obtain ⟨v',h3,h4⟩:=hd (p.1,v) ((eW hn).2 h1) o ho (c_ p.1 (eL o.1),min v o.2.Hi-bH w b) (by unfold mS; rw [if_pos (by simp only; omega)])
  simp only at h3 h4
  rw [e.1] at h3
  exact ⟨v',h3,om⟩
 ·cases e⟩
end
section
def jg (w:bE) (b:Nat) (p u:ao×Int) (o:Int×aa):aa:=⟨max (p.2+bH w b) o.2.Lo,min u.2 o.2.Hi⟩
def vY (p u:ao×Int) (o:Int×aa):ao:=c_ (c_ p.1 u.1) (eL o.1)
def lL (w:bE) (b:Nat) (p u:ao×Int) (o:Int×aa):Option (Int×aa):=if (jg w b p u o).Lo≤(jg w b p u o).Hi∧j4 w (vY p u o)=true then some (o.1,jg w b p u o) else none
def oQ (w:bE) (b:Nat) (mf mb:List (ao×Int)):List (Int×aa):=(g7 w b).flatMap fun o=>mf.flatMap fun p=>mb.filterMap fun u=>lL w b p u o
def l4 (w:bE) (b:Nat):List (Int×aa):=oQ w b (fwd w b) (back w (b+1))
theorem gY {w:bE} {b:Nat} {mf mb:List (ao×Int)} {q:Int×aa}:q∈oQ w b mf mb↔ ∃ o∈g7 w b,∃ p∈mf,∃ u∈mb,lL w b p u o=some q:=by
 simp only [oQ,List.mem_flatMap,List.mem_filterMap]
theorem iW {w:bE} {b:Nat} {p u:ao×Int} {o q:Int×aa}:lL w b p u o=some q↔(jg w b p u o).Lo≤(jg w b p u o).Hi∧j4 w (vY p u o)=true∧q=(o.1,jg w b p u o):=by
 unfold lL
 split
 ·rename_i h
  simp only [Option.some.injEq]
  exact ⟨fun e=>⟨h.1,h.2,e.symm⟩,fun e=>e.2.2.symm⟩
 ·rename_i h
  simp only [reduceCtorEq,false_iff]
  exact fun e=>h ⟨e.1,e.2.1⟩
theorem l5 {w:bE} {b:Nat} {mf mb:List (ao×Int)} {q:Int×aa} (h:q∈oQ w b mf mb):q.2.Lo≤q.2.Hi:=by
 obtain ⟨o,_,p,_,u,_,e⟩:=gY.1 h
 obtain ⟨h1,_,rfl⟩:=iW.1 e
 exact h1
/-- what the maps tell is what all ways tell -/
theorem Ir {w:bE} {b:Nat} {mf mb:List (ao×Int)} (hf:rH mf (fwd w b)) (hb:tG mb (back w (b+1))) (nf:(mf.map (·.1)).Nodup) (nb:(mb.map (·.1)).Nodup) {q:Int×aa} (h:q∈oQ w b mf mb):q∈l4 w b:=by
 obtain ⟨o,ho,p,hp,u,hu,e⟩:=gY.1 h
 exact gY.2 ⟨o,ho,p,hf.1 _ _ ((eW nf).1 hp),u,hb.1 _ _ ((eW nb).1 hu),e⟩
theorem Ge {w:bE} {b:Nat} {mf mb:List (ao×Int)} (hf:rH mf (fwd w b)) (hb:tG mb (back w (b+1))) (nf:(mf.map (·.1)).Nodup) (nb:(mb.map (·.1)).Nodup) {q:Int×aa} (h:q∈l4 w b): ∃ q'∈oQ w b mf mb,q'.1=q.1∧q'.2.Lo≤q.2.Lo∧q.2.Hi≤q'.2.Hi:=by
 obtain ⟨o,ho,p,hp,u,hu,e⟩:=gY.1 h
 obtain ⟨h1,h2,rfl⟩:=iW.1 e
 obtain ⟨v,hv,hv2⟩:=hf.2 p.1 p.2 hp
 obtain ⟨y,hy,hy2⟩:=hb.2 u.1 u.2 hu
 simp only [jg] at h1
 refine ⟨(o.1,jg w b (p.1,v) (u.1,y) o),gY.2 ⟨o,ho,(p.1,v),(eW nf).2 hv,(u.1,y),(eW nb).2 hy,iW.2 ⟨?_,h2,rfl⟩⟩,rfl,?_,?_⟩
 ·simp only [jg]; omega
 ·simp only [jg]; omega
 ·simp only [jg]; omega
def l3:aa:=⟨1,0⟩
def lM (h x:aa):aa:=if h=l3 then x else ⟨min x.Lo h.Lo,max x.Hi h.Hi⟩
def vV (l:List (Int×aa)):aa:=l.foldl (fun h q=>lM h q.2) l3
structure nm (l:List (Int×aa)) (h:aa):Prop where
 le:h.Lo≤h.Hi
 lo: ∃ x∈l,x.2.Lo=h.Lo
 hi: ∃ x∈l,x.2.Hi=h.Hi
 all: ∀ x∈l,h.Lo≤x.2.Lo∧x.2.Hi≤h.Hi
def jX (l:List (Int×aa)) (h:aa):Prop:=(l=[]∧h=l3)∨nm l h
theorem nm.ne {l:List (Int×aa)} {h:aa} (hh:nm l h):h≠l3:=fun e=>by
 have:=hh.le; rw [e] at this; simp [l3] at this
theorem zb:jX [] l3:= .inl ⟨rfl,rfl⟩
theorem sf {l:List (Int×aa)} {h:aa} {q:Int×aa} (hh:jX l h) (hq:q.2.Lo≤q.2.Hi):jX (l++[q]) (lM h q.2):=by
 right
 rcases hh with ⟨rfl,rfl⟩|hh
 ·unfold lM
  rw [if_pos rfl]
  exact ⟨hq,⟨q,sm,rfl⟩,⟨q,sm,rfl⟩,fun x hx=>by simp at hx; subst hx; exact ⟨Int.le_refl _,Int.le_refl _⟩⟩
 ·unfold lM
  rw [if_neg hh.ne]
  have h1:=hh.le
  obtain ⟨a,ha,ea⟩:=hh.lo
  obtain ⟨c,hc,ec⟩:=hh.hi
  refine ⟨by simp only; omega,?_,?_,fun x hx=>?_⟩
  ·rcases Int.lt_or_le q.2.Lo h.Lo with p|p
   ·exact ⟨q,sm,by simp only; omega⟩
   ·exact ⟨a,by simp [ha],by simp only; omega⟩
  ·rcases Int.lt_or_le h.Hi q.2.Hi with p|p
   ·exact ⟨q,sm,by simp only; omega⟩
   ·exact ⟨c,by simp [hc],by simp only; omega⟩
  ·rcases List.mem_append.1 hx with hx|hx
   ·have:=hh.all x hx; simp only; omega
   ·simp at hx; subst hx; simp only; omega
theorem s8 {l:List (Int×aa)} (hl: ∀ q∈l,q.2.Lo≤q.2.Hi):jX l (vV l):=by
 have key: ∀ (r d:List (Int×aa)) (h:aa),(∀ q∈r,q.2.Lo≤q.2.Hi)→jX d h→jX (d++r) (r.foldl (fun h q=>lM h q.2) h):=by
  intro r
  induction r with
  |nil=>intro d h _ hd; simpa using hd
  |cons q r ih=>
   intro d h hr hd
   have:=ih (d++[q]) (lM h q.2) (fun x hx=>hr x (dY _ hx)) (sf hd (hr q sm))
   simpa using this
 have:=key l [] l3 hl zb
 rw [List.nil_append] at this
 exact this
def Bo (a b:List (Int×aa)):Prop:= ∀ x∈b,∃ y∈a,y.2.Lo≤x.2.Lo∧x.2.Hi≤y.2.Hi
theorem Iq {a b:List (Int×aa)} {h k:aa} (ha:jX a h) (hb:jX b k) (hab:Bo a b) (hba:Bo b a):h=k:=by
 rcases ha with ⟨rfl,rfl⟩|ha
 ·rcases hb with ⟨rfl,rfl⟩|hb
  ·rfl
  ·obtain ⟨x,hx,_⟩:=hb.lo
   obtain ⟨y,hy,_⟩:=hab x hx
   cases hy
 ·rcases hb with ⟨rfl,rfl⟩|hb
  ·obtain ⟨x,hx,_⟩:=ha.lo
   obtain ⟨y,hy,_⟩:=hba x hx
   cases hy
  ·have le: ∀ {a b:List (Int×aa)} {h k:aa},nm a h→nm b k→Bo a b→h.Lo≤k.Lo∧k.Hi≤h.Hi:=fun {a b h k} ha hb hab=>by
    obtain ⟨x,hx,ex⟩:=hb.lo
    obtain ⟨z,hz,ez⟩:=hb.hi
    obtain ⟨y,hy,ey⟩:=hab x hx
    obtain ⟨y',hy',ey'⟩:=hab z hz
    have h1:=ha.all y hy
    have h2:=ha.all y' hy'
    omega
   have h1:=le ha hb hab
   have h2:=le hb ha hba
   rw [aa.ext_iff]; omega
theorem sW {w:bE} {b:Nat} {mf mb:List (ao×Int)} {l:List (Int×aa)} {h:aa} (hf:rH mf (fwd w b)) (hb:tG mb (back w (b+1))) (nf:(mf.map (·.1)).Nodup) (nb:(mb.map (·.1)).Nodup)
 (hl: ∀ q∈l,q∈oQ w b mf mb) (hl2: ∀ q∈oQ w b mf mb,q∈l) (hh:jX l h):h=vV (l4 w b):=
 Iq hh (s8 fun q hq=>l5 hq) (fun x hx=>by
  obtain ⟨q,hq,_,h1,h2⟩:=Ge hf hb nf nb hx
  exact ⟨q,hl2 q hq,h1,h2⟩) (fun x hx=>⟨x,Ir hf hb nf nb (hl x hx),Int.le_refl _,Int.le_refl _⟩)
def iU (w:bE) (m:List (ao×Int)):Bool:=m.any fun p=>j4 w p.1
theorem ym {w:bE} {b:Nat} {m:List (ao×Int)} (h:rH m (fwd w b)) (nf:(m.map (·.1)).Nodup):iU w m=iU w (fwd w b):=by
 unfold iU
 rw [Bool.eq_iff_iff,List.any_eq_true,List.any_eq_true]
 constructor
 ·rintro ⟨p,hp,h2⟩
  exact ⟨p,h.1 _ _ ((eW nf).1 hp),h2⟩
 ·rintro ⟨p,hp,h2⟩
  obtain ⟨v,hv,_⟩:=h.2 p.1 p.2 hp
  exact ⟨(p.1,v),(eW nf).2 hv,h2⟩
def jn (w:bE) (k:Nat):List Int:=((List.range k).filter fun i=>iU w (fwd w i)).map fun (i:Nat)=>(i:Int)
def gR (w:bE):List Int:=jn w (w.n+1)
theorem Ba {w:bE} {k:Nat} (h:iU w (fwd w k)=true):jn w (k+1)=jn w k++[(k:Int)]:=by simp [jn,List.range_succ,h]
theorem CD {w:bE} {k:Nat} (h:iU w (fwd w k)=false):jn w (k+1)=jn w k:=by simp [jn,List.range_succ,h]
theorem u6 {w:bE} {k:Nat}:(jn w k).length≤k:=by
 unfold jn
 rw [List.length_map]
 exact Nat.le_trans (List.length_filter_le _ _) sm
end
section
open Go.RowKit
theorem Dg {P:Program} {t:Nat} {k:IntKind} (hu:P.underlying t=some (.int k)) (e:Bool) (n:Nat) (v:Value) (w:World):(Instr.checkKey e (n+1) t v).run P w= .ok () w:=by
 unfold Instr.checkKey
 simp only [Sem.run_bind,run_underlying hu,Result.andThen]
 cases v<;>rfl
theorem xA {P:Program} {kt:Nat} {l:List (Nat×Nat)} (hl:fL P kt=some l) (e:Bool) (n:Nat) (cs:Array Value) (w:World)
 (hf: ∀ p∈l,(∃ v,(part p.1 cs p.2).run P w= .ok v w)∧ ∃ k,P.underlying p.1=some (.int k)):(Instr.checkKey e (n+2) kt (.agg cs)).run P w= .ok () w:=by
 unfold fL at hl
 cases hu:P.underlying kt with
 |none=>simp [hu] at hl
 |some d=>
  cases d<;>simp [hu] at hl
  rename_i fs
  obtain ⟨hn,hl⟩:=hl
  rw [show n+2=(n+1)+1 from rfl,Instr.checkKey]
  simp only [Sem.run_bind,run_underlying hu,Result.andThen_ok]
  rw [← Array.forIn_toList]
  have hall: ∀ f∈fs.toList,(∃ v,(part f.type cs f.offset).run P w= .ok v w)∧ ∃ k,P.underlying f.type=some (.int k):=fun f hf'=>hf (f.type,f.offset) (by rw [← hl]; exact List.mem_map.2 ⟨f,hf',rfl⟩)
  have hnm: ∀ f∈fs.toList,f.name≠"_":=fun f hf'=>by
   obtain ⟨i,hi,rfl⟩:=List.getElem_of_mem hf'
   exact hn.1.1 i (by simpa using hi)
  clear hl hn hf
  generalize fs.toList=L at hall hnm
  induction L with
  |nil=>simp
  |cons f L ih=>
   obtain ⟨⟨v,hv⟩,k,hk⟩:=hall f sm
   have hne:=hnm f sm
   simp only [List.forIn_cons,Sem.run_bind,hne,ne_eq,not_false_eq_true,if_true,Result.andThen_ok,hv,Dg hk,Sem.run_pure]
   exact ih (fun y hy=>hall y (by simp [hy])) (fun y hy=>hnm y (by simp [hy]))
theorem yU {P:Program} {kt:Nat} {K:Type} [DecidableEq K] {kV:K→Value} (hw: ∀ (k:Value) (es:List MapEntry) (w:World),(Instr.findKey kt k es).run P w=(Instr.findAsking kt k es).run P w)
 (heq: ∀ x y w,(Op.equal kt (kV x) (kV y)).run P w= .ok (decide (x=y)) w) (inj: ∀ x y,kV x=kV y→x=y) (x:K) (w:World) (es:List MapEntry) (hk: ∀ e∈es,∃ k,e.key=kV k):
 ((Instr.findKey kt (kV x) es).run P w= .ok none w∧ ∀ e∈es,e.key≠kV x)∨ ∃ j e,(Instr.findKey kt (kV x) es).run P w= .ok (some (j,e.val)) w∧es[j]? =some e∧e.key=kV x:=by
 have key: ∀ (es:List MapEntry) (i:Nat),(∀ e∈es,∃ k,e.key=kV k)→((Instr.findAsking kt (kV x) es i).run P w= .ok none w∧ ∀ e∈es,e.key≠kV x)∨ ∃ j e,(Instr.findAsking kt (kV x) es i).run P w= .ok (some (i+j,e.val)) w∧es[j]? =some e∧e.key=kV x:=by
  intro es
  induction es with
  |nil=>intro i _; exact .inl ⟨by simp [Instr.findAsking],sm⟩
  |cons e es ih=>
   intro i hall
   obtain ⟨k,hek⟩:=hall e sm
   by_cases h:x=k
   ·refine .inr ⟨0,e,?_,rfl,by rw [hek,h]⟩
    subst h
    simp [Instr.findAsking,hek,heq]
   ·rcases ih (i+1) (fun y hy=>hall y (by simp [hy])) with ⟨h1,h2⟩|⟨j,e',h1,h2,h3⟩
    ·refine .inl ⟨by simp [Instr.findAsking,hek,heq,h,h1],fun y hy=>?_⟩
     rcases List.mem_cons.1 hy with rfl|hy
     ·rw [hek]; exact fun q=>h (inj _ _ q).symm
     ·exact h2 y hy
    ·exact .inr ⟨j+1,e',by simp [Instr.findAsking,hek,heq,h,h1]; omega,by simpa using h2,h3⟩
 rw [hw]
 rcases key es 0 hk with h|⟨j,e,h1,h2,h3⟩
 ·exact .inl h
 ·exact .inr ⟨j,e,by simpa using h1,h2,h3⟩
theorem Ae {P:Program} {kt:Nat} {l:List (Nat×Nat)} (hl:fL P kt=some l) (k:Value) (es:List MapEntry) (w:World):(Instr.findKey kt k es).run P w=(Instr.findAsking kt k es).run P w:=by
 refine run_findKey_eq w ?_ k es
 unfold fL at hl
 cases hu:P.underlying kt with
 |none=>simp [hu] at hl
 |some d=>cases d<;>simp [hu] at hl ⊢
theorem Hq {P:Program} {kt:Nat} {K:Type} [DecidableEq K] {kV:K→Value} {l:List (Nat×Nat)} (hl:fL P kt=some l) (heq: ∀ x y w,(Op.equal kt (kV x) (kV y)).run P w= .ok (decide (x=y)) w) (inj: ∀ x y,kV x=kV y→x=y)
 (hb: ∀ x,Instr.sameBits 10000 (kV x) (kV x)=true) (hp: ∀ x w,∃ cs,kV x= .agg cs∧ ∀ p∈l,(∃ v,(part p.1 cs p.2).run P w= .ok v w)∧ ∃ k,P.underlying p.1=some (.int k)):sV P kt kV:=
 ⟨fun e x w=>by obtain ⟨cs,e1,e2⟩:=hp x w; rw [e1]; exact xA hl e 9998 cs w e2,fun x w es=>yU (Ae hl) heq inj x w es,hb,inj⟩
end
section
open Go.RowKit
set_option linter.unusedSectionVars false
theorem eK {P:Program} {kt:Nat} (hk:P.underlying kt=some (.int .i64)):sV P kt (Value.int .i64):=by
 refine ⟨fun e x w=>DB hk e,fun x w es hall=>?_,fun x=>by simp [Instr.sameBits],fun x y h=>by injection h⟩
 have key: ∀ (es:List MapEntry) (i:Nat),(∀ e∈es,∃ k:Int,e.key= .int .i64 k)→(Instr.findNow (.int .i64) (.int .i64 x) es i=some none∧ ∀ e∈es,e.key≠ .int .i64 x)∨ ∃ j e,Instr.findNow (.int .i64) (.int .i64 x) es i=some (some (i+j,e.val))∧es[j]? =some e∧e.key= .int .i64 x:=by
  intro es
  induction es with
  |nil=>intro i _; exact .inl ⟨rfl,sm⟩
  |cons e es ih=>
   intro i hall
   obtain ⟨k,hek⟩:=hall e sm
   by_cases h:x=k
   ·subst h
    exact .inr ⟨0,e,by simp [Instr.findNow,Instr.sameNow,hek],rfl,hek⟩
   ·have hb:(x==k)=false:=by simpa using h
    rcases ih (i+1) (fun y hy=>hall y (by simp [hy])) with ⟨h1,h2⟩|⟨j,e',h1,h2,h3⟩
    ·refine .inl ⟨by simp [Instr.findNow,Instr.sameNow,hek,hb,h1],fun y hy=>?_⟩
     rcases List.mem_cons.1 hy with rfl|hy
     ·rw [hek]; intro q; injection q with _ q; exact h q.symm
     ·exact h2 y hy
    ·refine .inr ⟨j+1,e',?_,by simpa using h2,h3⟩
     simp only [Instr.findNow,Instr.sameNow,hek,hb,if_true,h1]
     simp; omega
 rcases key es 0 hall with ⟨h1,h2⟩|⟨j,e,h1,h2,h3⟩
 ·exact .inl ⟨MapKept.run_findKey hk h1,h2⟩
 ·exact .inr ⟨j,e,MapKept.run_findKey hk (by simpa using h1),h2,h3⟩
theorem St.Hh {S:BS} {w0 w w':World} {C:List aq} {A N:aq} (h:St S w0 C w) (i:Nat) (hA:C[i]? =some A) (k:dD no w w') (hN:N.holds w') (hf: ∀ b,N.eX b→w.heap.size≤b∨A.eX b∧ ¬ A.wf b∧ ¬ N.wf b):St S w0 (N::C) w':=by
 have h':=h.same k
 have hmem:=aw hA
 have hi:=(List.getElem?_eq_some_iff.1 hA).1
 have hget:C[i]=A:=(List.getElem?_eq_some_iff.1 hA).2
 refine ⟨h'.keeps,fun X hX=>?_,List.Pairwise.cons (fun X hX b hb hb'=>?_) h'.sep,fun X hX b hb=>?_,fun X hX b hb=>?_⟩
 ·rcases List.mem_cons.1 hX with rfl|hX
  ·exact hN
  ·exact h'.holds X hX
 ·rcases hf b hb with h1|⟨h1,h2,h3⟩
  ·have:=X.lt w (h.holds X hX) b hb'; omega
  ·refine ⟨h3,?_⟩
   obtain ⟨j,hj,hjX⟩:=List.mem_iff_getElem.1 hX
   by_cases e:j=i
   ·subst e; rw [← hjX,hget]; exact h2
   ·rcases Nat.lt_or_gt_of_ne e with hlt|hlt
    ·have:=List.pairwise_iff_getElem.1 h.sep j i hj hi hlt b (by rw [hjX]; exact hb') (by rw [hget]; exact h1)
     rw [← hjX]; exact this.1
    ·have:=List.pairwise_iff_getElem.1 h.sep i j hi hj hlt b (by rw [hget]; exact h1) (by rw [hjX]; exact hb')
     rw [← hjX]; exact this.2
 ·rcases List.mem_cons.1 hX with rfl|hX
  ·rcases hf b (X.j3 b hb) with h1|⟨_,_,h3⟩
   ·exact .inl (Nat.le_trans h.keeps.size h1)
   ·exact absurd hb h3
  ·exact h'.own X hX b hb
 ·rcases List.mem_cons.1 hX with rfl|hX
  ·rcases hf b hb with h1|⟨h1,_,_⟩
   ·exact .inl (Nat.le_trans h.keeps.size h1)
   ·exact h.seen A hmem b h1
  ·exact h'.seen X hX b hb
section
variable {K:Type} [DecidableEq K] {kV:K→Value}
/-- an iterator over a map that is read alone -/
def wo (kV:K→Value) (r b:Nat) (m left:List (K×Value)) (cur:Option (K×Value)):aq where
 eX k:=k=r∨k=b
 wf k:=k=r
 holds w:=r≠b∧ ∃ (es:Array MapEntry) (c since:Nat) (seen:Array Nat) (st:Nat),w.heap[b]? =some (.map es c)∧iD kV es c m∧w.heap[r]? =some (.mapIter (some b) since seen st)∧(∀ e∈es.toList,e.born<since)∧since≤st∧since≤c∧
  (leftOf es seen).toList.map (fun (e:MapEntry)=>(e.key,e.val))=left.map (fun p=>(kV p.1,p.2))∧
  ∀ p,cur=some p→ ∃ (e:MapEntry) (seen0:Array Nat),e∈es.toList∧seen=seen0.push e.born∧st=c∧e.key=kV p.1∧e.val=p.2
 wr:=false
 j3 _ h:= .inl h
 whole h:=by cases h
 lt w h k hk:=by
  obtain ⟨_,es,c,since,seen,st,h1,_,h2,_⟩:=h
  rcases hk with rfl|rfl
  ·exact dW h2
  ·exact dW h1
 lh w w' hk h:=by
  obtain ⟨hne,es,c,since,seen,st,h1,h2,h3,h4⟩:=h
  exact ⟨hne,es,c,since,seen,st,(hk b (.inr rfl)).trans h1,h2,(hk r (.inl rfl)).trans h3,h4⟩
theorem fx {r b:Nat} {m left:List (K×Value)} {cur:Option (K×Value)}:(∀ w,(wo kV r b m left cur).holds w→(wo kV r b m left none).holds w)∧(∀ k,(wo kV r b m left none).eX k→(wo kV r b m left cur).eX k)∧ ∀ k,(wo kV r b m left none).wf k→(wo kV r b m left cur).wf k:=
 ⟨fun w h=>by
  obtain ⟨hne,es,c,since,seen,st,h1,h2,h3,h4,h5,h5',h6,_⟩:=h
  exact ⟨hne,es,c,since,seen,st,h1,h2,h3,h4,h5,h5',h6,fun p hp=>by cases hp⟩,fun _ h=>h,fun _ h=>h⟩
section
variable {E:e9} {ops:Array Oper} {Q:dj} {rest:List Oper} {D:List Deferred} {L:List (Nat×Value)} {C:List aq}
variable {dst:Option Tmp} {d:Nat} {ty:TypeId} {ps:String} {af:Array Edge} {g:Option (Nat×Bool)}
theorem kd {t kt et:TypeId} {xm:Operand} {b:Nat} {m:List (K×Value)} {A:aq} (i:Nat) (hg:ju ops L g=true) (hm:ev L xm=some (.map (some b))) (ht:E.P.underlying t=some (.map kt et)) (hA:C[i]? =some A) (hAf:A.eX b∧ ¬ A.wf b) (hC:ji C (gQ kV b m).holds) (hd:Nat.blt d E.n=true)
 (k: ∀ r,RJ E ops Q rest D ((d,.pointer (some ⟨r,0,none⟩))::L) (wo kV r b m m none::C)):RJ E ops Q (⟨some d,.range t xm,ty,ps,af,g⟩::rest) D L C:=by
 intro a w hfr hs
 have hd':d<E.n:=by rw [← Nat.blt_eq]; exact hd
 unfold qf
 rw [if_pos (dH hfr hg)]
 obtain ⟨es,c,he,hi⟩:=hs.has hC
 have hbl:b<w.heap.size:=dW he
 have hget:(getObj b).run E.P w= .ok (.map es c) w:=MapKept.run_getObj_map he
 refine gz (v:= .pointer (some ⟨w.heap.size,0,none⟩)) (w':=w.alloc (.mapIter (some b) c #[] c)) sm ?_ ?_
 ·simp [execOp,Instr.range,hfr.ev hm,run_underlying ht,hget,newObj,Sem.run]
 ·refine k _ _ _ (hfr.put hd' _) (hs.Hh i hA (dD.alloc no w _) ⟨om,es,c,c,#[],c,?_,hi,heap_alloc_new w _,hi.Ey,Nat.le_refl _,Nat.le_refl _,?_,fun p hp=>by cases hp⟩ (fun q hq=>?_))
  ·rw [Below.heap_alloc w _ b hbl]; exact he
  ·have:leftOf es #[]=es:=by unfold leftOf; exact Array.filter_eq_self.2 sm
   rw [this]; exact hi.list
  ·rcases hq with rfl|rfl
   ·exact .inl (Nat.le_refl _)
   ·refine .inr ⟨hAf.1,hAf.2,fun (e:q=w.heap.size)=>by omega⟩
theorem C9 (hinj: ∀ x y,kV x=kV y→x=y) {xi:Operand} {r b:Nat} {m left:List (K×Value)} {cur:Option (K×Value)} (i:Nat) (hg:ju ops L g=true) (hm:ev L xi=some (.pointer (some ⟨r,0,none⟩))) (hC:C[i]? =some (wo kV r b m left cur)) (hd:Nat.blt d E.n=true)
 (k0:left=[]→RJ E ops Q rest D ((d,.tuple [.bool false].toArray)::L) C)
 (k1: ∀ x v,(x,v)∈left→(left.map (·.1)).Nodup→RJ E ops Q rest D ((d,.tuple [.bool true,kV x,v].toArray)::L) (C.set i (wo kV r b m (cj left x) (some (x,v))))):
 RJ E ops Q (⟨some d,.next xi false,ty,ps,af,g⟩::rest) D L C:=by
 intro a w hfr hs
 have hd':d<E.n:=by rw [← Nat.blt_eq]; exact hd
 unfold qf
 rw [if_pos (dH hfr hg)]
 obtain ⟨hne,es,c,since,seen,st,h1,hi,h3,hold,hsc,hsc2,hleft,_⟩:=hs.holds _ (aw hC)
 rcases run_next_at (P:=E.P) w ty r b since st seen es c h3 h1 hold hsc with ⟨h0,hr⟩|⟨e,he,w1,hw1,hr⟩
 ·refine gz (v:= .tuple #[.bool false]) (w':=w) sm ?_ ?_
  ·simp [execOp,hfr.ev hm,hr]
  ·refine k0 ?_ _ _ (hfr.put hd' _) hs
   have:(leftOf es seen).toList=[]:=by rw [← List.length_eq_zero_iff,Array.length_toList]; exact h0
   rw [this] at hleft
   exact List.map_eq_nil_iff.1 hleft.symm
 ·have hmem:(e.key,e.val)∈left.map (fun p=>(kV p.1,p.2)):=by rw [← hleft]; exact List.mem_map.2 ⟨e,he,rfl⟩
  obtain ⟨p,hp,hpe⟩:=List.mem_map.1 hmem
  obtain ⟨x,v⟩:=p
  simp only [Prod.mk.injEq] at hpe
  obtain ⟨hk,hv⟩:=hpe
  refine gz (v:= .tuple #[.bool true,e.key,e.val]) (w':=ChangeMaps.setBlock w1 r (.mapIter (some b) since (seen.push e.born) c)) sm ?_ ?_
  ·simp [execOp,hfr.ev hm,hr]
  ·rw [← hk,← hv]
   have hnd:=vQ hinj hi hleft
   have hees:e∈es.toList:=by unfold leftOf at he; rw [Array.toList_filter] at he; exact (List.mem_filter.1 he).1
   have hcs:c=c:=rfl
   have hheap:w1.heap=w.heap:=by rcases hw1 with rfl|rfl<;>rfl
   refine k1 x v hp hnd _ _ (hfr.put hd' _) (hs.mv i hC ⟨⟨hne,es,c,since,seen.push e.born,c,?_,hi,?_,hold,hsc2,hsc2,?_,fun q hq=>?_⟩,?_,fun q hq=> .inl hq,fun q hq=> .inl hq⟩)
   ·show (w1.heap.setIfInBounds r _)[b]? =_
    rw [Array.getElem?_setIfInBounds_ne hne,hheap]; exact h1
   ·show (w1.heap.setIfInBounds r _)[r]? =_
    rw [Array.getElem?_setIfInBounds_self_of_lt (by rw [hheap]; exact dW h3)]
   ·have hdk:leftOf es (seen.push e.born)=(leftOf es seen).filter (fun z=> !(z.born==e.born)):=by
     unfold leftOf
     rw [Array.filter_filter]
     congr 1
     funext z
     simp only [Array.contains_push,Bool.not_or]
     rw [Bool.and_comm]
    rw [hdk,Array.toList_filter]
    have key: ∀ (l:List MapEntry) (ll:List (K×Value)),(∀ z∈l,z∈es.toList)→l.map (fun (e:MapEntry)=>(e.key,e.val))=ll.map (fun p=>(kV p.1,p.2))→
     (l.filter (fun z=> !(z.born==e.born))).map (fun (e:MapEntry)=>(e.key,e.val))=(cj ll x).map (fun p=>(kV p.1,p.2)):=by
     intro l
     induction l with
     |nil=>intro ll _ h; cases ll with
      |nil=>rfl
      |cons p ll=>simp at h
     |cons z l ih=>
      intro ll hz h
      cases ll with
      |nil=>simp at h
      |cons p ll=>
       simp only [List.map_cons,List.cons.injEq,Prod.mk.injEq] at h
       have ih':=ih ll (fun y hy=>hz y (by simp [hy])) h.2
       have hiff:(z.born=e.born)↔(p.1=x):=by
        constructor
        ·intro hb
         have:z=e:=z3 hi.born (hz z sm) hees hb
         rw [this] at h
         have:=h.1.1.symm.trans hk.symm
         exact hinj _ _ this
        ·intro hx
         have hze:z.key=e.key:=by rw [h.1.1,hx,hk]
         rw [yI hinj hi (hz z sm) hees hze]
       unfold cj at ih' ⊢
       by_cases hx:p.1=x
       ·rw [List.filter_cons_of_neg (by simp [hiff.2 hx]),List.filter_cons_of_neg (by simp [hx])]; exact ih'
       ·rw [List.filter_cons_of_pos (by simpa using fun hb=>hx (hiff.1 hb)),List.filter_cons_of_pos (by simpa using hx)]
        simp only [List.map_cons,h.1.1,h.1.2,ih']
    exact key _ _ (fun z hz=>by unfold leftOf at hz; rw [Array.toList_filter] at hz; exact (List.mem_filter.1 hz).1) hleft
   ·cases hq
    exact ⟨e,seen,hees,rfl,rfl,hk.symm,hv.symm⟩
   ·refine ⟨?_,?_,?_,?_,fun q hq hn=>?_⟩
    ·rcases hw1 with rfl|rfl<;>rfl
    ·rcases hw1 with rfl|rfl<;>rfl
    ·rcases hw1 with rfl|rfl<;>rfl
    ·show w.heap.size≤(w1.heap.setIfInBounds r _).size
     simp [hheap]
    ·show (w1.heap.setIfInBounds r _)[q]? =_
     rw [Array.getElem?_setIfInBounds_ne (fun e=>hn e.symm),hheap]
theorem jL {xi:Operand} {r b:Nat} {m left:List (K×Value)} {x:K} {v:Value} (i:Nat) (hg:ju ops L g=true) (hm:ev L xi=some (.pointer (some ⟨r,0,none⟩))) (hC:C[i]? =some (wo kV r b m left (some (x,v)))):
 SD E ops ⟨dst,.entry xi,ty,ps,af,g⟩ D L C (.tuple [kV x,v].toArray):=
 dJ hg sm fun a w hfr hs=>by
  obtain ⟨hne,es,c,since,seen,st,h1,hi,h3,hold,hsc,hsc2,hleft,hcur⟩:=hs.holds _ (aw hC)
  obtain ⟨e,seen0,he,rfl,rfl,hk,hv⟩:=hcur _ rfl
  have:=run_entry_at (P:=E.P) w r b since seen0 es st e h3 h1 he hi.born
  simp [execOp,hfr.ev hm,this,hk,hv]
theorem jE (hinj: ∀ x y,kV x=kV y→x=y) {β:Type} {f:β→Value} {xi:Operand} {r b:Nat} {m:List (K×Value)} {ll:List (K×β)} {cur:Option (K×Value)} (i:Nat) (hg:ju ops L g=true) (hm:ev L xi=some (.pointer (some ⟨r,0,none⟩))) (hC:C[i]? =some (wo kV r b m (bw f ll) cur)) (hd:Nat.blt d E.n=true)
 (k0:ll=[]→RJ E ops Q rest D ((d,.tuple [.bool false].toArray)::L) C)
 (k1: ∀ x y,(x,y)∈ll→(ll.map (·.1)).Nodup→RJ E ops Q rest D ((d,.tuple [.bool true,kV x,f y].toArray)::L) (C.set i (wo kV r b m (bw f (cj ll x)) (some (x,f y))))):
 RJ E ops Q (⟨some d,.next xi false,ty,ps,af,g⟩::rest) D L C:=by
 refine C9 hinj i hg hm hC hd (fun h=>k0 (List.map_eq_nil_iff.1 h)) (fun x v hxv hn=>?_)
 obtain ⟨p,hp,hpe⟩:=List.mem_map.1 hxv
 simp only [Prod.mk.injEq] at hpe
 obtain ⟨rfl,rfl⟩:=hpe
 have:=k1 p.1 p.2 hp (by simpa [bw,Function.comp_def] using hn)
 rwa [kS] at this
theorem xr {t kt et:TypeId} {xm xk xv:Operand} {b:Nat} {x:K} {v:Value} {m m':List (K×Value)} {C':List aq} (i:Nat) (hg:ju ops L g=true) (hm:ev L xm=some (.map (some b))) (hk:ev L xk=some (kV x)) (hv:ev L xv=some v)
 (ht:E.P.underlying t=some (.map kt et)) (hkt:sV E.P kt kV) (hC:C[i]? =some (gQ kV b m)) (hm':eg m x v=m') (hC':C.set i (gQ kV b m')=C') (k:RJ E ops Q rest D L C'):
 RJ E ops Q (⟨none,.insert t xm xk xv,ty,ps,af,g⟩::rest) D L C:=by
 subst hm' hC'
 intro a w hfr hs
 unfold qf
 rw [if_pos (dH hfr hg)]
 obtain ⟨es,c,he,hi⟩:=hs.holds _ (aw hC)
 have hget:(getObj b).run E.P w= .ok (.map es c) w:=MapKept.run_getObj_map he
 rcases nR (P:=E.P) (w:=w) (x:=x) hkt hi with ⟨h1,h2⟩|⟨j,v0,h1,h2,h3⟩
 ·refine qd (w':={w with heap:=w.heap.setIfInBounds b (.map (es.push {key:=kV x,val:=v,born:=c}) (c+1))}) sm ?_ ?_
  ·simp [execOp,hfr.ev hm,hfr.ev hk,hfr.ev hv,Instr.mapUpdate,run_underlying ht,hget,iu hkt,h1,MapKept.run_setObj_map _ he]
  ·refine k _ _ ⟨hfr.defers,hfr.size,hfr.at_⟩ (hs.zK (b:=b) i hC rfl rfl (mq _) (fun _ h=>h) ⟨_,_,nZ he,?_⟩)
   have:eg m x v=m++[(x,v)]:=by unfold eg; rw [h2]; rfl
   rw [this]; exact hi.push h2 v
 ·have hsz:=hi.size
  have hje:j<es.size:=by have:=(List.getElem?_eq_some_iff.1 h2).1; omega
  have hkey:(es[j]).key=kV x:=by
   have:=congrArg (fun l=>l[j]?) hi.list
   simp [hje,h2] at this
   exact this.1
  refine qd (w':={w with heap:=w.heap.setIfInBounds b (.map (es.modify j fun e=>{e with key:=kV x,val:=v}) c)}) sm ?_ ?_
  ·simp [execOp,hfr.ev hm,hfr.ev hk,hfr.ev hv,Instr.mapUpdate,run_underlying ht,hget,iu hkt,h1,MapKept.run_setObj_map _ he,Instr.keyThatStays,hje,hkey,hkt.bits x]
  ·exact k _ _ ⟨hfr.defers,hfr.size,hfr.at_⟩ (hs.zK (b:=b) i hC rfl rfl (mq _) (fun _ h=>h) ⟨_,_,nZ he,hi.set h2 h3 v⟩)
end
end
end
section
open Go.RowKit
def Nz {σ:Type} (w0:World) (P:Program) (l:Nat) (step:σ→List Value→σ→Prop) (J:σ→aq→Prop) (Z:aq→Prop):Prop:=
 ∀ k x k' A w,step k x k'→J k A→w0.heap.size≤w.heap.size→A.holds w→YieldAt (Fw none) 0 P l x.toArray w fun e w'=>
  (e= .returned (.bool true)∧ ∃ B,J k' B∧Mv A B w w')∨(e= .returned (.bool false)∧ ∃ B,Z B∧Mv A B w w')
def Fz {σ:Type} (J:σ→aq→Prop) (Z:aq→Prop) (fin:σ→Prop) (A0:aq) (w0:World) (e:Ending) (w':World):Prop:=
 ∃ v,e= .returned v∧((∃ s B,fin s∧J s B∧Mv A0 B w0 w')∨ ∃ B,Z B∧Mv A0 B w0 w')
structure DO {σ:Type} (P:Program) (f:FuncId) (fi ca:List Value) (Cp:List aq) (s0:σ) (step:σ→List Value→σ→Prop) (fin:σ→Prop):Prop where
 go:rW P f=true
 run: ∀ (l:Nat) (J:σ→aq→Prop) (Z:aq→Prop) (A0:aq) (w:World),Nz w P l step J Z→J s0 A0→A0.holds w→(∀ A∈Cp,A.holds w)→(∀ A∈Cp,z8 A0 A.ro)→
  Calls P f (fi++Value.func (.yield l) #[] #[]::ca).toArray w (Fz J Z fin A0 w)
theorem HW {σ:Type} {J:σ→aq→Prop} {Z:aq→Prop} {n:σ} {fin:σ→Prop} {A0 B:aq} {w0 w:World} {C:List aq} {v:Value} (i:Nat) (hC:C[i]? =some B) (hfin:fin n) (hJ:J n B) (hF:Fo A0 w0 B) (hs:St ⟨A0.wf,fun _=>True⟩ w0 C w):Fz J Z fin A0 w0 (.returned v) w:=
 ⟨v,rfl,.inl ⟨n,B,hfin,hJ,hs.holds B (aw hC),hs.keeps,fun b hb=>(hs.own B (aw hC) b hb).symm,hF⟩⟩
theorem qL {σ:Type} {J:σ→aq→Prop} {Z:aq→Prop} {fin:σ→Prop} {A0 B:aq} {w0 w:World} {C:List aq} {v:Value} (i:Nat) (hC:C[i]? =some B) (hJ:Z B) (hF:Fo A0 w0 B) (hs:St ⟨A0.wf,fun _=>True⟩ w0 C w):Fz J Z fin A0 w0 (.returned v) w:=
 ⟨v,rfl,.inr ⟨B,hJ,hs.holds B (aw hC),hs.keeps,fun b hb=>(hs.own B (aw hC) b hb).symm,hF⟩⟩
theorem ud {σ:Type} {P:Program} {f:FuncId} {fn:Func} {c:Code} {fi ca:List Value} {Cp:List aq} {s0:σ} {step:σ→List Value→σ→Prop} {fin:σ→Prop} (hgo:rW P f=true) (hf:P.funcs[f]? =some fn) (hb:fn.body=some c) (hn:Nat.ble (fi.length+ca.length+1) fn.ntmps=true)
 (h: ∀ (l:Nat) (J:σ→aq→Prop) (Z:aq→Prop) (A0:aq) (w0:World) (Q:dj),Nz w0 P l step J Z→J s0 A0→Fo A0 w0 A0→
  (∀ D L C,LJ ⟨P,none,fn.ntmps,⟨A0.wf,fun _=>True⟩,w0⟩ fn (Fz J Z fin A0 w0) D L C→KJ ⟨P,none,fn.ntmps,⟨A0.wf,fun _=>True⟩,w0⟩ (Q .ret) D L C)→
  (∀ D L C,LJ ⟨P,none,fn.ntmps,⟨A0.wf,fun _=>True⟩,w0⟩ fn (Fz J Z fin A0 w0) D L C→KJ ⟨P,none,fn.ntmps,⟨A0.wf,fun _=>True⟩,w0⟩ (Q .normal) D L C)→
  WJ ⟨P,none,fn.ntmps,⟨A0.wf,fun _=>True⟩,w0⟩ c Q [] (JV (fi++Value.func (.yield l) #[] #[]::ca)) (A0::Cp.map aq.ro)):DO P f fi ca Cp s0 step fin:=by
 refine ⟨hgo,fun l J Z A0 w hY hJ hA hCp hsep=>?_⟩
 refine Ab hf hb (by simpa [Nat.add_assoc] using hn) (h l J Z A0 w · hY hJ (fun b hb=> .inl hb)) ?_
 have h0:=rz hCp
 refine ⟨dD.refl _ _,fun A hA'=>?_,List.Pairwise.cons (fun B hB=>?_) h0.sep,fun A hA' b hb=>?_,fun _ _ _ _=> .inr trivial⟩
 ·rcases List.mem_cons.1 hA' with rfl|hA'
  ·exact hA
  ·exact h0.holds A hA'
 ·obtain ⟨B',hB',rfl⟩:=List.mem_map.1 hB
  exact hsep B' hB'
 ·rcases List.mem_cons.1 hA' with rfl|hA'
  ·exact .inr hb
  ·obtain ⟨B',hB',rfl⟩:=List.mem_map.1 hA'
   exact hb.elim
section
variable {E:e9} {ops:Array Oper} {Q:dj} {rest:List Oper} {D:List Deferred} {L:List (Nat×Value)} {C:List aq}
variable {d:Nat} {ty:TypeId} {ps:String} {af:Array Edge} {g:Option (Nat×Bool)}
/-- a call of yield -/
theorem kH {σ:Type} {fop:Operand} {xs:Array Operand} {ts:Array TypeId} {l:Nat} {k k':σ} {vs:List Value} {step:σ→List Value→σ→Prop} {J:σ→aq→Prop} {Z:aq→Prop} {A0 A:aq} {w1:World} (i:Nat) (hw1:w1.heap.size≤E.w0.heap.size) (hY:Nz w1 E.P l step J Z) (hJ:J k A) (hF:Fo A0 w1 A) (hg:ju ops L g=true) (hf:ev L fop=some (.func (.yield l) #[] #[]))
 (hx:evs L xs.toList=some vs) (hk:step k vs k') (hC:C[i]? =some A) (hd:Nat.blt d E.n=true)
 (k1: ∀ B,J k' B→Fo A0 w1 B→RJ E ops Q rest D ((d,.bool true)::L) (C.set i B))
 (k2: ∀ B,Z B→Fo A0 w1 B→RJ E ops Q rest D ((d,.bool false)::L) (C.set i B)):
 RJ E ops Q (⟨some d,.call {callee:= .value fop,args:=xs,argTypes:=ts},ty,ps,af,g⟩::rest) D L C:=by
 intro a w hfr hs
 have hd':d<E.n:=by rw [← Nat.blt_eq]; exact hd
 unfold qf
 rw [if_pos (dH hfr hg)]
 have h1:xs.map a.eval=vs.toArray:=by
  have:=hfr.evs hx
  apply Array.ext'
  simp [this]
 obtain ⟨fn,tmps,assign,body,hy,hr⟩:=hY k vs k' A w hk hJ (Nat.le_trans hw1 hs.keeps.size) (hs.holds A (aw hC))
 have hrun:(execOp a.eval ⟨some d,.call {callee:= .value fop,args:=xs,argTypes:=ts},ty,ps,af,g⟩).run E.P w= .ok (.round l fn tmps assign body) w:=by
  simp [execOp,resolve,hfr.ev hf,Deferred.ofValue,invoke,h1,hy]
 refine ⟨fun _ _=>trivial,?_⟩
 rw [Oper.semAt_eq _ _ _ sm,hrun]
 refine ⟨fun h=>by simp at h,?_⟩
 have hfo: ∀ (B:aq) (w':World),Mv A B w w'→Fo A0 w1 B:=fun B w' m b hb=>by
  rcases m.eX b hb with h2|h2
  ·exact hF b h2
  ·exact .inr (Nat.le_trans hw1 (Nat.le_trans hs.keeps.size h2))
 have hr':RoundIn (Fw E.r) 0 E.P l fn tmps assign body w _:=hr
 refine hr'.mono fun e w' he=>?_
 rcases he with ⟨rfl,B,hB,m⟩|⟨rfl,B,hB,m⟩
 ·exact k1 B hB (hfo B w' m) _ _ (hfr.put hd' _) (hs.mv i hC m)
 ·exact k2 B hB (hfo B w' m) _ _ (hfr.put hd' _) (hs.mv i hC m)
end
theorem nA {σ:Type} {E:e9} {Q:dj} {D:List Deferred} {L L0:List (Nat×Value)} {C F:List aq} {g:Operand} {ps:Array Tmp} {assign body:Code} {f:FuncId} {fi ca:List Value} {Cp:List aq} {s0:σ} {step:σ→List Value→σ→Prop} {fin_:σ→Prop} {ι κ:Type}
 (inv:σ→ι→Prop) (Ci:σ→ι→List aq) (invx:Code→κ→Prop) (Cx:Code→κ→List aq) (isJ isF:List Nat) (y0:ι)
 (hr:E.r=none) (hg:ev L g=some (.func (.func f) fi.toArray ca.toArray)) (hs:DO E.P f fi ca Cp s0 step fin_)
 (hnd:decide (isJ++isF).Nodup=true) (hJ:lH C isJ=Ci s0 y0) (hF:lH C isF=F) (h0:inv s0 y0) (hCp: ∀ A∈Cp,∃ B∈F,GY B A)
 (hps: ∀ k x k',step k x k'→x.length=ps.size) (hpn:ps.toList.all (fun t=>Nat.blt t E.n)=true) (hL:dK L L0)
 (round: ∀ (k:σ) (x:List Value) (k':σ) (y:ι) (l:Nat) (ra rb:Loop) (S:BS) (w0:World) (K:Act→World→Prop) (Qr:dj),E.w0.heap.size≤w0.heap.size→step k x k'→inv k y→
  (∀ L' C',WJ ⟨E.P,some l,E.n,S,w0⟩ body Qr [] L' (kb l (.loop rb)::C')→KJ ⟨E.P,some l,E.n,S,w0⟩ K [] L' (kb l (.loop ra)::C'))→
  (∀ y' L' C',inv k' y'→(∀ w,St S w0 C' w→St S w0 (kb l (.loop rb)::Ci k' y') w)→KJ ⟨E.P,some l,E.n,S,w0⟩ (Qr .normal) [] L' C')→
  (∀ id z L' C',invx (.exit id) z→(∀ w,St S w0 C' w→St S w0 (kb l (.loop rb)::Cx (.exit id) z) w)→KJ ⟨E.P,some l,E.n,S,w0⟩ (Qr (.exit id)) [] L' C')→
  (∀ z L' C',invx .ret z→(∀ w,St S w0 C' w→St S w0 (kb l (.loop rb)::Cx .ret z) w)→KJ ⟨E.P,some l,E.n,S,w0⟩ (Qr .ret) [] L' C')→
  WJ ⟨E.P,some l,E.n,S,w0⟩ assign (Exit.then K (fun _ _ _=>False)) [] (zh ps.toList x L0) (kb l (.loop ra)::Ci k y))
 (fin: ∀ r s y,fin_ s→inv s y→KJ E (Q .normal) (kO r::D) L0 (kb r (.deferred (some []))::(F++Ci s y)))
 (finx: ∀ r id z,invx (.exit id) z→KJ E (Q (.exit id)) (kO r::D) L0 (kb r (.deferred (some []))::(F++Cx (.exit id) z)))
 (finr: ∀ r z,invx .ret z→KJ E (Q .ret) (kO r::D) L0 (kb r (.deferred (some []))::(F++Cx .ret z))):WJ E (.rangeFunc g ps assign body) Q D L C:=by
 intro a w hf hst
 refine wpIn_rangeFunc fun fn _=>?_
 show ∃ l kO w₁ d w₁' f args w₂,(Instr.enterLoop fn a.tmps ps assign body E.r).run E.P w= .ok (l,kO) w₁∧_
 rw [hr]
 obtain ⟨rec,hrec⟩: ∃ rec:LoopState→Option Code→Loop,rec=fun st pe=>{state:=st,pending:=pe,fn,tmps:=a.tmps,params:=ps,assign,body,defers:=w.heap.size}:=⟨_,rfl⟩
 obtain ⟨W1,hW1⟩: ∃ W1,(w.alloc (.deferred (some []))).alloc (.loop (rec .ready none))=W1:=⟨_,rfl⟩
 have hev:a.eval g= .func (.func f) fi.toArray ca.toArray:=hf.ev hg
 have hent:(Instr.enterLoop fn a.tmps ps assign body none).run E.P w= .ok (w.heap.size+1,[kO w.heap.size]) W1:=by
  rw [← hW1,hrec]; exact run_enterLoop_outer _ _ _ _ _
 -- the state with the record and the block
 have hst1:St E.S E.w0 ((kb (w.heap.size+1) (.loop (rec .ready none))::Ci s0 y0)++(kb w.heap.size (.deferred (some []))::F)) W1:=by
  have h1:St E.S E.w0 (Ci s0 y0++F) w:=St.lH (isJ++isF) hnd (by have h1:=hJ; have h2:=hF; unfold Go.Proofs.YtcoejkiaokbmpaaGreatDoor.lH at h1 h2 ⊢; rw [List.filterMap_append,h1,h2]) hst
  have hn:HC w W1 [kb (w.heap.size+1) (.loop (rec .ready none)),kb w.heap.size (.deferred (some []))]:=by
   refine ⟨fun A hA=>?_,fun A hA b hb=>?_,?_⟩
   ·rcases List.mem_cons.1 hA with rfl|hA
    ·show W1.heap[w.heap.size+1]? =_
     rw [← hW1]; have:=World.alloc_heap_new (w.alloc (.deferred (some []))) (.loop (rec .ready none)); rwa [World.size_alloc] at this
    ·simp only [bU] at hA; subst hA
     show W1.heap[w.heap.size]? =_
     rw [← hW1]; exact (Below.heap_alloc _ _ _ sm).trans (World.alloc_heap_new w _)
   ·rcases List.mem_cons.1 hA with rfl|hA
    ·have:b=w.heap.size+1:=hb
     omega
    ·simp only [bU] at hA; subst hA
     have:b=w.heap.size:=hb
     omega
   ·refine List.Pairwise.cons (fun B hB b h1 h2=>?_) (List.pairwise_singleton _ _)
    simp only [bU] at hB; subst hB
    have e1:b=w.heap.size+1:=h1
    have e2:b=w.heap.size:=h2
    omega
  have hk:dD no w W1:=by rw [← hW1]; exact (dD.alloc no w _).trans (dD.alloc no _ _)
  have h2:=h1.grow hk hn
  refine h2.perm ?_
  simp only [List.cons_append,List.nil_append]
  exact List.Perm.cons _ (List.perm_middle.symm)
 have hb1:=hst1.tied
 obtain ⟨hs1,hs2⟩:=List.pairwise_cons.1 hb1.sep
 have hA0:=hb1.holds _ (cZ ..)
 let J:σ→aq→Prop:=fun k A=> ∃ y,inv k y∧A=bV (kb (w.heap.size+1) (.loop (rec .ready none))::Ci k y)
 let Z:aq→Prop:=fun A=> ∃ c z,(c= .ret∨ ∃ id,c= .exit id)∧invx c z∧A=bV (kb (w.heap.size+1) (.loop (rec .done (some c)))::Cx c z)
 refine ⟨w.heap.size+1,[kO w.heap.size],W1,{target:= .fn (.func f) ca.toArray,args:=fi.toArray++ #[.func (.yield (w.heap.size+1)) #[] #[]]},W1,f,
  (fi++Value.func (.yield (w.heap.size+1)) #[] #[]::ca).toArray,W1,hent,?_,fun _ _=>trivial,?_,fun h=>by simp at h,?_⟩
 ·simp only [resolve,hev]
  simp [Deferred.ofValue,Act.eval]
 ·have:fi.toArray++ #[Value.func (.yield (w.heap.size+1)) #[] #[]]++ca.toArray=(fi++Value.func (.yield (w.heap.size+1)) #[] #[]::ca).toArray:=by simp
  simp [invoke,oi hs.go]
 ·refine (o7 E.r (hs.run (w.heap.size+1) J Z _ W1 ?_ ⟨y0,h0,rfl⟩ hA0 ?_ ?_)).mono ?_
  ·-- a round
   rintro k x k' A W hx ⟨y,hy,rfl⟩ hWs hA
   have hl:W.heap[w.heap.size+1]? =some (.loop (rec .ready none)):=hA.1 _ (cZ ..)
   have hyl:=run_yield (P:=E.P) (args:=x.toArray) hl (by rw [hrec]; simpa using hps k x k' hx)
   rw [hrec] at hyl
   refine ⟨fn,_,assign,body,hyl,roundIn_of_wpIn trivial ?_⟩
   let A:aq:=bV (kb (w.heap.size+1) (.loop (rec .ready none))::Ci k y)
   have hfr:Fr E.n [] (zh ps.toList x L0) {tmps:=(ps.zip x.toArray).foldl (fun tmps (t,a)=>tmps.setIfInBounds t a) a.tmps,defers:=[]}:=by
    have h1:=Gq ps.toList x L0 a.tmps (fun t ht=>by have:=List.all_eq_true.1 hpn t ht; rwa [Nat.blt_eq] at this) ⟨rfl,hf.size,fun t v hv=>hf.at_ t v (hL t v hv)⟩
    rw [← Array.foldl_toList]
    simpa using h1
   have hbusy: ∀ (c:Option Code) (b:Bool),({rec .busy none with state:=if b then .ready else .done,pending:=c}:Loop)=rec (if b then .ready else .done) c:=fun c b=>by rw [hrec]
   have hend: ∀ (c:Option Code) (w1:World) (C':List aq) (S:BS),St S W (kb (w.heap.size+1) (.loop (rec .busy none))::C') w1→
    ∃ w2,(Instr.endRound (w.heap.size+1) c).run E.P w1= .ok (.bool c.isNone) w2∧St S W (kb (w.heap.size+1) (.loop (rec (if c.isNone then .ready else .done) c))::C') w2:=fun c w1 C' S hs1=>by
    have hl1:w1.heap[w.heap.size+1]? =some (.loop (rec .busy none)):=hs1.holds _ (cZ ..)
    refine ⟨_,run_endRound c hl1,?_⟩
    have:=hs1.zK (b:=w.heap.size+1) (A':=kb (w.heap.size+1) (.loop (rec (if c.isNone then .ready else .done) c))) 0 rfl rfl rfl (iZ _) (fun _ h=>h) (World.putObj_heap_same (dW hl1))
    rw [hbusy]
    exact this
   refine round k x k' y (w.heap.size+1) (rec .ready none) (rec .busy none) ⟨A.wf,A.eX⟩ W _ (roundPost E.P (w.heap.size+1) (fun e w'=>(e= .returned (.bool true)∧ ∃ B,J k' B∧Mv A B W w')∨(e= .returned (.bool false)∧ ∃ B,Z B∧Mv A B W w'))) (Nat.le_trans (Nat.le_trans hst.keeps.size (by rw [← hW1]; simp; omega)) hWs) hx hy ?_ ?_ ?_ ?_ _ _ hfr (St.BJ hA)
   ·intro L' C' hW a1 w1 hf1 hs1
    have hl1:w1.heap[w.heap.size+1]? =some (.loop (rec .ready none)):=hs1.holds _ (cZ ..)
    refine ⟨_,run_beginRound hl1 (by rw [hrec]),hW _ _ hf1 ?_⟩
    have:=hs1.zK (b:=w.heap.size+1) (A':=kb (w.heap.size+1) (.loop (rec .busy none))) 0 rfl rfl rfl (iZ _) (fun _ h=>h) (World.putObj_heap_same (dW hl1))
    have e:({rec .ready none with state:= .busy}:Loop)=rec .busy none:=by rw [hrec]
    rw [e]; exact this
   ·intro y' L' C' hy' hC' a1 w1 hf1 hs1
    obtain ⟨w2,e1,e2⟩:=hend none w1 _ _ (hC' _ hs1)
    exact ⟨_,w2,e1,.inl ⟨rfl,_,⟨y',hy',rfl⟩,Mv.of e2⟩⟩
   ·intro id z L' C' hz hC' a1 w1 hf1 hs1
    obtain ⟨w2,e1,e2⟩:=hend (some (.exit id)) w1 _ _ (hC' _ hs1)
    exact ⟨_,w2,e1,.inr ⟨rfl,_,⟨_,z,.inr ⟨id,rfl⟩,hz,rfl⟩,Mv.of e2⟩⟩
   ·intro z L' C' hz hC' a1 w1 hf1 hs1
    obtain ⟨w2,e1,e2⟩:=hend (some .ret) w1 _ _ (hC' _ hs1)
    exact ⟨_,w2,e1,.inr ⟨rfl,_,⟨_,z,.inl rfl,hz,rfl⟩,Mv.of e2⟩⟩
  ·intro A hA
   obtain ⟨B,hB,hc⟩:=hCp A hA
   exact hc.holds _ (hb1.holds B (dY _ (dY _ hB)))
  ·intro A hA b hb hb'
   obtain ⟨B,hB,hc⟩:=hCp A hA
   exact ⟨(hs1 B (dY _ hB) b hb (hc.eX b hb')).1,fun h=>h⟩
  ·rintro e w' ⟨v,rfl,hh⟩
   have hfin:Fr E.n (kO w.heap.size::D) L0 {a with defers:=[kO w.heap.size]++a.defers}:=⟨by simp [hf.defers],hf.size,fun t v hv=>hf.at_ t v (hL t v hv)⟩
   have hleave: ∀ (st:LoopState) (c:Option Code) (C':List aq),st≠ .busy→Mv (bV (kb (w.heap.size+1) (.loop (rec .ready none))::Ci s0 y0)) (bV (kb (w.heap.size+1) (.loop (rec st c))::C')) W1 w'→
    ∃ w2,(Instr.endLoop (w.heap.size+1)).run E.P w'= .ok c w2∧St E.S E.w0 (kb w.heap.size (.deferred (some []))::(F++C')) w2:=fun st c C' hne m=>by
    have h1:=(hb1.mv 0 rfl m).jr
    have h1':St E.S E.w0 ((kb (w.heap.size+1) (.loop (rec st c))::C')++(kb w.heap.size (.deferred (some []))::F)) w':=h1
    have hl1:w'.heap[w.heap.size+1]? =some (.loop (rec st c)):=h1'.holds (kb (w.heap.size+1) (.loop (rec st c))) sm
    refine ⟨_,by have:=run_endLoop (P:=E.P) hl1 (by rw [hrec]; exact hne); rw [this,hrec],?_⟩
    have h2:=h1'.zK (b:=w.heap.size+1) (A':=kb (w.heap.size+1) (.loop {rec st c with state:= .exhausted})) 0 rfl rfl rfl (iZ _) (fun _ h=>h) (World.putObj_heap_same (dW hl1))
    have h3:St E.S E.w0 (C'++(kb w.heap.size (.deferred (some []))::F)) _:=h2.take (List.sublist_cons_self _ _)
    rw [hrec] at h3
    refine h3.perm ?_
    exact (List.perm_append_comm).trans sm
   rcases hh with ⟨s,B,hfs,⟨y,hy,rfl⟩,m⟩|⟨B,⟨c,z,hc,hz,rfl⟩,m⟩
   ·obtain ⟨w2,e1,e2⟩:=hleave .ready none _ sm m
    exact ⟨none,w2,e1,fin w.heap.size s y hfs hy _ _ hfin e2⟩
   ·obtain ⟨w2,e1,e2⟩:=hleave .done (some c) _ sm m
    refine ⟨some c,w2,e1,?_⟩
    rcases hc with rfl|⟨id,rfl⟩
    ·exact wpIn_ret (finr w.heap.size z hz _ _ hfin e2)
    ·exact wpIn_exit (finx w.heap.size id z hz _ _ hfin e2)
end
section
open Go.RowKit
/-- where a row lies, and its capacity -/
abbrev RA:=OA×Nat
/-- what is asked of memory by all elements -/
def aU {M A:Type} (f:M→A→List aq):List M→List A→List aq
 |m::ms,a::asl=>f m a++aU f ms asl
 |_,_=>[]
theorem cm {M A:Type} {f:M→A→List aq}: ∀ {ms:List M} {asl:List A} {k:Nat} {m:M} {a:A} {X:aq},ms[k]? =some m→asl[k]? =some a→X∈f m a→X∈aU f ms asl
 |[],_,k,m,a,X,h,_,_=>by simp at h
 |_::_,[],k,m,a,X,_,h,_=>by simp at h
 |x::ms,y::asl,0,m,a,X,h,h2,hX=>by
  simp at h h2; subst h h2
  exact List.mem_append_left _ hX
 |x::ms,y::asl,k+1,m,a,X,h,h2,hX=>List.mem_append_right _ (cm (ms:=ms) (asl:=asl) (k:=k) (by simpa using h) (by simpa using h2) hX)
theorem pb {M A:Type} {f:M→A→List aq}: ∀ {ms:List M} {asl:List A} {X:aq},X∈aU f ms asl→ ∃ (k:Nat) (m:M) (a:A),ms[k]? =some m∧asl[k]? =some a∧X∈f m a
 |[],_,X,h=>by cases h
 |_::_,[],X,h=>by cases h
 |x::ms,y::asl,X,h=>by
  rcases List.mem_append.1 h with h|h
  ·exact ⟨0,x,y,rfl,rfl,h⟩
  ·obtain ⟨k,m,a,h1,h2,h3⟩:=pb h
   exact ⟨k+1,m,a,by simpa using h1,by simpa using h2,h3⟩
theorem lP {M A:Type} {f:M→A→List aq}: ∀ {ms:List M} {asl:List A} {ns:List M} {bs:List A},ms.length=asl.length→aU f (ms++ns) (asl++bs)=aU f ms asl++aU f ns bs
 |[],[],ns,bs,_=>rfl
 |[],_::_,ns,bs,h=>by simp at h
 |_::_,[],ns,bs,h=>by simp at h
 |x::ms,y::asl,ns,bs,h=>by
  simp only [List.cons_append,aU,List.append_assoc]
  rw [lP (by simpa using h)]
theorem gn {M A β:Type} {f:M→A→β} {ms:List M} {asl:List A} {k:Nat} {m:M} {a:A} (h:ms[k]? =some m) (h2:asl[k]? =some a):(List.zipWith f ms asl)[k]? =some (f m a):=by
 rw [List.getElem?_zipWith,h,h2]
theorem dA {C L:List aq} {A:aq} (i:Nat) (hC:C[i]? =some (du L).ro) (hm:A∈L):ji C A.holds:=fun w hw=>hw _ (aw hC) A hm
theorem j7 {M A:Type} {f g:M→A→List aq} {ms:List M} {asl:List A} {C:List aq} (i:Nat) (hC:C[i]? =some (bV (aU g ms asl))) (h: ∀ m a w,(∀ X∈g m a,X.holds w)→ ∀ X∈f m a,X.holds w):ji C (du (aU f ms asl)).holds:=fun w hw X hX=>by
 have hb:=hw _ (aw hC)
 obtain ⟨k,m,a,h1,h2,h3⟩:=pb hX
 exact h m a w (fun Y hY=>hb.1 Y (cm h1 h2 hY)) X h3
/-- a row that is part of another one -/
theorem Hd {C:List aq} {A:OA} {n k sz:Nat} {es:List (List Value)} (hR:ji C (rd A n sz es).holds) (hk:k≤n):ji C (rd A k sz (es.take k)).holds:=fun w hw=>by
 obtain ⟨h1,h2,h3⟩:=hR w hw
 refine ⟨by rw [List.length_take,h1]; omega,fun x hx=>h2 x (List.mem_of_mem_take hx),fun hp=>?_⟩
 have hk0:0<k:=Nat.pos_of_mul_pos_right hp
 have hs:0<sz:=Nat.pos_of_mul_pos_left hp
 obtain ⟨ad,hA,hc2⟩:=h3 (Nat.mul_pos om hs)
 refine ⟨ad,hA,fun i e j v he hv=>hc2 i e j v ?_ hv⟩
 rw [List.getElem?_take] at he
 split at he
 ·exact he
 ·cases he
section
variable {E:e9} {ops:Array Oper} {Q:dj} {rest:List Oper} {D:List Deferred} {L:List (Nat×Value)} {C:List aq}
variable {d:Nat} {ty:TypeId} {ps:String} {af:Array Edge} {g:Option (Nat×Bool)}
/-- an element of a slice that is the head of a row -/
theorem Oa (k:Nat) {x ix:Operand} {A:OA} {n n' c sz e t:Nat} {es:List (List Value)} {j:Int} (h:bF E.n ops L d g x ix=some (.slice A n' c,.int .i64 j)) (hR:ji C (rd A n sz es).holds)
 (ht:tE E.P t=some (e,sz)) (hz:0<sz) (hj:j=(k:Int)) (hk:k<n') (hn:n'≤n):SE E ops ⟨some d,.indexAddr t x ix,ty,ps,af,g⟩ D L C (.pointer (o3 A (k*sz))) d:=IA k h (Hd hR hn) ht hz hj hk
end
theorem St.tie {S:BS} {w0 w:World} {C:List aq} {A:aq} {L L':List aq} (h:St S w0 (A::bV L::C) w) (e:L++[A]=L'):St S w0 (bV L'::C) w:=by
 subst e
 have h1:St S w0 (bV L::A::C) w:=h.perm (List.Perm.swap _ _ _)
 have h2:St S w0 (L++(A::C)) w:=h1.jr
 have h3:St S w0 ((L++[A])++C) w:=by simpa using h2
 exact h3.tied
theorem St.JX {S:BS} {w0 w:World} {C:List aq} (h:St S w0 C w):St S w0 (bV []::C) w:=St.tied (C1:=[]) h
section
variable {E:e9} {Q:dj} {D:List Deferred} {L:List (Nat×Value)} {C:List aq}
theorem sD {c:Code} (h:WJ E c Q D L (bV []::C)):WJ E c Q D L C:=fun a w hf hs=>h a w hf hs.JX
theorem AP {ops:Array Oper} {rest:List Oper} (h:RJ E ops Q rest D L (bV []::C)):RJ E ops Q rest D L C:=fun a w hf hs=>h a w hf hs.JX
theorem zI {K:Act→World→Prop} {C1:List aq} {A:aq} {X X':List aq} (i j:Nat) (hn:decide (j::i::(List.range C.length).filter fun k=>k != i&&k != j).Nodup=true) (hC:lH C (j::i::(List.range C.length).filter fun k=>k != i&&k != j)=A::bV X::C1) (e:X++[A]=X')
 (h:KJ E K D L (bV X'::C1)):KJ E K D L C:=fun a w hf hs=>h a w hf ((St.lH _ hn hC hs).tie e)
theorem LZ {ops:Array Oper} {rest:List Oper} {C1:List aq} {A:aq} {X X':List aq} (i j:Nat) (hn:decide (j::i::(List.range C.length).filter fun k=>k != i&&k != j).Nodup=true) (hC:lH C (j::i::(List.range C.length).filter fun k=>k != i&&k != j)=A::bV X::C1) (e:X++[A]=X')
 (h:RJ E ops Q rest D L (bV X'::C1)):RJ E ops Q rest D L C:=fun a w hf hs=>h a w hf ((St.lH _ hn hC hs).tie e)
end
end
section
open Go.RowKit
abbrev dF:aa→Value:=fun s=>vA (aa.cells s)
abbrev dI:ao→Value:=fun s=>vA (ao.cells s)
abbrev TM:=List (Int×aa)
abbrev FM:=List (ao×Int)
def eV {α:Type} (m:α) (b:Nat):List Value:=[Value.map (some b)]
def n8 (m:TM) (b:Nat):List aq:=[gQ iV b (bw dF m)]
def lx (m:FM) (b:Nat):List aq:=[gQ dI b (bw iV m)]
theorem vc {M A:Type} {f:M→A→List aq}: ∀ (m:M) (a:A) (w:World),(∀ X∈f m a,X.holds w)→ ∀ X∈f m a,X.holds w:=fun _ _ _ h=>h
/-- untied -/
theorem Ha {E:e9} {ops:Array Oper} {Q:dj} {rest:List Oper} {D:List Deferred} {L:List (Nat×Value)} {C X C1:List aq} (i:Nat) (hn:decide (i::(List.range C.length).filter fun k=>k != i).Nodup=true) (hC:lH C (i::(List.range C.length).filter fun k=>k != i)=bV X::C1)
 (h:RJ E ops Q rest D L (X++C1)):RJ E ops Q rest D L C:=fun a w hf hs=>h a w hf (St.jr (St.lH _ hn hC hs))
end
section
def ck (ln:cE) (rd:eE) (e:List Int) (tms:List TM):bE:=⟨rd.Start,rd.fR,e,tms,ln.e8,ln.iH,(rd.ag.n:Int)⟩
def IF (o:Int×aa):List Value:=[.int .i64 o.1,.agg (aa.cells o.2).toArray]
structure DY (w:bE):Prop where
 n:w.n≤6
 times:w.tO.length=w.n
 now:0≤w.Start∧w.Start≤w.fR∧w.fR≤86400000
 least: ∀ x∈w.oU,1≤x∧x≤500000000
 BL: ∀ t∈w.tO,∀ p∈t,(0≤p.1∧p.1≤10)∧0≤p.2.Lo∧p.2.Lo≤p.2.Hi∧p.2.Hi≤86400000
theorem DY.opt {w:bE} (h:DY w) {b:Nat} {o:Int×aa} (ho:o∈g7 w b):(-1≤o.1∧o.1≤10)∧0≤o.2.Lo∧o.2.Lo≤o.2.Hi∧o.2.Hi≤86400000:=by
 unfold g7 rr at ho
 rcases List.mem_cons.1 ho with rfl|ho
 ·have:=h.now; simp only; omega
 ·cases ht:w.tO[b]? with
  |none=>simp [ht] at ho
  |some t=>
   rw [ht] at ho
   have:=h.BL t (aw ht) o ho
   omega
theorem DY.bH {w:bE} (h:DY w) (b:Nat):0≤bH w b∧bH w b≤500000000:=by
 unfold Go.Proofs.YtcoejkiaokbmpaaGreatDoor.bH
 cases ht:w.oU[b]? with
 |none=>simp
 |some x=>have:=h.least x (aw ht); simp only [Option.getD_some]; omega
theorem sN (s:Int):(0≤(eL s).right∧0≤(eL s).dG)∧(eL s).right+(eL s).dG=1:=by unfold eL; split<;>simp
theorem EO {w:bE} (h:DY w): ∀ (b:Nat) p,p∈fwd w b→(0≤p.2∧p.2≤86400000)∧(0≤p.1.right∧0≤p.1.dG)∧p.1.right+p.1.dG=(b:Int):=by
 intro b
 induction b with
 |zero=>
  intro p hp
  simp only [fwd,bU] at hp
  subst hp
  have:=h.now; simp only; omega
 |succ b ih=>
  intro q hq
  obtain ⟨p,hp,o,ho,e⟩:=fB.1 hq
  have h1:=ih p hp
  have h2:=h.opt ho
  have h3:=h.bH b
  have h4:=h.now
  have h5:=sN o.1
  unfold kh at e
  split at e
  ·simp only [Option.some.injEq] at e
   subst e
   simp only [c_]
   omega
  ·cases e
theorem KN {w:bE} (h:DY w): ∀ (k:Nat) p,p∈bwd w k→(-(500000000*(k:Int))≤p.2∧p.2≤86400000)∧(0≤p.1.right∧0≤p.1.dG)∧p.1.right+p.1.dG≤(k:Int):=by
 intro k
 induction k with
 |zero=>
  intro p hp
  simp only [bwd,bU] at hp
  subst hp
  have:=h.now; simp only; omega
 |succ k ih=>
  intro q hq
  simp only [bwd,dZ,List.mem_flatMap,List.mem_filterMap] at hq
  rcases hq with rfl|⟨p,hp,o,ho,e⟩
  ·have:=h.now; simp only; omega
  ·have h1:=ih p hp
   have h2:=h.opt ho
   have h3:=h.bH (w.n-(k+1))
   have h4:=h.now
   have h5:=sN o.1
   unfold mS at e
   split at e
   ·simp only [Option.some.injEq] at e
    subst e
    simp only [c_]
    omega
   ·cases e
theorem FV {w:bE} (h:DY w) {b:Nat} {p:ao×Int} (hp:p∈back w b):(-3000000000≤p.2∧p.2≤86400000)∧(0≤p.1.right∧0≤p.1.dG)∧p.1.right+p.1.dG≤6:=by
 have:=KN h _ _ hp
 have:=h.n
 omega
theorem vf {w:bE} {b:Nat} {t:TM} (ht:w.tO[b]? =some t) {o:Int×aa}:o∈g7 w b↔o=(-1,⟨w.Start,w.fR⟩)∨o∈t:=by
 unfold g7 rr; rw [ht]; simp
theorem lj {K β:Type} [DecidableEq K] {l:List (K×β)} {x:K} {y:β} (hn:(l.map (·.1)).Nodup) (hm:(x,y)∈l) {o:K×β} (h:o∈l):o∈cj l x∨o=(x,y):=by
 by_cases e:o.1=x
 ·right
  obtain ⟨k,v⟩:=o
  simp only at e
  subst e
  have h1:=(jJ hn).1 h
  have h2:=(jJ hn).1 hm
  rw [h1] at h2
  cases h2; rfl
 ·exact .inl (jS.2 ⟨h,e⟩)
theorem Dh {K β:Type} [DecidableEq K] {t l ys:List (K×β)} {x:K} {y:β} (hn:(l.map (·.1)).Nodup) (hm:(x,y)∈l) (h: ∀ o∈t,o∈l∨o∈ys): ∀ o∈t,o∈cj l x∨o∈ys++[(x,y)]:=fun o ho=>by
 rcases h o ho with h|h
 ·rcases lj hn hm h with h|h
  ·exact .inl h
  ·exact .inr (by simp [h])
 ·exact .inr (by simp [h])
theorem lK {K β:Type} [DecidableEq K] {t l:List (K×β)} {x:K} (h: ∀ o∈l,o∈t): ∀ o∈cj l x,o∈t:=fun o ho=>h o (jS.1 ho).1
theorem FO {w:bE} {m left:List (ao×Int)} (h: ∀ p∈m,p∈left∨j4 w p.1=false) (h0:left=[]):iU w m=false:=by
 unfold iU
 rw [List.any_eq_false]
 intro p hp
 rcases h p hp with q|q
 ·rw [h0] at q; cases q
 ·simp [q]
theorem Hw {w:bE} {m:List (ao×Int)} {p:ao×Int} (hp:p∈m) (h:j4 w p.1=true):iU w m=true:=List.any_eq_true.2 ⟨p,hp,h⟩
theorem EN {w:bE} {m left:List (ao×Int)} {t:ao} {v:Int} (hn:(left.map (·.1)).Nodup) (hm:(t,v)∈left) (h: ∀ p∈m,p∈left∨j4 w p.1=false) (hf:j4 w t=false): ∀ p∈m,p∈cj left t∨j4 w p.1=false:=fun p hp=>by
 rcases h p hp with q|q
 ·rcases lj hn hm q with q|q
  ·exact .inl q
  ·right; rw [q]; exact hf
 ·exact .inr q
/-- what the maps of a watch are -/
structure vU (w:bE) (fs:List (List (ao×Int))):Prop where
 len:fs.length=w.n+1
 min: ∀ (b:Nat) m,fs[b]? =some m→rH m (fwd w b)
 keys: ∀ (b:Nat) m,fs[b]? =some m→(m.map (·.1)).Nodup
structure sU (w:bE) (bs:List (List (ao×Int))):Prop where
 len:bs.length=w.n+1
 max: ∀ (b:Nat) m,bs[b]? =some m→tG m (back w b)
 keys: ∀ (b:Nat) m,bs[b]? =some m→(m.map (·.1)).Nodup
theorem vU.mem {w:bE} {fs:List (List (ao×Int))} (h:vU w fs) {b:Nat} {m:List (ao×Int)} (hm:fs[b]? =some m) {p:ao×Int} (hp:p∈m):p∈fwd w b:=(h.min b m hm).1 _ _ ((eW (h.keys b m hm)).1 hp)
theorem sU.mem {w:bE} {fs:List (List (ao×Int))} (h:sU w fs) {b:Nat} {m:List (ao×Int)} (hm:fs[b]? =some m) {p:ao×Int} (hp:p∈m):p∈back w b:=(h.max b m hm).1 _ _ ((eW (h.keys b m hm)).1 hp)
theorem Du {w:bE} {b:Nat} {t l ys:List (Int×aa)} (ht:w.tO[b]? =some t) (h: ∀ o∈t,o∈l∨o∈ys) (h0:l=[]) (hs:(-1,(⟨w.Start,w.fR⟩:aa))∈ys): ∀ o∈g7 w b,o∈ys:=fun o ho=>by
 rcases (vf ht).1 ho with rfl|ho
 ·exact hs
 ·rcases h o ho with q|q
  ·rw [h0] at q; cases q
  ·exact q
end
section
/-- by these options all is yielded -/
def kP (w:bE) (b:Nat) (mf mb:List (ao×Int)) (os ys:List (Int×aa)):Prop:= ∀ o∈os,∀ p∈mf,∀ u∈mb,∀ q,lL w b p u o=some q→q∈ys
def mG (w:bE) (b:Nat) (mf mb:List (ao×Int)) (o:Int×aa) (left:List (ao×Int)) (ys:List (Int×aa)):Prop:= ∀ p∈mf,p∈left∨ ∀ u∈mb,∀ q,lL w b p u o=some q→q∈ys
def mK (w:bE) (b:Nat) (mb:List (ao×Int)) (o:Int×aa) (p:ao×Int) (left:List (ao×Int)) (ys:List (Int×aa)):Prop:= ∀ u∈mb,u∈left∨ ∀ q,lL w b p u o=some q→q∈ys
variable {w:bE} {b:Nat} {mf mb left:List (ao×Int)} {o x:Int×aa} {os ys:List (Int×aa)} {p u:ao×Int}
theorem kP.nil:kP w b mf mb [] ys:=fun o ho=>by cases ho
theorem kP.app (h:kP w b mf mb os ys):kP w b mf mb os (ys++[x]):=fun o ho p hp u hu q e=>List.mem_append_left _ (h o ho p hp u hu q e)
theorem mG.app (h:mG w b mf mb o left ys):mG w b mf mb o left (ys++[x]):=fun p hp=>(h p hp).imp id fun h u hu q e=>List.mem_append_left _ (h u hu q e)
theorem mG.start:mG w b mf mb o mf ys:=fun p hp=> .inl hp
theorem mK.start:mK w b mb o p mb ys:=fun p hp=> .inl hp
theorem mK.skip {t:ao} {v:Int} (hn:(left.map (·.1)).Nodup) (hm:(t,v)∈left) (h:mK w b mb o p left ys) (he:lL w b p (t,v) o=none):mK w b mb o p (cj left t) ys:=fun u hu=>by
 rcases h u hu with q|q
 ·rcases lj hn hm q with q|q
  ·exact .inl q
  ·right; intro z hz; rw [q,he] at hz; cases hz
 ·exact .inr q
theorem mK.MU {t:ao} {v:Int} (hn:(left.map (·.1)).Nodup) (hm:(t,v)∈left) (h:mK w b mb o p left ys) (he:lL w b p (t,v) o=some x):mK w b mb o p (cj left t) (ys++[x]):=fun u hu=>by
 rcases h u hu with q|q
 ·rcases lj hn hm q with q|q
  ·exact .inl q
  ·right; intro z hz; rw [q,he] at hz; cases hz; simp
 ·right; intro z hz; exact List.mem_append_left _ (q z hz)
theorem mG.next {t:ao} {v:Int} {l2:List (ao×Int)} (hn:(left.map (·.1)).Nodup) (hm:(t,v)∈left) (h:mG w b mf mb o left ys) (hq:mK w b mb o (t,v) l2 ys) (h0:l2=[]):mG w b mf mb o (cj left t) ys:=fun p hp=>by
 rcases h p hp with q|q
 ·rcases lj hn hm q with q|q
  ·exact .inl q
  ·right; intro u hu z hz; subst q
   rcases hq u hu with q|q
   ·rw [h0] at q; cases q
   ·exact q z hz
 ·exact .inr q
theorem kP.next (h:kP w b mf mb os ys) (hp:mG w b mf mb o left ys) (h0:left=[]):kP w b mf mb (os++[o]) ys:=fun o' ho p hp' u hu q e=>by
 rcases List.mem_append.1 ho with ho|ho
 ·exact h o' ho p hp' u hu q e
 ·simp only [bU] at ho; subst ho
  rcases hp p hp' with z|z
  ·rw [h0] at z; cases z
  ·exact z u hu q e
theorem kP.fin (h:kP w b mf mb os ys) (ho: ∀ o∈g7 w b,o∈os): ∀ q∈oQ w b mf mb,q∈ys:=fun q hq=>by
 obtain ⟨o,h1,p,h2,u,h3,e⟩:=gY.1 hq
 exact h o (ho o h1) p h2 u h3 q e
theorem D2 (h:max (p.2+bH w b) o.2.Lo≤min u.2 o.2.Hi) (h2:j4 w (c_ (c_ p.1 u.1) (eL o.1))=true):lL w b p u o=some (o.1,⟨max (p.2+bH w b) o.2.Lo,min u.2 o.2.Hi⟩):=by
 unfold lL jg vY; rw [if_pos ⟨h,h2⟩]
theorem Gy (h: ¬ max (p.2+bH w b) o.2.Lo≤min u.2 o.2.Hi):lL w b p u o=none:=by
 unfold lL jg; rw [if_neg (fun q=>h q.1)]
theorem xx (h2:j4 w (c_ (c_ p.1 u.1) (eL o.1))=false):lL w b p u o=none:=by
 unfold lL vY; rw [if_neg (fun q=>by rw [h2] at q; exact absurd q.2 dc)]
theorem mJ {v:Int} (h:w.oU[b]? =some v):bH w b=v:=by unfold bH; rw [h]; rfl
theorem yT {t q:ao} {v z y:Int} (hy:w.oU[b]? =some y) (h:max (v+y) o.2.Lo≤min z o.2.Hi) (h2:j4 w (c_ (c_ t q) (eL o.1))=true):lL w b (t,v) (q,z) o=some (o.1,⟨max (v+y) o.2.Lo,min z o.2.Hi⟩):=by
 have e:=mJ hy
 subst e
 exact D2 h h2
theorem wX {t q:ao} {v z y:Int} (hy:w.oU[b]? =some y) (h: ¬ max (v+y) o.2.Lo≤min z o.2.Hi):lL w b (t,v) (q,z) o=none:=by
 have e:=mJ hy
 subst e
 exact Gy h
theorem m_ {m:List (ao×Int)} {k:ao} {y:Int} (h:(m.map (·.1)).Nodup):((eg m k y).map (·.1)).Nodup:=by
 unfold eg
 by_cases hx:(m.lookup k).isSome
 ·rw [if_pos hx,List.map_map]
  have e:m.map ((fun p=>p.1)∘fun p=>if p.1=k then (k,y) else p)=m.map (·.1):=by
   apply List.map_congr_left
   intro p _
   simp only [Function.comp]
   split
   ·rename_i e; exact e.symm
   ·rfl
  rw [e]; exact h
 ·rw [if_neg hx,List.map_append,List.nodup_append]
  refine ⟨h,sm,?_⟩
  intro a ha c hc
  simp only [List.map_cons,List.map_nil,bU] at hc
  rw [hc]
  obtain ⟨p,hp,rfl⟩:=List.mem_map.1 ha
  have hn:m.lookup k=none:=by cases h0:m.lookup k with
   |none=>rfl
   |some v=>exact absurd (by rw [h0]; rfl) hx
  exact ja.1 hn p hp
theorem zV {m:List (ao×Int)} {q:ao×Int} (h:(m.map (·.1)).Nodup):((nY m q).map (·.1)).Nodup:=by
 unfold nY; split
 ·exact m_ h
 ·split
  ·exact m_ h
  ·exact h
theorem zo {m:List (ao×Int)} {q:ao×Int} (h:(m.map (·.1)).Nodup):((nV m q).map (·.1)).Nodup:=by
 unfold nV; split
 ·exact m_ h
 ·split
  ·exact m_ h
  ·exact h
/-- a map of the first times, on its way -/
structure vp (w:bE) (b:Nat) (m:List (ao×Int)):Prop where
 snd:tx m (fwd w (b+1))
 keys:(m.map (·.1)).Nodup
structure ua (w:bE) (b:Nat) (m:List (ao×Int)):Prop where
 snd:tx m (back w b)
 keys:(m.map (·.1)).Nodup
 zero: ∃ v,m.lookup ⟨0,0⟩=some v∧w.fR≤v
theorem FT (h:max (p.2+bH w b) o.2.Lo≤min o.2.Hi w.fR):kh w b p o=some (c_ p.1 (eL o.1),max (p.2+bH w b) o.2.Lo):=by unfold kh; rw [if_pos h]
theorem It (h: ¬ max (p.2+bH w b) o.2.Lo≤min o.2.Hi w.fR):kh w b p o=none:=by unfold kh; rw [if_neg h]
theorem EL (h:o.2.Lo≤min p.2 o.2.Hi):mS w b p o=some (c_ p.1 (eL o.1),min p.2 o.2.Hi-bH w b):=by unfold mS; rw [if_pos h]
theorem uu (h: ¬ o.2.Lo≤min p.2 o.2.Hi):mS w b p o=none:=by unfold mS; rw [if_neg h]
theorem vp.start:vp w b []:=⟨fun t v h=>by simp at h,List.nodup_nil⟩
theorem vp.add {m:List (ao×Int)} {q:ao×Int} (h:vp w b m) (hp:p∈fwd w b) (ho:o∈g7 w b) (he:kh w b p o=some q):vp w b (nY m q):=⟨CS h.snd (fB.2 ⟨p,hp,o,ho,he⟩),zV h.keys⟩
theorem ua.start (hb:b<w.n):ua w b [(⟨0,0⟩,w.fR)]:=⟨fun t v h=>by
 obtain ⟨rfl,rfl⟩:=nx.1 h
 exact (nP hb).2 (.inl rfl),sm,w.fR,nx.2 ⟨rfl,rfl⟩,Int.le_refl _⟩
theorem ua.add {m:List (ao×Int)} {q:ao×Int} (hb:b<w.n) (h:ua w b m) (hp:p∈back w (b+1)) (ho:o∈g7 w b) (he:mS w b p o=some q):ua w b (nV m q):=⟨D3 h.snd ((nP hb).2 (.inr ⟨p,hp,o,ho,he⟩)),zo h.keys,by
 obtain ⟨v,h1,h2⟩:=h.zero
 obtain ⟨v',h3,h4⟩:=o9 (q:=q) _ _ h1
 exact ⟨v',h3,om⟩⟩
theorem iA.none_ {m:List (ao×Int)} (h:iA w b m p os) (he:kh w b p o=none):iA w b m p (os++[o]):=h.add (vm.refl _) fun q hq=>by rw [he] at hq; cases hq
theorem iA.Ep {m:List (ao×Int)} {q:ao×Int} (h:iA w b m p os) (he:kh w b p o=some q):iA w b (nY m q) p (os++[o]):=h.add tI fun q' hq=>by rw [he] at hq; cases hq; exact CJ
theorem iE.none_ {m:List (ao×Int)} (h:iE w b m p os) (he:mS w b p o=none):iE w b m p (os++[o]):=h.add (vv.refl _) fun q hq=>by rw [he] at hq; cases hq
theorem iE.Ep {m:List (ao×Int)} {q:ao×Int} (h:iE w b m p os) (he:mS w b p o=some q):iE w b (nV m q) p (os++[o]):=h.add o9 fun q' hq=>by rw [he] at hq; cases hq; exact CX
/-- what of a map of the beam before is used already -/
def jA (w:bE) (b:Nat) (mb m left:List (ao×Int)):Prop:= ∀ p∈mb,p∈left∨iA w b m p (g7 w b)
def jo (w:bE) (b:Nat) (mb m left:List (ao×Int)):Prop:= ∀ p∈mb,p∈left∨iE w b m p (g7 w b)
theorem jA.start {m:List (ao×Int)}:jA w b mb m mb:=fun p hp=> .inl hp
theorem jo.start {m:List (ao×Int)}:jo w b mb m mb:=fun p hp=> .inl hp
theorem jA.lower {m m':List (ao×Int)} (h:jA w b mb m left) (hl:vm m m'):jA w b mb m' left:=fun p hp=>(h p hp).imp id fun h=>h.lower hl
theorem jo.upper {m m':List (ao×Int)} (h:jo w b mb m left) (hl:vv m m'):jo w b mb m' left:=fun p hp=>(h p hp).imp id fun h=>h.upper hl
theorem jA.next {m:List (ao×Int)} {t:ao} {v:Int} (hn:(left.map (·.1)).Nodup) (hm:(t,v)∈left) (h:jA w b mb m left) (hd:iA w b m (t,v) os) (ho: ∀ o∈g7 w b,o∈os):jA w b mb m (cj left t):=fun p hp=>by
 rcases h p hp with q|q
 ·rcases lj hn hm q with q|q
  ·exact .inl q
  ·right; rw [q]; exact hd.sub ho
 ·exact .inr q
theorem jo.next {m:List (ao×Int)} {t:ao} {v:Int} (hn:(left.map (·.1)).Nodup) (hm:(t,v)∈left) (h:jo w b mb m left) (hd:iE w b m (t,v) os) (ho: ∀ o∈g7 w b,o∈os):jo w b mb m (cj left t):=fun p hp=>by
 rcases h p hp with q|q
 ·rcases lj hn hm q with q|q
  ·exact .inl q
  ·right; rw [q]; exact hd.sub ho
 ·exact .inr q
theorem jA.fin {m:List (ao×Int)} (h:jA w b mb m left) (h0:left=[]): ∀ p∈mb,iA w b m p (g7 w b):=fun p hp=>by
 rcases h p hp with q|q
 ·rw [h0] at q; cases q
 ·exact q
theorem jo.fin {m:List (ao×Int)} (h:jo w b mb m left) (h0:left=[]): ∀ p∈mb,iE w b m p (g7 w b):=fun p hp=>by
 rcases h p hp with q|q
 ·rw [h0] at q; cases q
 ·exact q
end
section
def iG (a b:aa):aa:=⟨a.Lo+b.Lo,a.Hi+b.Hi⟩
def cK:aa:=⟨0,0⟩
def jd (a:aa) (l:List aa):aa:=l.foldl iG a
def kN (z:aa):Prop:=(-1000000000≤z.Lo∧z.Lo≤1000000000)∧ -1000000000≤z.Hi∧z.Hi≤1000000000
theorem xb {a:aa} {l:List aa} {i:Nat} {z:aa} (h:l[i]? =some z):jd a (l.take (i+1))=iG (jd a (l.take i)) z:=by
 rw [List.take_add_one,h]; unfold jd; simp
theorem Jf {a:aa} {l:List aa} (ha:kN a) (hl: ∀ z∈l,kN z): ∀ i:Nat,(-1000000000-1000000000*(i:Int)≤(jd a (l.take i)).Lo∧(jd a (l.take i)).Lo≤1000000000+1000000000*(i:Int))∧ -1000000000-1000000000*(i:Int)≤(jd a (l.take i)).Hi∧(jd a (l.take i)).Hi≤1000000000+1000000000*(i:Int):=by
 intro i
 induction i with
 |zero=>unfold kN at ha; simp [jd]; omega
 |succ i ih=>
  cases h:l[i]? with
  |none=>rw [List.take_add_one,h]; simp only [Option.toList_none,List.append_nil]; omega
  |some z=>
   have hz:=hl z (aw h)
   unfold kN at hz
   rw [xb h]
   simp only [iG]
   omega
theorem FW {a:aa} {l:List aa} {i:Nat} (h:l.length≤i):jd a (l.take i)=jd a l:=by rw [List.take_of_length_le h]
theorem mA {a z:aa}:vA (aa.cells (jd a [z]))=vA (aa.cells (iG a z)):=rfl
theorem zx {a y z:aa}:vA (aa.cells (jd a [y,z]))=vA (aa.cells (iG (iG a y) z)):=rfl
/-- how long the run is from one mark, over so many stretches; by how much it falls -/
def cN (ts:List ah) (f:Nat):Nat→aa
 |0=>cK
 |k+1=>match ts[f+k]? with
  |some x=>iG (cN ts f k) x.j5
  |none=>cN ts f k
def fm (ts:List ah) (f:Nat):Nat→aa
 |0=>cK
 |k+1=>match ts[f+k]? with
  |some x=>iG (fm ts f k) x.kU
  |none=>fm ts f k
theorem oM {ts:List ah} {f k:Nat} {x:ah} (h:ts[f+k]? =some x):cN ts f (k+1)=iG (cN ts f k) x.j5:=by simp [cN,h]
theorem ou {ts:List ah} {f k:Nat} {x:ah} (h:ts[f+k]? =some x):fm ts f (k+1)=iG (fm ts f k) x.kU:=by simp [fm,h]
theorem lz {ts:List ah} (ht: ∀ x∈ts,bo x) (f:Nat): ∀ k:Nat,(0≤(cN ts f k).Lo∧(cN ts f k).Lo≤(cN ts f k).Hi)∧(cN ts f k).Hi≤30000*(k:Int):=by
 intro k
 induction k with
 |zero=>simp [cN,cK]
 |succ k ih=>
  simp only [cN]
  cases h:ts[f+k]? with
  |none=>simp only; omega
  |some x=>
   have hx:=(ht x (aw h)).2.1
   simp only [di] at hx
   simp only [iG]
   omega
theorem Cb {ts:List ah} (ht: ∀ x∈ts,bo x) (f:Nat): ∀ k:Nat,(0≤(fm ts f k).Lo∧(fm ts f k).Lo≤(fm ts f k).Hi)∧(fm ts f k).Hi≤5000*(k:Int):=by
 intro k
 induction k with
 |zero=>simp [fm,cK]
 |succ k ih=>
  simp only [fm]
  cases h:ts[f+k]? with
  |none=>simp only; omega
  |some x=>
   have hx:=(ht x (aw h)).2.2.1
   simp only [di] at hx
   simp only [iG]
   omega
theorem pf {ts:List ah} (ht: ∀ x∈ts,bo x) {f k:Nat} (hk:k≤13):kN (cN ts f k):=by
 have:=lz ht f k; unfold kN; omega
theorem uL {ts:List ah} (ht: ∀ x∈ts,bo x) {f k:Nat} (hk:k≤13):kN (fm ts f k):=by
 have:=Cb ht f k; unfold kN; omega
theorem tf {x:ah} (h:bo x):kN x.j5:=by have:=h.2.1; simp only [di] at this; unfold kN; omega
theorem sh {x:ah} (h:bo x):kN x.kU:=by have:=h.2.2.1; simp only [di] at this; unfold kN; omega
theorem iP {ts:List ah} (h: ¬ (if cx ts=true then (0:Int) else 10)=0):cx ts=false∧(if cx ts=true then (0:Int) else 10)=10:=by
 cases ht:cx ts with
 |true=>rw [ht] at h; exact absurd rfl h
 |false=>exact ⟨rfl,rfl⟩
theorem Bk {ts:List ah} (h:(if cx ts=true then (0:Int) else 10)=0):cx ts=true:=by
 cases ht:cx ts with
 |true=>rfl
 |false=>rw [ht] at h; exact absurd h dc
/-- what the iterator of marks yields -/
def r8 (ts:List ah) (f:Nat):List (List Value):=(List.range (ts.length-f+1)).map fun (k:Nat)=>[.agg (cN ts f k).cells.toArray,.agg (fm ts f k).cells.toArray]
theorem rZ {ts:List ah} {f:Nat}:(r8 ts f).length=ts.length-f+1:=by simp [r8]
theorem xu {ts:List ah} {f k:Nat} (h:k≤ts.length-f):(r8 ts f)[k]? =some [.agg (cN ts f k).cells.toArray,.agg (fm ts f k).cells.toArray]:=by
 simp [r8,List.getElem?_range (show k<ts.length-f+1 by omega)]
theorem DU {ts:List ah} {f k:Nat} {x:List Value} (h:(r8 ts f)[k]? =some x):k≤ts.length-f∧x=[.agg (cN ts f k).cells.toArray,.agg (fm ts f k).cells.toArray]:=by
 have hi:k<ts.length-f+1:=by
  have:=(List.getElem?_eq_some_iff.1 h).1
  simpa [r8] using this
 rw [xu om] at h
 exact ⟨om,(Option.some.inj h).symm⟩
theorem AB {ts:List ah} {f:Nat}: ∀ x∈r8 ts f,x.length=2:=fun x hx=>by
 obtain ⟨k,_,rfl⟩:=List.mem_map.1 hx; rfl
end
section
def eZ (ts:List ah) (s:cL):Prop:=(0≤s.ar∧s.ar<(ts.length:Int))∧ ∃ x,ts[s.ar.toNat]? =some x∧di s.gk 0 (x.j5.Lo-1)
noncomputable instance (ts:List ah) (s:cL):Decidable (eZ ts s):=Classical.propDecidable _
theorem qS {ts:List ah} {s:cL} {x:ah} (h:0≤s.ar∧s.ar<(ts.length:Int)) (hx:ts[s.ar.toNat]? =some x):eZ ts s↔di s.gk 0 (x.j5.Lo-1):=
 ⟨fun h2=>by obtain ⟨y,hy,h3⟩:=h2.2; rw [hx] at hy; cases hy; exact h3,fun h2=>⟨h,x,hx,h2⟩⟩
theorem rF {ts:List ah} {s:cL} (h: ¬ (0≤s.ar∧s.ar<(ts.length:Int))): ¬ eZ ts s:=fun h2=>h h2.1
theorem x7 {ts:List ah} {s:cL} (ht: ∀ x∈ts,bo x) (h:eZ ts s):(0≤s.gk.Lo∧s.gk.Lo≤s.gk.Hi)∧s.gk.Hi≤30000:=by
 obtain ⟨x,hx,h2⟩:=h.2
 have:=(ht x (aw hx)).2.1
 simp only [di] at h2 this
 omega
theorem AF {ts:List ah} {a:cL}:vB (decide (∀ s∈[a],eZ ts s))=vB (decide (eZ ts a)):=congrArg _ (decide_eq_decide.2 sm)
theorem Bs {ts:List ah} {a b:cL}:vB (decide (∀ s∈[a,b],eZ ts s))=vB (decide (eZ ts a∧eZ ts b)):=congrArg _ (decide_eq_decide.2 sm)
def jw (z:aa):aa:=⟨-z.Hi,-z.Lo⟩
def Ec (ts:List ah) (s:cL):aa:=iG (cN ts 0 s.ar.toNat) s.gk
noncomputable def v8 (ts:List ah) (s:cL):Int:=if cx ts=true then (if eZ ts s then 0 else 12) else 10
noncomputable def z7 (ts:List ah) (s:cL):aa:=if v8 ts s=0 then Ec ts s else cK
theorem oE {ts:List ah} {s:cL} (h:cx ts=false):v8 ts s=10∧z7 ts s=cK:=by
 have e:v8 ts s=10:=by unfold v8; rw [h]; rfl
 exact ⟨e,by unfold z7; rw [e]; rfl⟩
theorem n_ {ts:List ah} {s:cL} (h:cx ts=true) (h2: ¬ eZ ts s):v8 ts s=12∧z7 ts s=cK:=by
 have e:v8 ts s=12:=by unfold v8; rw [if_pos h,if_neg h2]
 exact ⟨e,by unfold z7; rw [e]; rfl⟩
theorem nT {ts:List ah} {s:cL} (h:cx ts=true) (h2:eZ ts s):v8 ts s=0∧z7 ts s=Ec ts s:=by
 have e:v8 ts s=0:=by unfold v8; rw [if_pos h,if_pos h2]
 exact ⟨e,if_pos e⟩
theorem uk {ts:List ah} {s:cL} (h:cx ts=true):v8 ts s=0↔eZ ts s:=by
 unfold v8; rw [if_pos h]; split<;>simp [*]
def o1 (ts:List ah) (a b:cL):aa:=cN ts (min a.ar b.ar).toNat (max a.ar b.ar-min a.ar b.ar).toNat
def g3 (ts:List ah) (a b:cL):aa:=iG (iG (if b.ar<a.ar then jw (o1 ts a b) else o1 ts a b) b.gk) (jw a.gk)
noncomputable def gG (ts:List ah) (a b:cL):Int:=if cx ts=true then (if eZ ts a∧eZ ts b then 0 else 12) else 10
noncomputable def e7 (ts:List ah) (a b:cL):aa:=if gG ts a b=0 then g3 ts a b else cK
theorem gW {ts:List ah} {a b:cL} (h:cx ts=false):gG ts a b=10∧e7 ts a b=cK:=by
 have e:gG ts a b=10:=by unfold gG; rw [h]; rfl
 exact ⟨e,by unfold e7; rw [e]; rfl⟩
theorem gX {ts:List ah} {a b:cL} (h:cx ts=true) (h2: ¬ (eZ ts a∧eZ ts b)):gG ts a b=12∧e7 ts a b=cK:=by
 have e:gG ts a b=12:=by unfold gG; rw [if_pos h,if_neg h2]
 exact ⟨e,by unfold e7; rw [e]; rfl⟩
theorem cM {ts:List ah} {a b:cL} (h:cx ts=true) (h2:eZ ts a∧eZ ts b):gG ts a b=0∧e7 ts a b=g3 ts a b:=by
 have e:gG ts a b=0:=by unfold gG; rw [if_pos h,if_pos h2]
 exact ⟨e,if_pos e⟩
theorem xV {z:aa} (h:kN z):kN (jw z):=by unfold kN jw at *; simp only; omega
theorem pA {ts:List ah} {s:cL} (ht: ∀ x∈ts,bo x) (h:eZ ts s):kN s.gk:=by have:=x7 ht h; unfold kN; omega
theorem Jg {ts:List ah} {a b:cL} (ht: ∀ x∈ts,bo x) (hl:ts.length≤12) (ha:eZ ts a) (hb:eZ ts b):(0≤(o1 ts a b).Lo∧(o1 ts a b).Lo≤(o1 ts a b).Hi)∧(o1 ts a b).Hi≤360000:=by
 have h:=lz ht (min a.ar b.ar).toNat (max a.ar b.ar-min a.ar b.ar).toNat
 have h1:=ha.1
 have h2:=hb.1
 unfold o1
 omega
theorem vy {ts:List ah} {a b:cL} (ht: ∀ x∈ts,bo x) (hl:ts.length≤12) (ha:eZ ts a) (hb:eZ ts b):(-400000≤(g3 ts a b).Lo∧(g3 ts a b).Lo≤(g3 ts a b).Hi)∧(g3 ts a b).Hi≤400000:=by
 have h:=Jg ht hl ha hb
 have h1:=x7 ht ha
 have h2:=x7 ht hb
 unfold g3 iG jw
 split<;>simp only <;>omega
theorem Lc {ts:List ah} {s:cL} (ht: ∀ x∈ts,bo x) (hl:ts.length≤12) (h:eZ ts s):(0≤(Ec ts s).Lo∧(Ec ts s).Lo≤(Ec ts s).Hi)∧(Ec ts s).Hi≤400000:=by
 have h1:=lz ht 0 s.ar.toNat
 have h2:=x7 ht h
 have h3:=h.1
 unfold Ec iG
 simp only; omega
theorem Da {α:Type} {p:Nat→α→Bool} {l:List α}:((l.zipIdx.filter fun q=>p q.2 q.1).map fun q=>(q.2:Int))=[]↔ ∀ (i:Nat) x,l[i]? =some x→p i x=false:=by
 rw [List.map_eq_nil_iff,List.filter_eq_nil_iff]
 constructor
 ·intro h i x hx
  have:=h (x,i) (by rw [List.mem_zipIdx_iff_getElem?]; simpa using hx)
  simpa using this
 ·rintro h ⟨x,i⟩ hm
  rw [List.mem_zipIdx_iff_getElem?] at hm
  simpa using h i x (by simpa using hm)
/-- the places of a list at which something is so -/
def qv {α:Type} (p:Nat→α→Bool) (l:List α) (n:Nat):List Int:=(((l.take n).zipIdx.filter fun q=>p q.2 q.1).map fun q=>(q.2:Int))
theorem GM {α:Type} {p:Nat→α→Bool} {l:List α} {i:Nat} {x:α} (hx:l[i]? =some x) (h:p i x=true):qv p l (i+1)=qv p l i++[(i:Int)]:=by
 have hi:=(List.getElem?_eq_some_iff.1 hx).1
 unfold qv
 rw [List.take_add_one,hx,List.zipIdx_append,List.filter_append,List.map_append]
 simp [Nat.min_eq_left (Nat.le_of_lt hi),h]
theorem G3 {α:Type} {p:Nat→α→Bool} {l:List α} {i:Nat} {x:α} (hx:l[i]? =some x) (h:p i x=false):qv p l (i+1)=qv p l i:=by
 have hi:=(List.getElem?_eq_some_iff.1 hx).1
 unfold qv
 rw [List.take_add_one,hx,List.zipIdx_append,List.filter_append,List.map_append]
 simp [Nat.min_eq_left (Nat.le_of_lt hi),h]
theorem yW {α:Type} {p:Nat→α→Bool} {l:List α} {n:Nat}:(qv p l n).length≤n:=by
 unfold qv
 rw [List.length_map]
 refine Nat.le_trans (List.length_filter_le _ _) ?_
 rw [List.length_zipIdx,List.length_take]; omega
def DV {α:Type} (p:Nat→α→Bool) (l:List α):List Int:=qv p l l.length
theorem Is {α:Type} {p:Nat→α→Bool} {l:List α} {n:Nat} (h:n=l.length):qv p l n=DV p l:=by rw [h]; rfl
theorem Dq {α:Type} {p:Nat→α→Bool} {l:List α}:(DV p l).length=0↔ ∀ (i:Nat) x,l[i]? =some x→p i x=false:=by
 unfold DV qv
 rw [List.length_eq_zero_iff,List.take_length]
 exact Da
end
section
theorem wL (p:Int→Bool) (n:Nat): ∃ r:Int,r=((List.range n).findIdx fun (k:Nat)=>p (k:Int):Nat):=⟨_,rfl⟩
noncomputable def eH (p:Int→Bool) (n:Nat):Int:=Classical.choose (wL p n)
theorem qH (p:Int→Bool) (n:Nat):eH p n=((List.range n).findIdx fun (k:Nat)=>p (k:Int):Nat):=Classical.choose_spec (wL p n)
theorem hP {p:Int→Bool} {n:Nat}:0≤eH p n∧eH p n≤n:=by
 rw [qH]
 have:=List.findIdx_le_length (xs:=List.range n) (p:=fun (k:Nat)=>p (k:Int))
 rw [List.length_range] at this
 omega
theorem wV {p:Int→Bool} {n:Nat} {x:Int} (h0:0≤x) (h:x<eH p n):p x=false:=by
 have hb:=hP (p:=p) (n:=n)
 rw [qH] at h
 have h1:x.toNat<(List.range n).findIdx fun (k:Nat)=>p (k:Int):=by omega
 have h2:=List.not_of_lt_findIdx h1
 simp only [List.getElem_range] at h2
 rw [show ((x.toNat:Nat):Int)=x by omega] at h2
 simpa using h2
theorem C5 {p:Int→Bool} {n:Nat} (h:eH p n<n):p (eH p n)=true:=by
 rw [qH] at h ⊢
 have h1:((List.range n).findIdx fun (k:Nat)=>p (k:Int))<(List.range n).length:=by rw [List.length_range]; omega
 have:=List.findIdx_getElem (w:=h1)
 simpa using this
end
section
def n7 (n by_:Int):Int:=(n+by_-1)/by_
/-- by how much a sync may be off -/
def qI (c:al) (at_:Int) (x:cR):Int:=n7 (c.cJ*max (at_-x.At) (x.At-at_)) 1000000
def k7 (c:al) (at_:Int) (s:aa) (x:cR):aa:=⟨max s.Lo (x.d_.Lo-qI c at_ x),min s.Hi (x.d_.Hi+qI c at_ x)⟩
def fr (c:al) (at_:Int) (k:Nat):aa:=(c.aR.take k).foldl (k7 c at_) ⟨-1099511627776,1099511627776⟩
def gN (c:al) (at_:Int):aa:=c.aR.foldl (k7 c at_) ⟨-1099511627776,1099511627776⟩
theorem jO {c:al} {at_:Int} {k:Nat} {x:cR} (h:c.aR[k]? =some x):fr c at_ (k+1)=k7 c at_ (fr c at_ k) x:=by
 unfold fr; rw [List.take_add_one,h,List.foldl_append]; rfl
theorem mP {c:al} {at_:Int} {k:Nat} (h:c.aR.length≤k):fr c at_ k=gN c at_:=by unfold fr gN; rw [List.take_of_length_le h]
def jq (c:al) (i:Nat):Int:=if i=0 then-1 else ((c.aR[i-1]?).map (·.At)).getD 0
def ei (c:al) (i:Nat) (x:cR):Prop:=(jq c i<x.At∧x.At≤86400000)∧ -10000≤x.d_.Lo∧x.d_.Lo≤x.d_.Hi∧x.d_.Hi≤10000
def ir (c:al) (x o:cR):Prop:=x.d_.Lo-o.d_.Hi≤n7 (c.cJ*(x.At-o.At)) 1000000∧o.d_.Lo-x.d_.Hi≤n7 (c.cJ*(x.At-o.At)) 1000000
structure eJ (c:al):Prop where
 iO:0≤c.cJ∧c.cJ≤1000
 len:1≤c.aR.length∧c.aR.length≤5
 sync: ∀ (i:Nat) x,c.aR[i]? =some x→ei c i x
 pair: ∀ (i k:Nat) x o,c.aR[i]? =some x→k<i→c.aR[k]? =some o→ir c x o
noncomputable instance (c:al):Decidable (eJ c):=Classical.propDecidable _
theorem dy {c:al} {i:Nat} (h:i=0):jq c i= -1:=if_pos h
theorem eU {c:al} {i:Nat} {y:cR} (h:0<i) (hy:c.aR[i-1]? =some y):jq c i=y.At:=by unfold jq; rw [if_neg om,hy]; rfl
theorem ng {c:al} {i:Nat} {y:cR} (hy:c.aR[i]? =some y):jq c (i+1)=y.At:=by unfold jq; rw [if_neg om,Nat.add_sub_cancel,hy]; rfl
/-- the times of the syncs -/
theorem Hp {c:al} (h: ∀ (i:Nat) x,c.aR[i]? =some x→ei c i x): ∀ (i:Nat) x,c.aR[i]? =some x→0≤x.At∧ ∀ (k:Nat) o,k<i→c.aR[k]? =some o→o.At<x.At:=by
 intro i
 induction i with
 |zero=>
  intro x hx
  have:=(h 0 x hx).1.1
  rw [dy rfl] at this
  exact ⟨om,fun k o hk=>by omega⟩
 |succ i ih=>
  intro x hx
  have hi:=(List.getElem?_eq_some_iff.1 hx).1
  have hy:c.aR[i]? =some (c.aR[i]'om):=gv om
  have h1:=ih _ hy
  have h2:=(h (i+1) x hx).1.1
  rw [ng hy] at h2
  refine ⟨om,fun k o hk ho=>?_⟩
  by_cases e:k=i
  ·subst e; rw [hy] at ho; cases ho; exact h2
  ·have:=h1.2 k o om ho; omega
theorem eJ.sS {c:al} (h:eJ c) {i:Nat} {x:cR} (hx:c.aR[i]? =some x):(0≤x.At∧x.At≤86400000)∧ -10000≤x.d_.Lo∧x.d_.Lo≤x.d_.Hi∧x.d_.Hi≤10000:=by
 have h1:=h.sync i x hx
 exact ⟨⟨(Hp h.sync i x hx).1,h1.1.2⟩,h1.2⟩
theorem Cs {d a b:Int} (hd:0≤d∧d≤1000) (ha:0≤a∧a≤90000000) (hb:0≤b∧b≤90000000):0≤d*max (a-b) (b-a)∧d*max (a-b) (b-a)≤90000000000:=by
 have:=Km (a:=d) (b:=max (a-b) (b-a)) (A:=1000) (B:=90000000) hd.1 hd.2 om om
 omega
theorem sk {c:al} {at_:Int} {x:cR} (hd:0≤c.cJ∧c.cJ≤1000) (ha:0≤at_∧at_≤90000000) (hx:0≤x.At∧x.At≤86400000):0≤qI c at_ x∧qI c at_ x≤90001:=by
 have h:=Cs hd ha (show 0≤x.At∧x.At≤90000000 by omega)
 unfold qI n7; omega
theorem yG {c:al} {at_:Int} (h:eJ c) (ha:0≤at_∧at_≤90000000): ∀ k:Nat,(-1099511627776≤(fr c at_ k).Lo∧(fr c at_ k).Lo≤10000)∧ -10000≤(fr c at_ k).Hi∧(fr c at_ k).Hi≤1099511627776:=by
 intro k
 induction k with
 |zero=>simp [fr]
 |succ k ih=>
  cases hx:c.aR[k]? with
  |none=>unfold fr at ih ⊢; rw [List.take_add_one,hx]; simpa using ih
  |some x=>
   have hb:=h.sS hx
   have ho:=sk h.iO ha hb.1
   rw [jO hx]
   unfold k7
   simp only
   omega
theorem pC {c:al} {at_:Int} (h:eJ c) (ha:0≤at_∧at_≤90000000):(-110000≤(gN c at_).Lo∧(gN c at_).Lo≤10000)∧ -10000≤(gN c at_).Hi∧(gN c at_).Hi≤110000:=by
 obtain ⟨n,hn⟩: ∃ n,c.aR.length=n+1:=⟨c.aR.length-1,by have:=h.len; omega⟩
 have hx:c.aR[n]? =some (c.aR[n]'om):=gv om
 have hb:=h.sS hx
 have ho:=sk h.iO ha hb.1
 have h1:=yG h ha n
 rw [← mP (k:=n+1) om,jO hx]
 unfold k7
 simp only
 omega
/-- as time goes on, time and what a clock may be ahead, together, never go back -/
theorem Aw {c:al} (h:eJ c) {a b:Int} (ha:0≤a) (hab:a≤b) (hb:b≤90000000): ∀ k:Nat,(a+(fr c a k).Lo≤b+(fr c b k).Lo∨(fr c a k).Lo= -1099511627776)∧a+(fr c a k).Hi≤b+(fr c b k).Hi:=by
 have step: ∀ (x:cR),0≤x.At∧x.At≤86400000→ ∀ a b:Int,0≤a→a≤b→b≤90000000→qI c a x≤qI c b x+(b-a)∧qI c b x≤qI c a x+(b-a):=by
  intro x hx a b ha hab hb
  have hd:=h.iO
  have e: ∀ u v:Int,u≤v+1000000*(b-a)→n7 u 1000000≤n7 v 1000000+(b-a):=by intro u v huv; unfold n7; omega
  have m: ∀ p q:Int,p≤q+(b-a)→c.cJ*p≤c.cJ*q+1000000*(b-a):=by
   intro p q hpq
   have h1:c.cJ*p≤c.cJ*(q+(b-a)):=Int.mul_le_mul_of_nonneg_left hpq hd.1
   have h2:c.cJ*(q+(b-a))=c.cJ*q+c.cJ*(b-a):=Int.mul_add _ _ _
   have h3:c.cJ*(b-a)≤1000*(b-a):=Int.mul_le_mul_of_nonneg_right hd.2 om
   omega
  exact ⟨e _ _ (m _ _ om),e _ _ (m _ _ om)⟩
 intro k
 induction k with
 |zero=>simp [fr]; omega
 |succ k ih=>
  cases hx:c.aR[k]? with
  |none=>
   have e: ∀ t,fr c t (k+1)=fr c t k:=fun t=>by unfold fr; rw [List.take_add_one,hx]; simp
   rw [e,e]; exact ih
  |some x=>
   have hs:=h.sS hx
   have:=step x hs.1 a b ha hab hb
   have hoa:=sk (at_:=a) h.iO ⟨ha,om⟩ hs.1
   rw [jO hx,jO hx]
   unfold k7
   simp only
   omega
theorem ti {c:al} (h:eJ c) {a b:Int} (ha:0≤a) (hab:a≤b) (hb:b≤90000000):a+(gN c a).Lo≤b+(gN c b).Lo∧a+(gN c a).Hi≤b+(gN c b).Hi:=by
 have h1:=Aw h ha hab hb c.aR.length
 have h2:=pC h (at_:=a) ⟨ha,om⟩
 rw [mP (Nat.le_refl _),mP (Nat.le_refl _)] at h1
 omega
noncomputable def mh (l:aV) (i:Nat):Int:=match l.ab[i]? with
 |some b=>if i=0 then (Ec l.aH b.lU).Lo else (match l.ab[i-1]? with
  |some a=>(g3 l.aH a.lU b.lU).Lo
  |none=>0)
 |none=>0
theorem pX {l:aV} {b:bx} (h:l.ab[0]? =some b):mh l 0=(Ec l.aH b.lU).Lo:=by unfold mh; rw [h]; rfl
theorem rl {l:aV} {i:Nat} {a b:bx} (hi:0<i) (h:l.ab[i]? =some b) (ha:l.ab[i-1]? =some a):mh l i=(g3 l.aH a.lU b.lU).Lo:=by unfold mh; rw [h,ha]; simp only; rw [if_neg om]
def js (l:aV) (b:bx):Prop:=eZ l.aH b.lU∧0≤b.jK∧b.jK<(l.aj.length:Int)
def dU (l:aV):Prop:=(1≤l.lX∧l.lX≤5000)∧(1≤(l.aj.length:Int)∧(l.aj.length:Int)≤4)∧(1≤(l.ab.length:Int)∧(l.ab.length:Int)≤6)∧(0≤l.cz∧l.cz≤(l.ab.length:Int)-1)∧(0≤l.iH∧l.iH≤3)∧0≤l.e8∧l.e8≤3
structure kR (l:aV):Prop where
 head:dU l
 clock: ∀ c∈l.aj,eJ c
 lJ: ∀ b∈l.ab,js l b
 wc: ∀ i,i<l.ab.length→1≤mh l i
noncomputable instance (l:aV):Decidable (kR l):=Classical.propDecidable _
noncomputable def dh (l:aV):Int:=if cx l.aH=true then (if kR l then 0 else 50) else 10
theorem jR {l:aV} (h:cx l.aH=false):dh l=10:=by unfold dh; rw [h]; rfl
theorem eh {l:aV} (h:cx l.aH=true) (h2: ¬ kR l):dh l=50:=by unfold dh; rw [if_pos h,if_neg h2]
theorem kF {l:aV} (h:cx l.aH=true) (h2:kR l):dh l=0:=by unfold dh; rw [if_pos h,if_pos h2]
theorem gr {l:aV} (h:dh l=0):cx l.aH=true∧kR l:=by
 unfold dh at h
 split at h
 ·split at h
  ·exact ⟨asm,asm⟩
  ·omega
 ·omega
theorem Bz {l:aV} (ht:cx l.aH=true) (hb: ∀ b∈l.ab,js l b) (i:Nat): -400000≤mh l i∧mh l i≤400000:=by
 have hst:=jN ht
 have hl:=kf ht
 unfold mh
 cases h:l.ab[i]? with
 |none=>simp
 |some b=>
  have h1:=(hb b (aw h)).1
  simp only
  split
  ·have:=Lc hst hl h1; omega
  ·cases h2:l.ab[i-1]? with
   |none=>simp
   |some a=>
    have h3:=(hb a (aw h2)).1
    have:=vy hst hl h3 h1
    simp only; omega
def oN (l:aV) (s:aM):al:=((l.ab[s.fO.toNat]?).bind fun b=>l.aj[b.jK.toNat]?).getD ⟨0,[]⟩
def gj (c:al) (r t:Int):Bool:=decide (r≤t+(gN c t).Hi)
def gi (c:al) (r t:Int):Bool:=decide (r<t+(gN c t).Lo)
noncomputable def yR (c:al) (r:Int):aa:=⟨eH (gj c r) 86400001,eH (gi c r) 86400001-1⟩
noncomputable def cH (l:aV) (s:aM):aa:=yR (oN l s) s.Read
noncomputable def dE (l:aV) (i:Nat):Int:=n7 (1000*mh l i) l.lX
end
section
open Go.RowKit
def yi (n:Int):Int:=IntKind.i64.wrap n
theorem xK {n:Int} (h:o4 n):yi n=n:=ni h
theorem LV (n:Int): -9223372036854775808≤yi n∧yi n≤9223372036854775807:=by
 unfold yi
 rw [IntKind.wrap_i64]
 omega
section
variable {P:Program} {t:TypeId} {x y:Operand} {a b:Int}
theorem J0:g_ P .add t x y (.int .i64 a) (.int .i64 b) (.int .i64 (yi (a+b))):=fun w=>by simp [eqGuard_add,binOp_add,Op.intArith,yi]
theorem FI:g_ P .sub t x y (.int .i64 a) (.int .i64 b) (.int .i64 (yi (a-b))):=fun w=>by simp [eqGuard_sub,binOp_sub,Op.intArith,yi]
theorem JH:g_ P .mul t x y (.int .i64 a) (.int .i64 b) (.int .i64 (yi (a*b))):=fun w=>by simp [eqGuard_mul,binOp_mul,Op.intArith,yi]
end
/-- divided, and rounded up, as it comes out -/
def Mf (n by_:Int):Int:=(yi (yi (n+by_)-1)).tdiv by_
theorem JG {a b:Int} (ha: -9223372036854775808≤a∧a≤9223372036854775807) (hb:2≤b):o4 (a.tdiv b):=by
 have h1:a.tdiv b=a/b+if a % b≠0∧a<0 then 1 else 0:=by
  rcases Int.lt_or_le a 0 with h|h
  ·rw [Int.tdiv_eq_ediv]
   have:b.sign=1:=Int.sign_eq_one_of_pos om
   rw [this]
   by_cases hd:b∣a
   ·have:a % b=0:=Int.emod_eq_zero_of_dvd hd
    simp [hd,this]
   ·have:a % b≠0:=fun e=>hd (Int.dvd_of_emod_eq_zero e)
    have hn: ¬ 0≤a:=by omega
    simp [hd,this,h,hn]
  ·rw [Int.tdiv_eq_ediv_of_nonneg h]
   have: ¬ a<0:=by omega
   simp [this]
 have h2:a/b*b+a % b=a:=by rw [Int.mul_comm]; exact Int.mul_ediv_add_emod a b
 have h3:0≤a % b:=Int.emod_nonneg _ om
 have h4:a % b<b:=Int.emod_lt_of_pos _ om
 have h5: -9223372036854775808≤a/b∧a/b≤4611686018427387904:=by
  constructor
  ·refine Int.le_ediv_of_mul_le om ?_
   have:(-9223372036854775808:Int)*b≤ -9223372036854775808*1:=Int.mul_le_mul_of_nonpos_left om om
   omega
  ·refine Int.ediv_le_of_le_mul om ?_
   have:(4611686018427387904:Int)*2≤4611686018427387904*b:=Int.mul_le_mul_of_nonneg_left hb om
   omega
 rw [h1]
 unfold o4
 split<;>omega
theorem JR {n by_:Int} (h0:0≤n) (h1:n≤1000000000000000000) (hb:1≤by_∧by_≤1000000000000):Mf n by_=(n+by_-1)/by_:=by
 unfold Mf
 rw [xK (show o4 (n+by_) from ⟨om,om⟩),xK (show o4 (n+by_-1) from ⟨om,om⟩),Int.tdiv_eq_ediv_of_nonneg om]
end
section
def lB (c:al) (i:Nat) (x:cR) (k:Nat):Prop:=ei c i x∧ ∀ (j:Nat) o,j<k→c.aR[j]? =some o→ir c x o
def qz (c:al) (n:Nat):Prop:= ∀ (i:Nat) x,i<n→c.aR[i]? =some x→lB c i x i
noncomputable instance (c:al) (i:Nat) (x:cR) (k:Nat):Decidable (lB c i x k):=Classical.propDecidable _
instance (c:al) (i:Nat) (x:cR):Decidable (ei c i x):=by unfold ei; infer_instance
theorem Al {c:al} {i:Nat} {x:cR}:lB c i x 0↔ei c i x:=⟨fun h=>h.1,fun h=>⟨h,fun j o hj=>by omega⟩⟩
theorem i_ {c:al} {i k:Nat} {x o:cR} (h:c.aR[k]? =some o):lB c i x (k+1)↔lB c i x k∧ir c x o:=by
 constructor
 ·intro hr
  exact ⟨⟨hr.1,fun j o' hj ho=>hr.2 j o' om ho⟩,hr.2 k o om h⟩
 ·rintro ⟨hr,hp⟩
  refine ⟨hr.1,fun j o' hj ho=>?_⟩
  by_cases e:j=k
  ·subst e; rw [h] at ho; cases ho; exact hp
  ·exact hr.2 j o' om ho
theorem DZ {c:al}:qz c 0:=fun i x hi=>by omega
theorem CZ {c:al} {i:Nat} {x:cR} (h:qz c i) (hx:c.aR[i]? =some x) (hr:lB c i x i):qz c (i+1):=fun j y hj hy=>by
 by_cases e:j=i
 ·subst e; rw [hx] at hy; cases hy; exact hr
 ·exact h j y om hy
theorem q9 {c:al} {i:Nat} {x:cR} (hx:c.aR[i]? =some x) (h: ¬ lB c i x i): ¬ eJ c:=fun hc=>h ⟨hc.sync i x hx,fun j o hj ho=>hc.pair i j x o hx hj ho⟩
theorem pI {c:al} (h1:0≤c.cJ∧c.cJ≤1000) (h2:1≤c.aR.length∧c.aR.length≤5) (h:qz c c.aR.length):eJ c:=
 ⟨h1,h2,fun i x hx=>(h i x (List.getElem?_eq_some_iff.1 hx).1 hx).1,fun i k x o hx hk ho=>(h i x (List.getElem?_eq_some_iff.1 hx).1 hx).2 k o hk ho⟩
/-- syncs so far -/
theorem sL {c:al} {n:Nat} (h: ∀ (i:Nat) x,i<n→c.aR[i]? =some x→ei c i x): ∀ (i:Nat) x,i<n→c.aR[i]? =some x→0≤x.At∧ ∀ (k:Nat) o,k<i→c.aR[k]? =some o→o.At<x.At:=by
 intro i
 induction i with
 |zero=>
  intro x hn hx
  have:=(h 0 x hn hx).1.1
  rw [dy rfl] at this
  exact ⟨om,fun k o hk=>by omega⟩
 |succ i ih=>
  intro x hn hx
  have hi:=(List.getElem?_eq_some_iff.1 hx).1
  have hy:c.aR[i]? =some (c.aR[i]'om):=gv om
  have h1:=ih _ om hy
  have h2:=(h (i+1) x hn hx).1.1
  rw [ng hy] at h2
  refine ⟨om,fun k o hk ho=>?_⟩
  by_cases e:k=i
  ·subst e; rw [hy] at ho; cases ho; exact h2
  ·have:=h1.2 k o om ho; omega
theorem E1 {c:al} {i:Nat} (hi:i≤c.aR.length) (h: ∀ (j:Nat) y,j<i→c.aR[j]? =some y→ei c j y): -1≤jq c i∧jq c i≤86400000:=by
 cases i with
 |zero=>rw [dy rfl]; omega
 |succ i=>
  have hy:c.aR[i]? =some (c.aR[i]'om):=gv om
  have h1:=(sL (n:=i+1) h i _ om hy).1
  have h2:=(h i _ om hy).1.2
  rw [ng hy]; omega
theorem Kr {c:al} {i:Nat} (hi:i≤c.aR.length) (h:qz c i): -1≤jq c i∧jq c i≤86400000:=E1 hi fun j y hj hy=>(h j y hj hy).1
theorem sG {c:al} {i k:Nat} {x o:cR} (hs: ∀ (j:Nat) y,j<i→c.aR[j]? =some y→ei c j y) (hx:c.aR[i]? =some x) (hok:ei c i x) (hk:k<i) (ho:c.aR[k]? =some o):
 (0≤o.At∧o.At<x.At∧x.At≤86400000)∧(-10000≤x.d_.Lo∧x.d_.Lo≤x.d_.Hi∧x.d_.Hi≤10000)∧ -10000≤o.d_.Lo∧o.d_.Lo≤o.d_.Hi∧o.d_.Hi≤10000:=by
 have h: ∀ (j:Nat) y,j<i+1→c.aR[j]? =some y→ei c j y:=fun j y hj hy=>by
  by_cases e:j=i
  ·subst e; rw [hx] at hy; cases hy; exact hok
  ·exact hs j y om hy
 have h1:=(sL h i x om hx).2 k o hk ho
 have h2:=(sL h k o om ho).1
 exact ⟨⟨h2,h1,hok.1.2⟩,hok.2,(h k o om ho).2⟩
theorem Ih {d a b:Int} (hd:0≤d∧d≤1000) (h:0≤b∧b<a∧a≤86400000):Mf (yi (d*yi (a-b))) 1000000=n7 (d*(a-b)) 1000000:=by
 have h1:0≤d*(a-b)∧d*(a-b)≤90000000000:=by
  have:=Km (a:=d) (b:=a-b) (A:=1000) (B:=90000000) hd.1 hd.2 om om
  omega
 rw [xK (show o4 (a-b) from ⟨om,om⟩),xK (show o4 (d*(a-b)) from ⟨om,om⟩),JR h1.1 om om]
 rfl
/-- what is asked of a line, however wrong it is -/
structure eN (l:aV) (asl:List RA):Prop where
 r_:l.aH.length≤1000000
 side: ∀ x∈l.aH,0≤x.iy∧x.iy≤255
 se:l.aj.length≤1000000
 qa:asl.length=l.aj.length
 sb:l.ab.length≤1000000
 MI: ∀ (k:Nat) m (a:RA),l.aj[k]? =some m→asl[k]? =some a→m.aR.length≤a.2∧m.aR.length≤1000000
noncomputable instance (l:aV):Decidable (dU l):=by unfold dU; infer_instance
noncomputable instance (l:aV) (b:bx):Decidable (js l b):=Classical.propDecidable _
theorem fG {l:aV} (h:dU l) (h2: ∀ c∈l.aj,eJ c) (h3: ∀ b∈l.ab,js l b) (h4: ∀ i,i<l.ab.length→1≤mh l i):kR l:=⟨h,h2,h3,h4⟩
theorem AQ {l:aV}:((!(l.aj.any fun m=> !decide (eJ m)))=true)↔ ∀ c∈l.aj,eJ c:=by simp
theorem De {l:aV}:((!(l.ab.any fun b=> !decide (js l b)))=true)↔ ∀ b∈l.ab,js l b:=by simp
theorem kq {c:al} (h:eJ c) {r x:Int} (h0:0≤x) (h1:x<86400001):
 (x<eH (gj c r) 86400001→gj c r x=false)∧(eH (gj c r) 86400001≤x→gj c r x=true)∧(x<eH (gi c r) 86400001→gi c r x=false)∧(eH (gi c r) 86400001≤x→gi c r x=true):=by
 have up: ∀ (q:Int→Bool),(∀ a b,0≤a→a≤b→b<86400001→q a=true→q b=true)→eH q 86400001≤x→q x=true:=fun q hq hx=>by
  have hb:=hP (p:=q) (n:=86400001)
  exact hq _ _ hb.1 hx h1 (C5 om)
 refine ⟨wV h0,up _ fun a b ha hab hb hq=>?_,wV h0,up _ fun a b ha hab hb hq=>?_⟩
 ·have:=ti h ha hab om
  simp only [gj,decide_eq_true_eq] at hq ⊢; omega
 ·have:=ti h ha hab om
  simp only [gi,decide_eq_true_eq] at hq ⊢; omega
theorem uY {l:aV} {s:aM} {b:bx} {c:al} (hb:l.ab[s.fO.toNat]? =some b) (hc:l.aj[b.jK.toNat]? =some c):oN l s=c:=by
 unfold oN; rw [hb]; simp only [Option.bind_some]; rw [hc]; rfl
end
section
def nX (sg:List aM) (i:Nat):aM:=if i=0 then ⟨-1,0⟩ else (sg[i-1]?).getD ⟨-1,0⟩
theorem oo {sg:List aM} {i:Nat} {s:aM} (h:sg[i]? =some s):nX sg (i+1)=s:=by unfold nX; rw [if_neg om,Nat.add_sub_cancel,h]; rfl
def iN (l:aV) (s:aM):Prop:=(0≤s.fO∧s.fO≤(l.ab.length:Int)-1)∧0≤s.Read∧s.Read≤86400000
def ib (l:aV) (sg:List aM) (i:Nat) (s:aM):Prop:=iN l s∧ ¬ s.fO<(nX sg i).fO∧ ¬ (s.fO=(nX sg i).fO∧s.Read≤(nX sg i).Read)
def pq (l:aV) (sg:List aM) (i:Nat):Prop:= ∀ (j:Nat) s,j<i→sg[j]? =some s→ib l sg j s
structure ed (l:aV) (r:cq):Prop where
 time:0≤r.Start∧r.Start≤r.fR∧r.fR≤86400000
 len:r.ag.length≤10
 sig: ∀ (i:Nat) s,r.ag[i]? =some s→ib l r.ag i s
noncomputable instance (l:aV) (r:cq):Decidable (ed l r):=Classical.propDecidable _
theorem w6 {l:aV} {sg:List aM}:pq l sg 0:=fun j s hj=>absurd hj (Nat.not_lt_zero _)
theorem k6 {l:aV} {sg:List aM} {i:Nat} {s:aM} (h:pq l sg i) (hs:sg[i]? =some s) (ho:ib l sg i s):pq l sg (i+1):=fun j z hj hz=>by
 rcases Nat.lt_or_ge j i with q|q
 ·exact h j z q hz
 ·obtain rfl:j=i:=by omega
  rw [hs] at hz; cases hz; exact ho
theorem kB {l:aV} {r:cq} {i:Nat} (h1:0≤r.Start∧r.Start≤r.fR∧r.fR≤86400000) (h2:r.ag.length≤10) (h:pq l r.ag i) (hi:r.ag.length≤i):ed l r:=
 ⟨h1,h2,fun j s hs=>h j s (by have:=(List.getElem?_eq_some_iff.1 hs).1; omega) hs⟩
noncomputable def qM (l:aV) (sg:List aM) (b k:Nat):Option (Int×aa):=(sg[k]?).bind fun s=>if s.fO=(b:Int)∧(cH l s).Lo≤(cH l s).Hi then some ((k:Int),cH l s) else none
noncomputable def nk (l:aV) (sg:List aM) (i b:Nat):TM:=(List.range i).filterMap (qM l sg b)
noncomputable def dT (l:aV) (sg:List aM) (i:Nat):List TM:=(List.range l.ab.length).map (nk l sg i)
noncomputable def bS (l:aV) (n:Nat):List Int:=(List.range n).map (dE l)
theorem tD {l:aV} {n:Nat}:bS l (n+1)=bS l n++[dE l n]:=by simp [bS,List.range_succ]
theorem dQ {l:aV} {n:Nat}:(bS l n).length=n:=by simp [bS]
theorem iR {l:aV} {sg:List aM} {i:Nat}:(dT l sg i).length=l.ab.length:=by simp [dT]
theorem nz {l:aV} {sg:List aM} {i b:Nat} (h:b<l.ab.length):(dT l sg i)[b]? =some (nk l sg i b):=by simp [dT,h]
theorem oK {l:aV} {sg:List aM} {b k:Nat} {q:Int×aa}:qM l sg b k=some q↔ ∃ s,sg[k]? =some s∧(s.fO=(b:Int)∧(cH l s).Lo≤(cH l s).Hi)∧q=((k:Int),cH l s):=by
 unfold qM
 cases h:sg[k]? with
 |none=>simp
 |some s=>
  simp only [Option.bind_some,Option.some.injEq]
  by_cases e:s.fO=(b:Int)∧(cH l s).Lo≤(cH l s).Hi
  ·rw [if_pos e]
   constructor
   ·intro h; cases h; exact ⟨s,rfl,e,rfl⟩
   ·rintro ⟨s',rfl,_,rfl⟩; rfl
  ·rw [if_neg e]
   constructor
   ·intro h; cases h
   ·rintro ⟨s',rfl,e',_⟩; exact absurd e' e
theorem qx {l:aV} {sg:List aM} {i b:Nat} {q:Int×aa}:q∈nk l sg i b↔ ∃ k,k<i∧ ∃ s,sg[k]? =some s∧(s.fO=(b:Int)∧(cH l s).Lo≤(cH l s).Hi)∧q=((k:Int),cH l s):=by
 unfold nk
 simp only [List.mem_filterMap,List.mem_range,oK]
theorem o8 {l:aV} {sg:List aM} {i b:Nat}:nk l sg (i+1) b=nk l sg i b++(qM l sg b i).toList:=by
 unfold nk
 rw [List.range_succ,List.filterMap_append]
 congr 1
theorem AH {l:aV} {sg:List aM}:dT l sg 0=List.replicate l.ab.length []:=by
 unfold dT
 rw [List.eq_replicate_iff]
 refine ⟨sm,fun t ht=>?_⟩
 obtain ⟨b,_,rfl⟩:=List.mem_map.1 ht
 rfl
theorem uC {l:aV} {sg:List aM} {i:Nat} {s:aM} (hs:sg[i]? =some s) (h: ¬ (cH l s).Lo≤(cH l s).Hi):dT l sg (i+1)=dT l sg i:=by
 unfold dT
 apply List.map_congr_left
 intro b _
 rw [o8]
 have:qM l sg b i=none:=by
  cases e:qM l sg b i with
  |none=>rfl
  |some q=>obtain ⟨s',h1,⟨_,h2⟩,_⟩:=oK.1 e; rw [hs] at h1; cases h1; exact absurd h2 h
 rw [this]; simp
theorem wK {l:aV} {sg:List aM} {i:Nat} {s:aM} (hs:sg[i]? =some s) (hb:0≤s.fO∧s.fO≤(l.ab.length:Int)-1) (h:(cH l s).Lo≤(cH l s).Hi) {x:TM} (hx:(dT l sg i)[s.fO.toNat]? =some x):
 (dT l sg i).set s.fO.toNat (eg x (i:Int) (cH l s))=dT l sg (i+1):=by
 have hbl:s.fO.toNat<l.ab.length:=by omega
 rw [nz hbl] at hx
 cases hx
 have hnew:eg (nk l sg i s.fO.toNat) (i:Int) (cH l s)=nk l sg (i+1) s.fO.toNat:=by
  have hn:(nk l sg i s.fO.toNat).lookup (i:Int)=none:=ja.2 fun p hp e=>by
   obtain ⟨k,hk,_,_,_,rfl⟩:=qx.1 hp
   simp only at e; omega
  have ho:qM l sg s.fO.toNat i=some ((i:Int),cH l s):=oK.2 ⟨s,hs,⟨om,h⟩,rfl⟩
  rw [o8,ho]
  unfold eg; rw [hn]; rfl
 rw [hnew]
 apply List.ext_getElem?
 intro b
 rw [List.getElem?_set]
 by_cases e:s.fO.toNat=b
 ·rw [if_pos e,iR,← e,if_pos hbl,nz hbl]
 ·rw [if_neg e]
  by_cases hb':b<l.ab.length
  ·rw [nz hb',nz hb',o8]
   have:qM l sg b i=none:=by
    cases e2:qM l sg b i with
    |none=>rfl
    |some q=>obtain ⟨s',h1,⟨h2,_⟩,_⟩:=oK.1 e2; rw [hs] at h1; cases h1; exact absurd om e
   rw [this]; simp
  ·rw [List.getElem?_eq_none (by rw [iR]; omega),List.getElem?_eq_none (by rw [iR]; omega)]
noncomputable def b_ (l:aV) (r:cq):bE:=⟨r.Start,r.fR,bS l l.ab.length,dT l r.ag r.ag.length,l.e8,l.iH,(r.ag.length:Int)⟩
theorem F7 {l:aV} (ht:cx l.aH=true) (h:kR l) {i:Nat} (hi:i<l.ab.length):1≤dE l i∧dE l i≤500000000:=by
 have h1:=Bz ht h.lJ i
 have h2:=h.wc i hi
 have h3:=h.head.1
 unfold dE n7
 refine ⟨(Int.le_ediv_iff_mul_le om).2 om,?_⟩
 have:(1000*mh l i+l.lX-1)/l.lX≤1000*mh l i+l.lX-1:=Int.ediv_le_self _ om
 omega
theorem HQ (l:aV) (s:aM):0≤(cH l s).Lo∧(cH l s).Hi≤86400000:=by
 have h1:=hP (p:=gj (oN l s) s.Read) (n:=86400001)
 have h2:=hP (p:=gi (oN l s) s.Read) (n:=86400001)
 unfold cH yR
 simp only
 omega
theorem nM {l:aV} {r:cq} (ht:cx l.aH=true) (h:kR l) (hr:ed l r):DY (b_ l r):=by
 have hh:=h.head
 unfold dU at hh
 refine ⟨?_,by simp [b_,iR,bE.n,dQ],hr.time,fun x hx=>?_,fun t htm p hp=>?_⟩
 ·show (bS l l.ab.length).length≤6
  rw [dQ]; omega
 ·obtain ⟨i,hi,rfl⟩:=List.mem_map.1 hx
  exact F7 ht h (List.mem_range.1 hi)
 ·obtain ⟨b,hb,rfl⟩:=List.mem_map.1 htm
  obtain ⟨k,hk,s,hs,⟨_,h2⟩,rfl⟩:=qx.1 hp
  have h3:=HQ l s
  have h4:=hr.len
  simp only
  omega
noncomputable def dN (l:aV) (r:cq) (me:Int):Int:=if dh l=0 then (if ed l r then (if me=0 then (if gR (b_ l r)=[] then 8 else 0) else me) else 51) else dh l
theorem eQ {l:aV} {r:cq} {me:Int} (h: ¬ dh l=0):dN l r me=dh l:=if_neg h
theorem db {l:aV} {r:cq} {me:Int} (h:dh l=0) (h2: ¬ ed l r):dN l r me=51:=by unfold dN; rw [if_pos h,if_neg h2]
theorem gd {l:aV} {r:cq} {me:Int} (h:dh l=0) (h2:ed l r) (h3: ¬ me=0):dN l r me=me:=by unfold dN; rw [if_pos h,if_pos h2,if_neg h3]
theorem fE {l:aV} {r:cq} {me:Int} (h:dh l=0) (h2:ed l r) (h3:me=0) (h4:gR (b_ l r)=[]):dN l r me=8:=by unfold dN; rw [if_pos h,if_pos h2,if_pos h3,if_pos h4]
theorem mo {l:aV} {r:cq} {me:Int} (h:dh l=0) (h2:ed l r) (h3:me=0) (h4: ¬ gR (b_ l r)=[]):dN l r me=0:=by unfold dN; rw [if_pos h,if_pos h2,if_pos h3,if_neg h4]
theorem jM {l:aV} {r:cq} {me:Int} (h:dN l r me=0):dh l=0∧ed l r∧me=0∧ ¬ gR (b_ l r)=[]:=by
 unfold dN at h
 split at h
 ·split at h
  ·split at h
   ·split at h
    ·omega
    ·exact ⟨asm,asm,asm,asm⟩
   ·omega
  ·omega
 ·omega
end
section
def uT (l:List Int):Int:=(l.drop 1).foldl min (l.headD 0)
def z_ (l:List Int):Int:=(l.drop 1).foldl max (l.headD 0)
theorem yV: ∀ (l:List Int) (a:Int),(l.foldl min a=a∨l.foldl min a∈l)∧l.foldl min a≤a∧ ∀ x∈l,l.foldl min a≤x
 |[],a=>⟨.inl rfl,sm,sm⟩
 |y::l,a=>by
  obtain ⟨h1,h2,h3⟩:=yV l (min a y)
  simp only [List.foldl_cons]
  refine ⟨?_,om,?_⟩
  ·rcases h1 with h1|h1
   ·rw [h1]
    rcases Int.le_total a y with q|q
    ·left; omega
    ·right; rw [show min a y=y by omega]; simp
   ·right; exact dY _ h1
  ·intro x hx
   rcases List.mem_cons.1 hx with rfl|hx
   ·omega
   ·exact h3 x hx
theorem yF: ∀ (l:List Int) (a:Int),(l.foldl max a=a∨l.foldl max a∈l)∧a≤l.foldl max a∧ ∀ x∈l,x≤l.foldl max a
 |[],a=>⟨.inl rfl,sm,sm⟩
 |y::l,a=>by
  obtain ⟨h1,h2,h3⟩:=yF l (max a y)
  simp only [List.foldl_cons]
  refine ⟨?_,om,?_⟩
  ·rcases h1 with h1|h1
   ·rw [h1]
    rcases Int.le_total a y with q|q
    ·right; rw [show max a y=y by omega]; simp
    ·left; omega
   ·right; exact dY _ h1
  ·intro x hx
   rcases List.mem_cons.1 hx with rfl|hx
   ·omega
   ·exact h3 x hx
theorem CA {l:List Int} (h:l≠[]):uT l∈l∧ ∀ x∈l,uT l≤x:=by
 cases l with
 |nil=>exact absurd rfl h
 |cons y ys=>
  obtain ⟨h1,h2,h3⟩:=yV ys y
  refine ⟨?_,fun x hx=>?_⟩
  ·rcases h1 with h1|h1
   ·simp [uT,h1]
   ·exact dY _ (by simpa [uT] using h1)
  ·rcases List.mem_cons.1 hx with rfl|hx
   ·simpa [uT] using h2
   ·simpa [uT] using h3 x hx
theorem Iw {l:List Int} (h:l≠[]):z_ l∈l∧ ∀ x∈l,x≤z_ l:=by
 cases l with
 |nil=>exact absurd rfl h
 |cons y ys=>
  obtain ⟨h1,h2,h3⟩:=yF ys y
  refine ⟨?_,fun x hx=>?_⟩
  ·rcases h1 with h1|h1
   ·simp [z_,h1]
   ·exact dY _ (by simpa [z_] using h1)
  ·rcases List.mem_cons.1 hx with rfl|hx
   ·simpa [z_] using h2
   ·simpa [z_] using h3 x hx
noncomputable def kI (l:aV) (r:cq):List Int:=if dN l r 0=0 then gR (b_ l r) else []
theorem kQ {l:aV} {r:cq} (h:dN l r 0=0):kI l r=gR (b_ l r):=if_pos h
theorem si {l:aV} {r:cq} (h: ¬ dN l r 0=0):kI l r=[]:=if_neg h
theorem sQ {l:aV} {r:cq} (h:dN l r 0=0):kI l r≠[]:=by rw [kQ h]; exact (jM h).2.2.2
noncomputable def AI (l:aV) (r:cq):Int:=if dN l r 0=0 then (if l.cz<uT (kI l r) then 2 else if z_ (kI l r)≤l.cz then 0 else 1) else 0
noncomputable def jf (l:aV) (b:Int):Int:=if 0≤b∧b≤(l.ab.length:Int)-1 then 0 else 2
theorem zk {l:aV} {b:Int} (h:0≤b∧b≤(l.ab.length:Int)-1):jf l b=0:=if_pos h
theorem AV {l:aV} {b:Int} (h:jf l b=0):0≤b∧b≤(l.ab.length:Int)-1:=by
 unfold jf at h
 split at h
 ·assumption
 ·omega
noncomputable def l0 (l:aV) (r:cq) (b:Nat):aa:=vV (l4 (b_ l r) b)
noncomputable def dv (l:aV) (r:cq) (b:Int):Int:=if dN l r (jf l b)=0 then (if l0 l r b.toNat=l3 then 6 else 0) else dN l r (jf l b)
noncomputable def dw (l:aV) (r:cq) (b:Int):aa:=if dv l r b=0 then l0 l r b.toNat else cK
theorem kg {l:aV} {r:cq} {b:Int} (h: ¬ dN l r (jf l b)=0):dv l r b=dN l r (jf l b)∧dw l r b=cK:=by
 have e:dv l r b=dN l r (jf l b):=if_neg h
 exact ⟨e,by unfold dw; rw [if_neg (by rw [e]; exact h)]⟩
theorem lR {l:aV} {r:cq} {b:Nat} (h:dN l r (jf l b)=0) (h2:l0 l r b=l3):dv l r b=6∧dw l r b=cK:=by
 have e:dv l r b=6:=by unfold dv; rw [if_pos h,Int.toNat_natCast,if_pos h2]
 exact ⟨e,by unfold dw; rw [if_neg (by rw [e]; omega)]⟩
theorem lS {l:aV} {r:cq} {b:Nat} (h:dN l r (jf l b)=0) (h2: ¬ l0 l r b=l3):dv l r b=0∧dw l r b=l0 l r b:=by
 have e:dv l r b=0:=by unfold dv; rw [if_pos h,Int.toNat_natCast,if_neg h2]
 exact ⟨e,by unfold dw; rw [if_pos e,Int.toNat_natCast]⟩
theorem Gu {w:bE} (h:DY w) {b:Nat} {q:Int×aa} (hq:q∈l4 w b):0≤q.2.Lo∧q.2.Lo≤q.2.Hi∧q.2.Hi≤86400000:=by
 have h1:=l5 hq
 obtain ⟨o,ho,p,hp,u,hu,e⟩:=gY.1 hq
 obtain ⟨_,_,rfl⟩:=iW.1 e
 have h2:=h.opt ho
 simp only [jg] at h1 ⊢
 omega
theorem uG {l:aV} {r:cq} {b:Int} (h:dv l r b=0):0≤(dw l r b).Lo∧(dw l r b).Lo≤(dw l r b).Hi∧(dw l r b).Hi≤86400000:=by
 have ho:dN l r (jf l b)=0:=by
  by_cases e:dN l r (jf l b)=0
  ·exact e
  ·rw [(kg e).1] at h; exact absurd h e
 obtain ⟨h1,h2,_⟩:=jM ho
 obtain ⟨ht,hok⟩:=gr h1
 have hw:=nM ht hok h2
 have hv:dw l r b=l0 l r b.toNat:=by unfold dw; rw [if_pos h]
 have hn:l0 l r b.toNat≠l3:=fun e=>by unfold dv at h; rw [if_pos ho,if_pos e] at h; omega
 have hh:=s8 (l:=l4 (b_ l r) b.toNat) fun q hq=>l5 hq
 rw [hv]
 unfold l0 at hn ⊢
 rcases hh with ⟨_,e⟩|hh
 ·exact absurd e hn
 ·obtain ⟨x,hx,ex⟩:=hh.lo
  obtain ⟨y,hy,ey⟩:=hh.hi
  have:=Gu hw hx
  have:=Gu hw hy
  have:=hh.le
  omega
noncomputable def kv (l:aV) (r:cq):aa:=if dv l r l.cz=0 then ⟨(dw l r l.cz).Lo-r.Start,(dw l r l.cz).Hi-r.Start⟩ else cK
theorem sI {l:aV} {r:cq} (h:dv l r l.cz=0):kv l r=⟨(dw l r l.cz).Lo-r.Start,(dw l r l.cz).Hi-r.Start⟩:=if_pos h
theorem px {l:aV} {r:cq} (h: ¬ dv l r l.cz=0):kv l r=cK:=if_neg h
theorem tj {l:aV} {r:cq} {b:Int} (h:dv l r b=0):ed l r:=by
 by_cases e:dN l r (jf l b)=0
 ·exact (jM e).2.1
 ·rw [(kg e).1] at h; exact absurd h e
theorem wy {k:List (Int×aa)} {h:aa} {q:Int×aa} {z:aa} (hh:jX k h) (hq:q.2.Lo≤q.2.Hi) (hz:lM h q.2=z):jX (k++[q]) z:=by subst hz; exact sf hh hq
end
section
def lV (l:aV):Prop:=(20<(l.aH.length:Int)∨8<(l.aj.length:Int)∨10<(l.ab.length:Int))∨ ∃ c∈l.aj,10<(c.aR.length:Int)
noncomputable instance (l:aV):Decidable (lV l):=Classical.propDecidable _
/-- what is asked of a line that comes in -/
structure qY (l:aV) (az:List RA):Prop where
 r_:l.aH.length≤9223372036854775807
 side: ∀ x∈l.aH,0≤x.iy∧x.iy≤255
 se:l.aj.length≤9223372036854775807
 qa:az.length=l.aj.length
 sb:l.ab.length≤9223372036854775807
 MI: ∀ (k:Nat) m (a:RA),l.aj[k]? =some m→az[k]? =some a→m.aR.length≤a.2∧m.aR.length≤9223372036854775807
def xD (l:aV) (i:Nat):Prop:= ∀ (j:Nat) c,j<i→l.aj[j]? =some c→(c.aR.length:Int)≤10
theorem pz {l:aV} {i:Nat} (h: ¬ (20<(l.aH.length:Int))∧ ¬ (8<(l.aj.length:Int))∧ ¬ (10<(l.ab.length:Int))) (hi:l.aj.length≤i) (hs:xD l i): ¬ lV l:=by
 rintro (h1|⟨c,hc,h2⟩)
 ·omega
 ·obtain ⟨k,hk⟩:=List.getElem?_of_mem hc
  have:=hs k c (by have:=(List.getElem?_eq_some_iff.1 hk).1; omega) hk
  omega
theorem pd {l:aV} {i:Nat} {c:al} (hc:l.aj[i]? =some c) (h:10<(c.aR.length:Int)):lV l:= .inr ⟨c,aw hc,h⟩
theorem lg {α:Type} {l:List α} {P:Nat→α→Prop} {i:Nat} {x:α} (h: ∀ (j:Nat) y,j<i→l[j]? =some y→P j y) (hx:l[i]? =some x) (hp:P i x): ∀ (j:Nat) y,j<i+1→l[j]? =some y→P j y:=fun j y hj hy=>by
 by_cases e:j=i
 ·subst e; rw [hx] at hy; cases hy; exact hp
 ·exact h j y om hy
theorem gD {α:Type} {l:List α} {P:Nat→α→Prop} {i:Nat} (hi:l.length≤i) (h: ∀ (j:Nat) y,j<i→l[j]? =some y→P j y): ∀ (j:Nat) y,l[j]? =some y→P j y:=fun j y hy=>h j y (by have:=(List.getElem?_eq_some_iff.1 hy).1; omega) hy
theorem eP {α:Type} {l:List α} {P:α→Prop} {i:Nat} (hi:l.length≤i) (h: ∀ (j:Nat) y,j<i→l[j]? =some y→P y): ∀ y∈l,P y:=fun y hy=>by
 obtain ⟨k,hk⟩:=List.getElem?_of_mem hy
 exact gD (P:=fun _ y=>P y) hi h k y hk
theorem F4 {l:aV} (h: ¬ lV l):(l.aH.length:Int)≤20∧(l.aj.length:Int)≤8∧(l.ab.length:Int)≤10∧ ∀ c∈l.aj,(c.aR.length:Int)≤10:=by
 unfold lV at h
 rw [not_or] at h
 refine ⟨om,om,om,fun c hc=>?_⟩
 have:=h.2
 rcases Int.lt_or_le 10 (c.aR.length:Int) with q|q
 ·exact absurd ⟨c,hc,q⟩ this
 ·exact q
theorem qY.small {l:aV} {az:List RA} (h:qY l az) (hg: ¬ lV l):eN l az:=by
 have h1:=F4 hg
 exact ⟨om,h.side,om,h.qa,om,fun k m a hm ha=>⟨(h.MI k m a hm ha).1,by have:=h1.2.2.2 m (aw hm); omega⟩⟩
def B8 (c:al) (x:cR) (k:Nat):Prop:= ∀ (j:Nat) o,j<k→c.aR[j]? =some o→ir c x o
def qK (c:al) (m:Nat):Prop:= ∀ (i:Nat) x,i<m→c.aR[i]? =some x→B8 c x i
theorem g5 {c:al} {m:Nat} (h1:0≤c.cJ∧c.cJ≤1000) (h2:1≤c.aR.length∧c.aR.length≤5) (hs: ∀ (i:Nat) x,c.aR[i]? =some x→ei c i x) (hm:c.aR.length≤m) (hp:qK c m):eJ c:=
 ⟨h1,h2,hs,fun i k x o hx hk ho=>hp i x (by have:=(List.getElem?_eq_some_iff.1 hx).1; omega) hx k o hk ho⟩
theorem Af {c:al} {m k:Nat} (h:qK c m) (hk: ∀ y,c.aR[m]? =some y→B8 c y k) (e:k=m):qK c (m+1):=by
 subst e
 intro i x hi hx
 by_cases e:i=k
 ·subst e; exact hk x hx
 ·exact h i x om hx
noncomputable def jt (c:al) (at_:Int) (i:Nat):aa:=if i=0 then cK else fr c at_ i
theorem Am {c:al} {at_:Int} {i:Nat} (h:eJ c) (hi:c.aR.length≤i):jt c at_ i=gN c at_:=by
 have:=h.len
 unfold jt; rw [if_neg om,mP hi]
theorem rN {c:al} {at_:Int} {i:Nat} {x:cR} (h:eJ c) (ha:0≤at_∧at_≤90000000) (hx:c.aR[i]? =some x) (hi:i=0):
 jt c at_ (i+1)=⟨max (x.d_.Lo-qI c at_ x) (x.d_.Lo-qI c at_ x),min (x.d_.Hi+qI c at_ x) (x.d_.Hi+qI c at_ x)⟩:=by
 subst hi
 have hb:=h.sS hx
 have ho:=sk h.iO ha hb.1
 unfold jt
 rw [if_neg om,jO hx]
 unfold k7 fr
 simp only [List.take_zero,List.foldl_nil,aa.mk.injEq]
 omega
theorem tv {c:al} {at_:Int} {i:Nat} {x:cR} (hx:c.aR[i]? =some x) (hi: ¬ i=0):jt c at_ (i+1)=⟨max (jt c at_ i).Lo (x.d_.Lo-qI c at_ x),min (jt c at_ i).Hi (x.d_.Hi+qI c at_ x)⟩:=by
 unfold jt
 rw [if_neg om,if_neg hi,jO hx]; rfl
def gL (ts:List ah) (n:Nat):List aa:=(List.range n).map fun k=>cN ts 0 k
theorem yB {ts:List ah} {n:Nat}:gL ts (n+1)=gL ts n++[cN ts 0 n]:=by simp [gL,List.range_succ]
theorem nq {ts:List ah} {n:Nat}:(gL ts n).length=n:=by simp [gL]
theorem oe {ts:List ah} {n k:Nat} {x:aa} (h:(gL ts n)[k]? =some x):x=cN ts 0 k:=by
 unfold gL at h
 rw [fq] at h
 cases hk:(List.range n)[k]? with
 |none=>simp [hk] at h
 |some v=>
  have:=List.getElem?_eq_some_iff.1 hk
  simp at this
  simp [hk] at h
  rw [← h,← this.2]
theorem iQ {ts:List ah} {a b:cL} (h:b.ar<a.ar):g3 ts a b=jw (g3 ts b a):=by
 unfold g3
 rw [if_pos h,if_neg om]
 unfold o1
 rw [Int.min_comm b.ar a.ar,Int.max_comm b.ar a.ar]
 unfold jw iG
 simp only [aa.mk.injEq]
 omega
theorem fT {ts:List ah} {a b:cL} (h: ¬ b.ar<a.ar):g3 ts a b=iG (iG (cN ts a.ar.toNat (b.ar-a.ar).toNat) b.gk) (jw a.gk):=by
 unfold g3 o1
 rw [if_neg h,Int.min_eq_left om,Int.max_eq_right om]
end
section
def gf (m:List aS) (a:gZ):List aq:=rd a.1.1 m.length 7 (List.zipWith aS.cells m a.2)::aU aS.fK m a.2
structure Ke (h:List aS) (a:gZ):Prop where
 len:h.length≤1000000
 qa:a.2.length=h.length
 sig: ∀ d∈h,d.bP.ag.length≤1000000
structure iT (r:dg) (az:List RA) (ha:List gZ):Prop where
 line:eN r.aD az
 j6:r.aF.length≤1000000
 draw:r.cG.length≤12
 jZ:r.ay.length≤1000000
 has:ha.length=r.ay.length
 gF: ∀ (k:Nat) h (a:gZ),r.ay[k]? =some h→ha[k]? =some a→Ke h a
structure qW (r:dg) (az:List RA) (ha:List gZ):Prop where
 line:qY r.aD az
 j6:r.aF.length≤9223372036854775807
 draw:r.cG.length≤9223372036854775807
 jZ:r.ay.length≤9223372036854775807
 has:ha.length=r.ay.length
 gF: ∀ (k:Nat) h (a:gZ),r.ay[k]? =some h→ha[k]? =some a→h.length≤9223372036854775807∧a.2.length=h.length∧ ∀ d∈h,d.bP.ag.length≤9223372036854775807
def nU (h:List aS):Prop:=8<(h.length:Int)∨ ∃ d∈h,15<(d.bP.ag.length:Int)
def oq (r:dg):Prop:=(lV r.aD∨8<(r.aF.length:Int)∨8<(r.cG.length:Int)∨5<(r.ay.length:Int))∨ ∃ h∈r.ay,nU h
noncomputable instance (r:dg):Decidable (oq r):=Classical.propDecidable _
theorem H3 {r:dg} (h: ¬ oq r): ¬ lV r.aD∧(r.aF.length:Int)≤8∧(r.cG.length:Int)≤8∧(r.ay.length:Int)≤5∧ ∀ h∈r.ay,(h.length:Int)≤8∧ ∀ d∈h,(d.bP.ag.length:Int)≤15:=by
 unfold oq at h
 obtain ⟨h1,h2⟩:=not_or.1 h
 obtain ⟨h3,h4⟩:=not_or.1 h1
 refine ⟨h3,om,om,om,fun x hx=>?_⟩
 have hn: ¬ nU x:=fun q=>h2 ⟨x,hx,q⟩
 obtain ⟨h5,h6⟩:=not_or.1 hn
 refine ⟨om,fun d hd=>?_⟩
 rcases Int.lt_or_le 15 (d.bP.ag.length:Int) with q|q
 ·exact absurd ⟨d,hd,q⟩ h6
 ·exact q
theorem qW.small {r:dg} {az:List RA} {ha:List gZ} (h:qW r az ha) (hg: ¬ oq r):iT r az ha:=by
 have h1:=H3 hg
 refine ⟨h.line.small h1.1,om,om,om,h.has,fun k x a hx hxa=>?_⟩
 have h2:=h1.2.2.2.2 x (aw hx)
 have h3:=h.gF k x a hx hxa
 exact ⟨om,h3.2.1,fun d hd=>by have:=h2.2 d hd; omega⟩
def gO (r:cq):Prop:=r.Start=0∧r.fR=0∧(r.ag.length:Int)=0
instance (r:cq):Decidable (gO r):=by unfold gO; infer_instance
def jY (s:aa):Prop:=1≤s.Lo∧s.Lo≤s.Hi∧s.Hi≤600000
instance (s:aa):Decidable (jY s):=by unfold jY; infer_instance
def fD (l:aV) (d:aS):Prop:=if d.Out=true then d.dM=false∧d.Time=cK∧gO d.bP else if d.dM=true then jY d.Time∧gO d.bP else dv l d.bP l.cz=0∧d.Time=cK
noncomputable instance (l:aV) (d:aS):Decidable (fD l d):=Classical.propDecidable _
noncomputable def e_ (l:aV) (d:aS):aa:=if d.Out=true∨d.dM=true then d.Time else kv l d.bP
/-- which kind a descent is of -/
def nj (d:aS):Int:=if d.Out=true then 0 else if d.dM=true then 1 else 2
theorem G5 {w:bE} (h:DY w): ∀ (b:Nat) (p:ao×Int),p∈fwd w b→w.Start≤p.2:=by
 have hl: ∀ b,0≤bH w b:=fun b=>by
  unfold bH
  cases e:w.oU[b]? with
  |none=>simp
  |some x=>have:=h.least x (aw e); simp; omega
 intro b
 induction b with
 |zero=>intro p hp; simp only [fwd,bU] at hp; subst hp; exact Int.le_refl _
 |succ b ih=>
  intro q hq
  obtain ⟨p,hp,o,ho,e⟩:=fB.1 hq
  unfold kh at e
  split at e
  ·simp only [Option.some.injEq] at e
   subst e
   have:=ih p hp
   have:=hl b
   simp only; omega
  ·cases e
theorem Hx {l:aV} {r:cq} {b:Int} (h:dv l r b=0):r.Start≤(dw l r b).Lo:=by
 have ho:dN l r (jf l b)=0:=by
  by_cases e:dN l r (jf l b)=0
  ·exact e
  ·rw [(kg e).1] at h; exact absurd h e
 obtain ⟨h1,h2,_⟩:=jM ho
 obtain ⟨ht,hok⟩:=gr h1
 have hw:=nM ht hok h2
 have hv:dw l r b=l0 l r b.toNat:=by unfold dw; rw [if_pos h]
 have hn:l0 l r b.toNat≠l3:=fun e=>by unfold dv at h; rw [if_pos ho,if_pos e] at h; omega
 have hh:=s8 (l:=l4 (b_ l r) b.toNat) fun q hq=>l5 hq
 rw [hv]
 unfold l0 at hn ⊢
 rcases hh with ⟨_,e⟩|hh
 ·exact absurd e hn
 ·obtain ⟨x,hx,ex⟩:=hh.lo
  obtain ⟨o,ho,p,hp,u,hu,e⟩:=gY.1 hx
  obtain ⟨_,_,rfl⟩:=iW.1 e
  have h3:r.Start≤p.2:=G5 hw _ p hp
  have h4:0≤bH (b_ l r) b.toNat:=by
   unfold bH
   cases e:(b_ l r).oU[b.toNat]? with
   |none=>simp
   |some x=>have:=hw.least x (aw e); simp; omega
  simp only [jg] at ex
  omega
theorem xG {l:aV} {d:aS} (h:fD l d):0≤(e_ l d).Lo∧(e_ l d).Lo≤(e_ l d).Hi∧(e_ l d).Hi≤86400000:=by
 unfold fD at h
 unfold e_
 split at h
 ·rename_i q; rw [if_pos (Or.inl q),h.2.1]; simp [cK]
 ·rename_i q
  split at h
  ·rename_i q2
   rw [if_pos (Or.inr q2)]
   obtain ⟨⟨h1,h2,h3⟩,_⟩:=h
   omega
  ·rename_i q2
   rw [if_neg (fun z=>z.elim q q2),sI h.1]
   have h1:=uG h.1
   have h2:=(tj h.1).time
   have h3:=Hx h.1
   simp only
   omega
theorem BE {l:aV} {d:aS} (h:d.Out=true):e_ l d=d.Time:=if_pos (Or.inl h)
theorem BK {l:aV} {d:aS} (h:d.Out=false∧d.dM=true):e_ l d=d.Time:=if_pos (Or.inr h.2)
theorem Cd {l:aV} {d:aS} (h:d.Out=false∧d.dM=false):e_ l d=kv l d.bP:=if_neg (by simp [h])
theorem pc {l:aV} {d:aS} (h:d.Out=true):fD l d=(d.dM=false∧d.Time=cK∧gO d.bP):=if_pos h
theorem vq {l:aV} {d:aS} (h:d.Out=false∧d.dM=true):fD l d=(jY d.Time∧gO d.bP):=by unfold fD; rw [if_neg (by simp [h]),if_pos h.2]
theorem uJ {l:aV} {d:aS} (h:d.Out=false∧d.dM=false):fD l d=(dv l d.bP l.cz=0∧d.Time=cK):=by unfold fD; rw [if_neg (by simp [h]),if_neg (by simp [h])]
structure bR (r:dg):Prop where
 num:1≤(r.aF.length:Int)∧(r.aF.length:Int)≤5
 mR:0≤r.qV∧r.qV≤5
 nh:1≤(r.ay.length:Int)∧(r.ay.length:Int)≤3
 ids: ∀ (i:Nat) x,r.aF[i]? =some x→(0≤x∧x≤9999)∧ ∀ y,0<i→r.aF[i-1]? =some y→y<x
 draw:r.cG.Perm ((List.range r.aF.length).map fun (k:Nat)=>(k:Int))
 gF: ∀ h∈r.ay,h.length=r.aF.length∧ ∀ d∈h,fD r.aD d
noncomputable instance (r:dg):Decidable (bR r):=Classical.propDecidable _
noncomputable def fV (r:dg):Int:=if dh r.aD=0 then (if bR r then 0 else 60) else dh r.aD
end
section
theorem mF {α β:Type} {f g:α→Option β}: ∀ {l:List α},(∀ x∈l,f x=g x)→l.filterMap f=l.filterMap g
 |[],_=>rfl
 |x::l,h=>by simp only [List.filterMap_cons,h x cZ,mF (l:=l) (fun y hy=>h y (dY _ hy))]
abbrev kJ:=List (Int×aa)
/-- the sum of a sled in some heats, the first ones -/
noncomputable def dz (l:aV) (hs:List (List aS)) (i:Nat):Nat→Option aa
 |0=>some ⟨0,0⟩
 |k+1=>match dz l hs i k,(hs[k]?).bind (·[i]?) with
  |some s,some d=>if d.Out=true then none else some ⟨s.Lo+(e_ l d).Lo/10,s.Hi+(e_ l d).Hi/10⟩
  |_,_=>none
noncomputable def dV (l:aV) (hs:List (List aS)) (n h i:Nat):kJ:=(List.range n).filterMap fun q=>(dz l hs q (if q<i then h+1 else h)).map fun s=>((q:Int),s)
noncomputable def qi (r:dg) (k:Nat):kJ:=(List.range r.aF.length).filterMap fun q=>(dz r.aD r.ay q k).map fun s=>((q:Int),s)
noncomputable def aJ (r:dg):kJ:=qi r r.ay.length
section
variable {l:aV} {hs:List (List aS)} {n h i q:Nat} {s:aa} {d:aS}
theorem yz:dV l hs n h 0=(List.range n).filterMap fun q=>(dz l hs q h).map fun s=>((q:Int),s):=by
 unfold dV
 apply mF
 intro q _
 rw [if_neg (Nat.not_lt_zero _)]
theorem Ij:dV l hs n h n=dV l hs n (h+1) 0:=by
 rw [yz]
 unfold dV
 apply mF
 intro q hq
 rw [if_pos (List.mem_range.1 hq)]
theorem pJ {x:List aS} (hx:hs[h]? =some x) (hd:x[i]? =some d) (ho:d.Out=true):dz l hs i (h+1)=none:=by
 unfold dz
 rw [hx]
 simp only [Option.bind_some,hd]
 cases dz l hs i h with
 |none=>rfl
 |some s=>simp [ho]
theorem qs (h0:dz l hs i h=none):dz l hs i (h+1)=none:=by unfold dz; rw [h0]
theorem vj {x:List aS} (hx:hs[h]? =some x) (hd:x[i]? =some d) (ho: ¬ d.Out=true) (hs0:dz l hs i h=some s):dz l hs i (h+1)=some ⟨s.Lo+(e_ l d).Lo/10,s.Hi+(e_ l d).Hi/10⟩:=by
 unfold dz
 rw [hx,hs0]
 simp only [Option.bind_some,hd,if_neg ho]
end
section
variable {l:aV} {hs:List (List aS)} {n h i q:Nat} {s t:aa}
theorem Kv {K β:Type} [DecidableEq K] {L Y:List (K×β)} {t:K}:(L++Y).lookup t=match L.lookup t with |some v=>some v|none=>Y.lookup t:=by
 induction L with
 |nil=>rfl
 |cons p L ih=>
  obtain ⟨k,u⟩:=p
  by_cases e:t==k
  ·simp [List.lookup,e]
  ·have:(t==k)=false:=by simpa using e
   simp only [List.cons_append,List.lookup,this,ih]
theorem p_ {f:Nat→Option aa}: ∀ (n i:Nat),((List.range n).filterMap fun q=>(f q).map fun s=>((q:Int),s)).lookup (i:Int)=if i<n then f i else none
 |0,i=>by simp
 |n+1,i=>by
  rw [List.range_succ,List.filterMap_append,Kv,p_ n i]
  by_cases c:i<n
  ·rw [if_pos c,if_pos om]
   cases e:f i with
   |some s=>rfl
   |none=>
    simp only
    cases e2:f n with
    |none=>simp [e2]
    |some u=>
     have:((i:Int)==(n:Int))=false:=by simp only [beq_eq_false_iff_ne,ne_eq]; omega
     simp [e2,List.lookup,this]
  ·rw [if_neg c]
   simp only
   by_cases c2:i=n
   ·subst c2
    rw [if_pos om]
    cases e2:f i with
    |none=>simp [e2]
    |some u=>simp [e2]
   ·rw [if_neg om]
    have:((i:Int)==(n:Int))=false:=by simp only [beq_eq_false_iff_ne,ne_eq]; omega
    cases e2:f n with
    |none=>simp [e2]
    |some u=>simp [e2,List.lookup,this]
theorem ve:(dV l hs n h i).lookup (q:Int)=if q<n then dz l hs q (if q<i then h+1 else h) else none:=p_ n q
theorem JA {f g:Nat→Option aa} {n i:Nat} (hi:i<n) {s:aa} (hf:(f i).isSome=true) (hg:g i=some s) (hfg: ∀ q,q≠i→f q=g q):eg ((List.range n).filterMap fun q=>(f q).map fun s=>((q:Int),s)) (i:Int) s=(List.range n).filterMap fun q=>(g q).map fun s=>((q:Int),s):=by
 unfold eg
 rw [if_pos (by rw [p_,if_pos hi]; exact hf),List.map_filterMap]
 apply mF
 intro q _
 by_cases e:q=i
 ·subst e
  obtain ⟨u,hu⟩:=Option.isSome_iff_exists.1 hf
  rw [hu,hg]; simp
 ·rw [hfg q e]
  cases g q with
  |none=>rfl
  |some u=>
   have: ¬ ((q:Int)=(i:Int)):=by omega
   simp [this]
theorem Ju {f g:Nat→Option aa} {n i:Nat} (hg:g i=none) (hfg: ∀ q,q≠i→f q=g q):cj ((List.range n).filterMap fun q=>(f q).map fun s=>((q:Int),s)) (i:Int)=(List.range n).filterMap fun q=>(g q).map fun s=>((q:Int),s):=by
 unfold cj
 rw [List.filter_filterMap]
 apply mF
 intro q _
 by_cases e:q=i
 ·subst e
  rw [hg]
  cases f q with
  |none=>rfl
  |some u=>simp
 ·rw [hfg q e]
  cases g q with
  |none=>rfl
  |some u=>
   have: ¬ ((q:Int)=(i:Int)):=by omega
   simp [this]
theorem H8 (hi:i<n) (h0:(dz l hs i h).isSome=true) (h1:dz l hs i (h+1)=some s):eg (dV l hs n h i) (i:Int) s=dV l hs n h (i+1):=by
 unfold dV
 refine JA hi (by rw [if_neg (Nat.lt_irrefl i)]; exact h0) (by rw [if_pos (Nat.lt_succ_self i)]; exact h1) fun q hq=>?_
 by_cases c:q<i
 ·rw [if_pos c,if_pos om]
 ·rw [if_neg c,if_neg om]
theorem Cu (h1:dz l hs i (h+1)=none):cj (dV l hs n h i) (i:Int)=dV l hs n h (i+1):=by
 unfold dV
 refine Ju (by rw [if_pos (Nat.lt_succ_self i)]; exact h1) fun q hq=>?_
 by_cases c:q<i
 ·rw [if_pos c,if_pos om]
 ·rw [if_neg c,if_neg om]
end
def m0 (m:kJ) (i:Int):kJ:=m.filter fun p=> !decide (p.1=i)
def ig (m:kJ) (i n:Int):Nat:=(m0 m i).countP fun p=>decide (p.2.Hi<n)
def j1 (m:kJ) (i n:Int):Nat:=(m0 m i).countP fun p=>decide (p.2.Lo<n)
def jW (m:kJ) (i:Int) (own:aa):List Int:=own.Lo::((m0 m i).flatMap fun p=>[p.2.Lo+1,p.2.Hi+1]).filter fun n=>decide (own.Lo≤n∧n≤own.Hi)
def sv (m:kJ) (i:Int) (own:aa) (k:Int):Prop:= ∃ n∈jW m i own,(ig m i n:Int)+1≤k∧k≤(j1 m i n:Int)+1
noncomputable instance (m:kJ) (i:Int) (own:aa) (k:Int):Decidable (sv m i own k):=Classical.propDecidable _
noncomputable def iI (m:kJ) (i:Int) (own:aa):List Int:=((List.range m.length).map fun (k:Nat)=>(k:Int)+1).filter fun k=>decide (sv m i own k)
section
variable {m:kJ} {i:Int} {own:aa}
theorem ye (hi:m.lookup i≠none) {x:Int}:j1 m i x+1≤m.length:=by
 unfold j1
 refine Nat.lt_of_le_of_lt List.countP_le_length ?_
 unfold m0
 obtain ⟨v,hv⟩:=Option.ne_none_iff_exists'.1 hi
 have hm: ∃ p∈m,p.1=i:=by
  clear hi
  induction m with
  |nil=>simp at hv
  |cons p m ih=>
   obtain ⟨a,b⟩:=p
   by_cases e:i=a
   ·exact ⟨_,cZ ..,e.symm⟩
   ·have:(i==a)=false:=by simpa using e
    simp only [List.lookup,this] at hv
    obtain ⟨p,hp,e⟩:=ih hv
    exact ⟨p,dY _ hp,e⟩
 obtain ⟨p,hp,e⟩:=hm
 refine Nat.lt_of_le_of_ne (List.length_filter_le _ _) fun q=>?_
 have:=(List.filter_eq_self (p:=fun p:Int×aa=> !decide (p.1=i))).1 (List.filter_sublist.eq_of_length q) p hp
 simp [e] at this
theorem Dx (hi:m.lookup i≠none) {k:Int}:k∈iI m i own↔sv m i own k:=by
 unfold iI
 rw [List.mem_filter,rR,decide_eq_true_eq]
 constructor
 ·rintro ⟨_,h⟩; exact h
 ·intro h
  refine ⟨?_,h⟩
  obtain ⟨n,_,h1,h2⟩:=h
  have:=ye hi (x:=n)
  exact ⟨(k-1).toNat,List.mem_range.2 om,om⟩
end
end
section
def o2 (l:List Int):List (List Value):=l.map fun x=>[vI x]
theorem rT {l:List Int}:(o2 l).length=l.length:=by simp [o2]
theorem CY {l:List Int} {k:Nat} {x:Int} (h:l[k]? =some x):(o2 l)[k]? =some [vI x]:=by simp [o2,h]
theorem DQ {l:List Int} {k:Nat} {x:List Value} (h:(o2 l)[k]? =some x): ∃ y,l[k]? =some y∧x=[vI y]:=by
 simp only [o2,fq,Option.map_eq_some_iff] at h
 obtain ⟨y,hy,rfl⟩:=h
 exact ⟨y,hy,rfl⟩
theorem AM {l:List Int}: ∀ x∈o2 l,x.length=1:=fun x hx=>by
 simp only [o2,rR] at hx
 obtain ⟨y,_,rfl⟩:=hx
 rfl
theorem wq {l:List Int}:l.take (o2 l).length=l:=by rw [rT,List.take_of_length_le (Nat.le_refl _)]
theorem An {l:List Int} {k:Nat} {x:Int} (h:l[k]? =some x):l.take (k+1)=l.take k++[x]:=by
 rw [List.take_add_one,h]; rfl
def iq (l:List Int):List Int:=l.mergeSort fun a b=>decide (a≤b)
theorem g6 {l:List Int}:(iq l).Perm l:=List.mergeSort_perm _ _
theorem l9 {l:List Int}:(iq l).Pairwise (· ≤ ·):=by
 have:=List.pairwise_mergeSort (le:=fun (a b:Int)=>decide (a≤b)) (fun a b c h1 h2=>by simp at h1 h2 ⊢; omega) (fun a b=>by simp; omega) l
 exact this.imp fun h=>by simpa using h
@[simp] theorem ow {l:List Int}:(iq l).length=l.length:=g6.length_eq
theorem vL {l m:List Int} (h1:m.Perm l) (h2:m.Pairwise (· ≤ ·)):m=iq l:=qm (h1.trans g6.symm) h2 l9
end
section
open Go.RowKit
def sC (s:bB):List Value:=[vS s.a s.n s.c]
theorem wB: ∀ s,(sC s).length=1:=fun s=>rfl
theorem EZ (l:List bB): ∀ v∈(l.map sC).flatten,v.oneCell'=true:=rv (fun s=>rfl) l
def xY (l:List aa) (a:RA):bB:=⟨a.1,l.length,a.2⟩
def wj (l:List aa) (a:RA):List Value:=[vS a.1 l.length a.2]
def wR (l:List aa) (a:RA):List aq:=[rd a.1 l.length 2 (l.map aa.cells)]
def yh (l:List aa) (a:RA):List aq:=[own a.1 a.2 GD 2 (l.map aa.cells)]
theorem wT {ls:List (List aa)} {az:List RA}:(List.zipWith xY ls az).map sC=List.zipWith wj ls az:=by
 rw [List.map_zipWith]; rfl
theorem xg: ∀ (m:List aa) (a:RA) (w:World),(∀ X∈yh m a,X.holds w)→ ∀ X∈wR m a,X.holds w:=fun m a w h X hX=>by
 simp only [wR,bU] at hX
 subst hX
 have:=qq (h _ (List.mem_singleton.2 rfl))
 simpa using this
theorem eG {l:List (List aa)} {bz:List RA}:(bV (aU yh l bz)).wr=true:=by
 show (aU yh l bz).all (·.wr)=true
 rw [fz]
 intro X hX
 obtain ⟨k,m,a,_,_,h⟩:=pb hX
 simp only [yh,bU] at h
 subst h; rfl
theorem p7 {ls:List (List aa)} {az:List RA} (h:az.length=ls.length):(List.zipWith wj ls az).length=ls.length:=by simp [h]
noncomputable def fu (r:dg) (i:Nat):List (List aa):=(r.ay.take i).map fun h=>h.map (e_ r.aD)
noncomputable def bX (r:dg):List (List aa):=fu r r.ay.length
section
variable {r:dg} {i:Nat} {h:List aS} {tz:List RA} {a:RA}
theorem tT (hh:r.ay[i]? =some h):fu r (i+1)=fu r i++[h.map (e_ r.aD)]:=by unfold fu; rw [List.take_add_one,hh,List.map_append]; rfl
theorem ki (hi:i≤r.ay.length):(fu r i).length=i:=by unfold fu; rw [List.length_map,List.length_take]; omega
theorem eA:(bX r).length=r.ay.length:=ki (Nat.le_refl _)
theorem AK (hh:r.ay[i]? =some h):(bX r)[i]? =some (h.map (e_ r.aD)):=by
 unfold bX fu
 rw [List.take_length,fq,hh]; rfl
theorem wM {m:List aa} (hh:r.ay[i]? =some h) (hm:(bX r)[i]? =some m):m=h.map (e_ r.aD):=by
 rw [AK hh] at hm
 exact (Option.some.inj hm).symm
theorem rK (hh:r.ay[i]? =some h) (hl:tz.length=i):List.zipWith xY (fu r (i+1)) (tz++[a])=List.zipWith xY (fu r i) tz++[xY (h.map (e_ r.aD)) a]:=by
 have hi:=(List.getElem?_eq_some_iff.1 hh).1
 rw [tT hh,List.zipWith_append (by rw [ki om,hl])]
 rfl
theorem yZ (hh:r.ay[i]? =some h) (hl:tz.length=i):aU yh (fu r i) tz++[own a.1 a.2 GD 2 ((h.map (e_ r.aD)).map aa.cells)]=aU yh (fu r (i+1)) (tz++[a]):=by
 have hi:=(List.getElem?_eq_some_iff.1 hh).1
 rw [tT hh,lP (by rw [ki om,hl])]
 simp [aU,yh]
end
theorem xj {lo hi:Int} {l:List Int}:oT lo hi l=true↔ ∀ x∈l,lo≤x∧x≤hi:=by
 unfold oT
 rw [Bool.not_eq_true',List.any_eq_false]
 constructor
 ·intro h x hx; have:=h x hx; simp only [decide_eq_true_eq] at this; omega
 ·intro h x hx; have:=h x hx; simp only [decide_eq_true_eq]; omega
abbrev Dy (n:Nat):List Int:=(List.range n).map fun (k:Nat)=>(k:Int)
theorem vW (n:Nat):(Dy n).Pairwise (· ≤ ·):=by
 unfold Dy
 rw [List.pairwise_map]
 exact List.pairwise_lt_range.imp fun h=>by omega
theorem zP {l:List Int} {n:Nat} (h:l.Perm (Dy n)):iq l=Dy n:=(vL h.symm (vW n)).symm
theorem CU {l:List Int} {n:Nat} (hl:l.length=n) (h: ∀ j,j<n→ ∀ x,(iq l)[j]? =some x→x=(j:Int)):l.Perm (Dy n):=by
 have e:iq l=Dy n:=by
  apply List.ext_getElem
  ·simp [hl]
  ·intro j h1 h2
   have h3:j<n:=by simpa using h2
   have:=h j h3 _ (gv h1)
   simpa using this
 rw [← e]; exact g6.symm
def pK (r:dg) (i:Nat):Prop:= ∀ j,j<i→(∀ x,(iq r.cG)[j]? =some x→x=(j:Int))∧ ∀ x y,r.aF[j]? =some x→0<j→r.aF[j-1]? =some y→y<x
def AW (r:dg) (h:List aS):Prop:=h.length=r.aF.length∧ ∀ d∈h,fD r.aD d
def iS (r:dg) (i:Nat):Prop:= ∀ (j:Nat) h,j<i→r.ay[j]? =some h→AW r h
def m8 (l:aV) (h:List aS) (k:Nat):Prop:= ∀ (j:Nat) d,j<k→h[j]? =some d→fD l d
section
variable {r:dg} {i:Nat}
theorem Au:pK r 0:=fun j hj=>absurd hj (Nat.not_lt_zero _)
theorem vd {x:Int} (h:pK r i) (hd:(iq r.cG)[i]? =some x) (e:x=(i:Int)) (hs: ∀ x y,r.aF[i]? =some x→0<i→r.aF[i-1]? =some y→y<x):pK r (i+1):=fun j hj=>by
 rcases Nat.lt_or_ge j i with q|q
 ·exact h j q
 ·obtain rfl:j=i:=by omega
  exact ⟨fun y hy=>by rw [hd] at hy; cases hy; exact e,hs⟩
theorem vt:iS r 0:=fun j h hj=>absurd hj (Nat.not_lt_zero _)
theorem u7 {h:List aS} (hh:iS r i) (hx:r.ay[i]? =some h) (ho:AW r h):iS r (i+1):=fun j y hj hy=>by
 rcases Nat.lt_or_ge j i with q|q
 ·exact hh j y q hy
 ·obtain rfl:j=i:=by omega
  rw [hx] at hy; cases hy; exact ho
theorem tn {l:aV} {h:List aS}:m8 l h 0:=fun j d hj=>absurd hj (Nat.not_lt_zero _)
theorem tm {l:aV} {h:List aS} {d:aS} (ht:m8 l h i) (hx:h[i]? =some d) (ho:fD l d):m8 l h (i+1):=fun j y hj hy=>by
 rcases Nat.lt_or_ge j i with q|q
 ·exact ht j y q hy
 ·obtain rfl:j=i:=by omega
  rw [hx] at hy; cases hy; exact ho
theorem Cq {h:List aS} (hl:h.length=r.aF.length) (ht:m8 r.aD h i) (hi:h.length≤i):AW r h:=⟨hl,fun d hd=>by
 obtain ⟨j,hj⟩:=List.getElem?_of_mem hd
 exact ht j d (by have:=(List.getElem?_eq_some_iff.1 hj).1; omega) hj⟩
theorem E7 {n:Nat} (hn:n=r.aF.length) (h1:1≤(r.aF.length:Int)∧(r.aF.length:Int)≤5) (h2:r.cG.length=r.aF.length) (h3:0≤r.qV∧r.qV≤5) (h4:1≤(r.ay.length:Int)∧(r.ay.length:Int)≤3) (h5:oT 0 9999 r.aF=true)
 (h6:pK r n) (h7:iS r i) (hi:r.ay.length≤i):bR r:=by
 subst hn
 refine ⟨h1,h3,h4,fun k x hx=>⟨xj.1 h5 x (aw hx),fun y hk hy=>?_⟩,CU h2 fun j hj=>(h6 j hj).1,fun h hh=>?_⟩
 ·exact (h6 k (List.getElem?_eq_some_iff.1 hx).1).2 x y hx hk hy
 ·obtain ⟨j,hj⟩:=List.getElem?_of_mem hh
  exact h7 j h (by have:=(List.getElem?_eq_some_iff.1 hj).1; omega) hj
theorem bR.mU (h:bR r):r.cG.length=r.aF.length:=by have:=h.draw.length_eq; simpa using this
theorem bR.ins (h:bR r):oT 0 9999 r.aF=true:=xj.2 fun x hx=>by
 obtain ⟨j,hj⟩:=List.getElem?_of_mem hx
 exact (h.ids j x hj).1
theorem bR.drawn (h:bR r) {x:Int} (hx:(iq r.cG)[i]? =some x):x=(i:Int):=by
 rw [zP h.draw] at hx
 have hi:=(List.getElem?_eq_some_iff.1 hx).1
 simp at hi
 rw [fq,List.getElem?_range hi] at hx
 exact (Option.some.inj hx).symm
theorem bR.qO (h:bR r):iS r i:=fun j x _ hx=>h.gF x (aw hx)
theorem hG (h: ¬ dh r.aD=0):fV r=dh r.aD:=if_neg h
theorem bG (h:dh r.aD=0) (hn: ¬ bR r):fV r=60:=by unfold fV; rw [if_pos h,if_neg hn]
theorem zB (h:dh r.aD=0) (hn:bR r):fV r=0:=by unfold fV; rw [if_pos h,if_pos hn]
theorem mE (h:fV r=0):dh r.aD=0∧bR r:=by
 unfold fV at h
 split at h
 ·split at h
  ·exact ⟨asm,asm⟩
  ·cases h
 ·exact absurd h asm
end
section
variable {r:dg} {k i n h:Nat} {s:aa} {l:aV} {hs:List (List aS)}
theorem uj: ∀ {k:Nat} {s:aa},iS r k→k≤r.ay.length→dz r.aD r.ay i k=some s→0≤s.Lo∧s.Lo≤s.Hi∧s.Hi≤8640000*(k:Int)
 |0,s,_,_,h=>by
  simp only [dz,Option.some.injEq] at h
  subst h; simp
 |k+1,s,hh,hk,h=>by
  unfold dz at h
  split at h
  ·rename_i u d hu hd
   split at h
   ·cases h
   ·cases h
    have h1:=uj (fun j x hj hx=>hh j x om hx) om hu
    obtain ⟨x,hx,hd⟩:=Option.bind_eq_some_iff.1 hd
    have h2:=xG ((hh k x om hx).2 d (aw hd))
    simp only
    push_cast
    omega
  ·cases h
theorem HG:eg (dV l hs i 0 0) (i:Int) ⟨0,0⟩=dV l hs (i+1) 0 0:=by
 have h1:(dV l hs i 0 0).lookup (i:Int)=none:=by rw [ve,if_neg (Nat.lt_irrefl i)]
 unfold eg
 rw [h1]
 simp only [Option.isSome_none,Bool.false_eq_true,if_false]
 unfold dV
 rw [List.range_succ,List.filterMap_append]
 simp [dz]
theorem EM (hi:i<n):(dV l hs n h i).lookup (i:Int)=dz l hs i h:=by rw [ve,if_pos hi,if_neg (Nat.lt_irrefl i)]
theorem EY {α β:Type} {f:α→β} {tr:List β} {ht:List α} {x:β} {d:α} (e:tr=ht.map f) (hx:tr[i]? =some x) (hd:ht[i]? =some d):x=f d:=by
 rw [e,fq,hd] at hx
 exact (Option.some.inj hx).symm
theorem HH:dV r.aD r.ay r.aF.length h 0=qi r h:=yz
end
end
section
def aC (m:kJ) (i:Int):aa:=(m.lookup i).getD cK
def yu (r:dg) (i:Int):Prop:=0≤i∧i≤(r.aF.length:Int)-1
instance (r:dg) (i:Int):Decidable (yu r i):=by unfold yu; infer_instance
noncomputable def nt (r:dg) (i:Int):Int:=if fV r=0 then (if yu r i then (if (aJ r).lookup i=none then 6 else 0) else 2) else fV r
noncomputable def ku (r:dg) (a b:Int):Int:=if fV r=0 then (if yu r a∧yu r b∧a≠b then (if (aJ r).lookup a=none∨(aJ r).lookup b=none then 6 else 0) else 2) else fV r
def xQ (s t:aa):Int:=if s.Hi<t.Lo then 2 else if s.Lo<t.Hi then 1 else 0
def ko (s t:aa):Int:=if s=t∧s.Lo=s.Hi then 2 else if s.Lo≤t.Hi∧t.Lo≤s.Hi then 1 else 0
noncomputable def vl (r:dg) (a b:Int):Int:=if ku r a b=0 then xQ (aC (aJ r) a) (aC (aJ r) b) else 0
noncomputable def kp (r:dg) (a b:Int):Int:=if ku r a b=0 then ko (aC (aJ r) a) (aC (aJ r) b) else 0
noncomputable def iJ (r:dg) (i:Int):List Int:=if nt r i=0 then iI (aJ r) i (aC (aJ r) i) else []
section
variable {r:dg} {i a b:Int}
theorem pV {m:kJ} {i:Int} (h:(m.lookup i).isSome=true): ¬ m.lookup i=none:=fun e=>by rw [e] at h; cases h
theorem su {m:kJ} {i:Int} (h:(m.lookup i).isSome=false):m.lookup i=none:=by cases e:m.lookup i with |none=>rfl|some v=>rw [e] at h; cases h
theorem DL (h:nt r i=0):fV r=0∧yu r i∧(aJ r).lookup i≠none:=by
 unfold nt at h
 split at h
 ·split at h
  ·split at h
   ·cases h
   ·exact ⟨asm,asm,asm⟩
  ·cases h
 ·exact absurd h asm
theorem xo (h:ku r a b=0):fV r=0∧(yu r a∧yu r b∧a≠b)∧(aJ r).lookup a≠none∧(aJ r).lookup b≠none:=by
 unfold ku at h
 split at h
 ·split at h
  ·split at h
   ·cases h
   ·rename_i _ _ q
    exact ⟨asm,asm,fun e=>q (.inl e),fun e=>q (.inr e)⟩
  ·cases h
 ·exact absurd h asm
theorem wH {k:Nat} {p:Int×aa} (h:p∈qi r k): ∃ q:Nat,q<r.aF.length∧p.1=(q:Int)∧dz r.aD r.ay q k=some p.2:=by
 unfold qi at h
 obtain ⟨q,hq,e⟩:=List.mem_filterMap.1 h
 obtain ⟨s,hs,rfl⟩:=Option.map_eq_some_iff.1 e
 exact ⟨q,List.mem_range.1 hq,rfl,hs⟩
theorem Ii {k:Nat} (h:fV r=0) (hk:k≤r.ay.length): ∀ p∈qi r k,0≤p.2.Lo∧p.2.Lo≤p.2.Hi∧p.2.Hi≤30000000:=fun p hp=>by
 obtain ⟨q,_,_,hs⟩:=wH hp
 have h1:=uj (mE h).2.qO hk hs
 have h2:=(mE h).2.nh
 omega
theorem u_ (h:fV r=0): ∀ p∈aJ r,0≤p.2.Lo∧p.2.Lo≤p.2.Hi∧p.2.Hi≤30000000:=Ii h (Nat.le_refl _)
theorem xw {k:Nat}:(qi r k).length≤r.aF.length:=by
 unfold qi
 refine Nat.le_trans (List.length_filterMap_le _ _) ?_
 rw [List.length_range]; exact Nat.le_refl _
theorem vn (h:fV r=0):(aJ r).length≤5:=by
 have h1:=xw (r:=r) (k:=r.ay.length)
 have h2:=(mE h).2.num
 unfold aJ; omega
theorem Co {s t:aa}:(if decide (s.Hi<t.Lo)=true then (2:Int) else if decide (s.Lo<t.Hi)=true then 1 else 0)=xQ s t:=by simp only [decide_eq_true_eq]; rfl
theorem vh {s t:aa} (h:s=t):(if decide (max s.Lo t.Lo=min s.Hi t.Hi)=true then (2:Int) else if decide (max s.Lo t.Lo≤min s.Hi t.Hi)=true then 1 else 0)=ko s t:=by
 subst h
 simp only [decide_eq_true_eq,ko,Int.max_self,Int.min_self,true_and,and_self]
theorem yd {s t:aa} (hs:s.Lo≤s.Hi) (ht:t.Lo≤t.Hi) (h: ¬ s=t):(if false=true then (2:Int) else if decide (max s.Lo t.Lo≤min s.Hi t.Hi)=true then 1 else 0)=ko s t:=by
 unfold ko
 rw [if_neg dc,if_neg (fun q:s=t∧s.Lo=s.Hi=>h q.1)]
 by_cases c:s.Lo≤t.Hi∧t.Lo≤s.Hi
 ·rw [if_pos c,if_pos (bW om)]
 ·rw [if_neg c,if_neg (by rw [decide_eq_true_eq]; omega)]
theorem rm (h: ¬ fV r=0):nt r i=fV r:=if_neg h
theorem rV (h:fV r=0) (hi: ¬ (0≤i∧i≤(r.aF.length:Int)-1)):nt r i=2:=by unfold nt; rw [if_pos h,if_neg (show ¬ yu r i from hi)]
theorem pU (h:fV r=0) (hi:0≤i∧i≤(r.aF.length:Int)-1) (hl:((aJ r).lookup i).isSome=false):nt r i=6:=by unfold nt; rw [if_pos h,if_pos (show yu r i from hi),if_pos (su hl)]
theorem Cz (h:fV r=0) (hi:0≤i∧i≤(r.aF.length:Int)-1) (hl:((aJ r).lookup i).isSome=true):nt r i=0:=by unfold nt; rw [if_pos h,if_pos (show yu r i from hi),if_neg (pV hl)]
theorem jh (h: ¬ fV r=0):ku r a b=fV r:=if_neg h
theorem je (h:fV r=0) (hi: ¬ ((0≤a∧a≤(r.aF.length:Int)-1)∧(0≤b∧b≤(r.aF.length:Int)-1)∧a≠b)):ku r a b=2:=by unfold ku; rw [if_pos h,if_neg (show ¬ (yu r a∧yu r b∧a≠b) from hi)]
theorem hO (h:fV r=0) (hi:(0≤a∧a≤(r.aF.length:Int)-1)∧(0≤b∧b≤(r.aF.length:Int)-1)∧a≠b) (hl:((aJ r).lookup a).isSome=false∨((aJ r).lookup b).isSome=false):ku r a b=6:=by
 unfold ku; rw [if_pos h,if_pos (show yu r a∧yu r b∧a≠b from hi),if_pos (hl.imp su su)]
theorem nc (h:fV r=0) (hi:(0≤a∧a≤(r.aF.length:Int)-1)∧(0≤b∧b≤(r.aF.length:Int)-1)∧a≠b) (h1:((aJ r).lookup a).isSome=true) (h2:((aJ r).lookup b).isSome=true):ku r a b=0:=by
 unfold ku; rw [if_pos h,if_pos (show yu r a∧yu r b∧a≠b from hi),if_neg (fun q=>q.elim (pV h1) (pV h2))]
end
end
section
abbrev pB:=List (Int×Bool)
def iB (m:pB) (P:Int→Prop):Prop:=(m.map (·.1)).Nodup∧ ∀ k,k∈m.map (·.1)↔P k
section
variable {m:pB} {P Q:Int→Prop} {k:Int}
theorem iB.wh (h:iB m P) (e: ∀ k,P k↔Q k):iB m Q:=⟨h.1,fun k=>(h.2 k).trans (e k)⟩
theorem GU (h: ∀ k,¬ P k):iB [] P:=⟨List.Pairwise.nil,fun k=>⟨fun q=>by simp at q,fun q=>absurd q (h k)⟩⟩
theorem D_:k∈m.map (·.1)↔(m.lookup k).isSome=true:=by
 induction m with
 |nil=>simp
 |cons p m ih=>
  obtain ⟨a,b⟩:=p
  by_cases e:k=a
  ·subst e; simp [List.lookup]
  ·have:(k==a)=false:=by simpa using e
   simp only [List.map_cons,dZ,e,false_or,List.lookup,this]
   exact ih
theorem Gd {b:Bool} (h:iB m P) (hk: ¬ P k):iB (eg m k b) fun q=>P q∨q=k:=by
 have hn:(m.lookup k).isSome=false:=by
  rw [Bool.eq_false_iff]
  exact fun q=>hk ((h.2 k).1 (D_.2 q))
 unfold eg
 rw [hn]
 simp only [Bool.false_eq_true,if_false]
 refine ⟨?_,fun q=>?_⟩
 ·rw [List.map_append]
  refine List.nodup_append.2 ⟨h.1,sm,fun a ha b hb e=>?_⟩
  simp at hb
  subst hb; subst e
  exact hk ((h.2 _).1 ha)
 ·rw [List.map_append,g4,h.2 q]
  simp
theorem zy (h:iB m P):iB (cj m k) fun q=>P q∧q≠k:=by
 have hs:((cj m k).map (·.1)).Sublist (m.map (·.1)):=List.Sublist.map _ List.filter_sublist
 refine ⟨h.1.sublist hs,fun q=>?_⟩
 constructor
 ·intro hq
  obtain ⟨p,hp,rfl⟩:=List.mem_map.1 hq
  obtain ⟨h1,h2⟩:=jS.1 hp
  exact ⟨(h.2 _).1 (List.mem_map_of_mem h1),h2⟩
 ·rintro ⟨h1,h2⟩
  obtain ⟨p,hp,rfl⟩:=List.mem_map.1 ((h.2 q).2 h1)
  exact List.mem_map_of_mem (jS.2 ⟨hp,h2⟩)
end
/-- two rows that go up and have the same numbers, each once -/
theorem qc {a b:List Int} (ha:a.Pairwise (· ≤ ·)) (hb:b.Pairwise (· ≤ ·)) (na:a.Nodup) (nb:b.Nodup) (h: ∀ x,x∈a↔x∈b):a=b:=
 qm ((List.perm_ext_iff_of_nodup na nb).2 h) ha hb
def F1 (l:List Int):Nat:=if l.length=2∧l[1]? =l[0]? then 1 else l.length
theorem sH {l:List Int} {x y:Int} (h:l.length=2) (h0:l[0]? =some y) (h1:l[1]? =some x) (e:x=y):F1 l=1:=if_pos ⟨h,by rw [h0,h1,e]⟩
theorem vX {l:List Int} {x y:Int} (h:l.length=2) (h0:l[0]? =some y) (h1:l[1]? =some x) (e: ¬ x=y):F1 l=l.length:=if_neg fun q=>e (by have:=q.2; rw [h0,h1] at this; exact Option.some.inj this)
theorem FQ (a b:Int):(a=b∧F1 (iq [a,b])=1)∨(¬ a=b∧F1 (iq [a,b])=2):=by
 have hl:(iq [a,b]).length=2:=by simp
 have hp:(iq [a,b]).Perm [a,b]:=g6
 match hs:iq [a,b],hl with
 |[x,y],_=>
  rw [hs] at hp
  by_cases e:a=b
  ·subst e
   left
   refine ⟨rfl,sH rfl rfl rfl ?_⟩
   have h1:x∈[a,a]:=hp.mem_iff.1 sm
   have h2:y∈[a,a]:=hp.mem_iff.1 sm
   simp at h1 h2; omega
  ·right
   refine ⟨e,(vX (x:=y) (y:=x) rfl rfl rfl fun q=>?_).trans rfl⟩
   subst q
   have h1:=hp.nodup_iff.2 (show [a,b].Nodup by simp [e])
   simp at h1
section
variable {m left:kJ} {i n x:Int} {y:aa}
theorem ld {p:Int×aa→Bool} (hn:(left.map (·.1)).Nodup) (hm:(x,y)∈left):left.countP p=(cj left x).countP p+(if p (x,y)=true then 1 else 0):=by
 induction left with
 |nil=>cases hm
 |cons q left ih=>
  obtain ⟨a,b⟩:=q
  simp only [List.map_cons,List.nodup_cons] at hn
  rcases List.mem_cons.1 hm with e|hm
  ·cases e
   have e2:cj ((x,y)::left) x=left:=by
    unfold cj
    rw [List.filter_cons_of_neg sm]
    exact List.filter_eq_self.2 fun q hq=>by
     have:q.1≠x:=fun e=>hn.1 (e▸List.mem_map_of_mem hq)
     simpa using this
   rw [e2,List.countP_cons]
  ·have hne:a≠x:=fun e=>hn.1 (e▸List.mem_map_of_mem (f:=fun z:Int×aa=>z.1) hm)
   have e2:cj ((a,b)::left) x=(a,b)::cj left x:=by
    unfold cj
    rw [List.filter_cons_of_pos (by simpa using hne)]
   rw [e2,List.countP_cons,List.countP_cons,ih hn.2 hm]
   omega
theorem lD:ig left i n=left.countP fun p=>decide (p.2.Hi<n)&& !decide (p.1=i):=by unfold ig m0; rw [List.countP_filter]
theorem np:j1 left i n=left.countP fun p=>decide (p.2.Lo<n)&& !decide (p.1=i):=by unfold j1 m0; rw [List.countP_filter]
theorem nK (hn:(left.map (·.1)).Nodup) (hm:(x,y)∈left) (h:x=i):ig left i n=ig (cj left x) i n:=by
 rw [lD,lD,ld hn hm]; simp [h]
theorem pa (hn:(left.map (·.1)).Nodup) (hm:(x,y)∈left) (h:x=i):j1 left i n=j1 (cj left x) i n:=by
 rw [np,np,ld hn hm]; simp [h]
theorem nW (hn:(left.map (·.1)).Nodup) (hm:(x,y)∈left) (h: ¬ x=i) (hy:y.Hi<n):ig left i n=ig (cj left x) i n+1:=by
 rw [lD,lD,ld hn hm]; simp [h,hy]
theorem po (hn:(left.map (·.1)).Nodup) (hm:(x,y)∈left) (h: ¬ x=i) (hy: ¬ y.Hi<n):ig left i n=ig (cj left x) i n:=by
 rw [lD,lD,ld hn hm]; simp [h,hy]
theorem o_ (hn:(left.map (·.1)).Nodup) (hm:(x,y)∈left) (h: ¬ x=i) (hy:y.Lo<n):j1 left i n=j1 (cj left x) i n+1:=by
 rw [np,np,ld hn hm]; simp [h,hy]
theorem rM (hn:(left.map (·.1)).Nodup) (hm:(x,y)∈left) (h: ¬ x=i) (hy: ¬ y.Lo<n):j1 left i n=j1 (cj left x) i n:=by
 rw [np,np,ld hn hm]; simp [h,hy]
theorem wO:ig [] i n=0:=rfl
theorem za:j1 [] i n=0:=rfl
theorem xW:ig m i n≤m.length:=by unfold ig m0; exact Nat.le_trans List.countP_le_length (List.length_filter_le _ _)
theorem Ap:j1 m i n≤m.length:=by unfold j1 m0; exact Nat.le_trans List.countP_le_length (List.length_filter_le _ _)
end
def pE {β:Type} (m left:List (Int×β)) (ys:List Int):Prop:=(ys++left.map (·.1)).Perm (m.map (·.1))
theorem yv {β:Type} {m:List (Int×β)}:pE m m []:=List.Perm.refl _
theorem Ah {β:Type} {m:List (Int×β)} {ys:List Int} (h:pE m [] ys):ys.Perm (m.map (·.1)):=by simpa [pE] using h
theorem E4 {β:Type} {left:List (Int×β)} {x:Int} {y:β} (hn:(left.map (·.1)).Nodup) (hm:(x,y)∈left):(left.map (·.1)).Perm (x::(cj left x).map (·.1)):=by
 induction left with
 |nil=>cases hm
 |cons q left ih=>
  obtain ⟨a,b⟩:=q
  simp only [List.map_cons,List.nodup_cons] at hn
  rcases List.mem_cons.1 hm with e|hm
  ·cases e
   have e2:cj ((x,y)::left) x=left:=by
    unfold cj
    rw [List.filter_cons_of_neg sm]
    exact List.filter_eq_self.2 fun q hq=>by
     have:q.1≠x:=fun e=>hn.1 (e▸List.mem_map_of_mem hq)
     simpa using this
   rw [e2]; exact List.Perm.refl _
  ·have hne:a≠x:=fun e=>hn.1 (e▸List.mem_map_of_mem (f:=fun z:Int×β=>z.1) hm)
   have e2:cj ((a,b)::left) x=(a,b)::cj left x:=by
    unfold cj
    rw [List.filter_cons_of_pos (by simpa using hne)]
   rw [e2,List.map_cons,List.map_cons]
   exact ((ih hn.2 hm).cons a).trans (List.Perm.swap _ _ _)
theorem tH {β:Type} {m left:List (Int×β)} {ys:List Int} {x:Int} {y:β} (hn:(left.map (·.1)).Nodup) (hm:(x,y)∈left) (h:pE m left ys):pE m (cj left x) (ys++[x]):=by
 unfold pE at h ⊢
 refine List.Perm.trans ?_ h
 rw [List.append_assoc]
 exact (E4 hn hm).symm.append_left ys
theorem fZ {β:Type} {m left:List (Int×β)} {x:Int} (h: ∀ p∈left,p∈m): ∀ p∈cj left x,p∈m:=fun p hp=>h p (jS.1 hp).1
theorem lI {m:kJ} {i:Int} (h: ∀ p∈m,0≤p.2.Lo∧p.2.Lo≤p.2.Hi∧p.2.Hi≤30000000):0≤(aC m i).Lo∧(aC m i).Lo≤(aC m i).Hi∧(aC m i).Hi≤30000000:=by
 unfold aC
 cases e:m.lookup i with
 |none=>simp [cK]
 |some v=>
  have hm:(i,v)∈m:=by
   clear h
   induction m with
   |nil=>cases e
   |cons p m ih=>
    obtain ⟨a,b⟩:=p
    by_cases c:i=a
    ·subst c; simp [List.lookup] at e; subst e; exact cZ
    ·have:(i==a)=false:=by simpa using c
     simp only [List.lookup,this] at e
     exact dY _ (ih e)
  simpa using h _ hm
/-- not reached by the numbers so far -/
def sZ (m:kJ) (i:Int) (ys:List Int) (k:Int):Prop:=(1≤k∧k≤(m.length:Int))∧ ∀ n∈ys,¬ ((ig m i n:Int)+1≤k∧k≤(j1 m i n:Int)+1)
section
variable {m:kJ} {i:Int} {own:aa} {ys:List Int} {nev ranks:pB} {n a b:Int}
theorem Fj (h:iB nev fun k=>1≤k∧k≤(m.length:Int)):iB nev (sZ m i []):=h.wh fun k=>⟨fun h=>⟨h,fun n hn=>by cases hn⟩,fun h=>h.1⟩
theorem Gb (ha:a=(ig m i n:Int)+1) (hb:b=(j1 m i n:Int)+1) (h:iB nev fun q=>sZ m i ys q∧ ¬ (a≤q∧q≤b)):iB nev (sZ m i (ys++[n])):=by
 subst ha hb
 refine h.wh fun k=>?_
 unfold sZ
 constructor
 ·rintro ⟨⟨h1,h2⟩,h3⟩
  refine ⟨h1,fun x hx=>?_⟩
  rcases List.mem_append.1 hx with hx|hx
  ·exact h2 x hx
  ·rw [bU] at hx; subst hx; exact h3
 ·rintro ⟨h1,h2⟩
  exact ⟨⟨h1,fun x hx=>h2 x (List.mem_append_left _ hx)⟩,h2 n sm⟩
theorem Aj {P:Int→Prop} {k:Int} (hk:a≤k) (h:iB nev fun q=>P q∧ ¬ (a≤q∧q<k)):iB (cj nev k) fun q=>P q∧ ¬ (a≤q∧q<k+1):=
 (zy (k:=k) h).wh fun q=>by
  constructor
  ·rintro ⟨⟨h1,h2⟩,h3⟩; exact ⟨h1,fun ⟨q1,q2⟩=>h2 ⟨q1,om⟩⟩
  ·rintro ⟨h1,h2⟩; exact ⟨⟨h1,fun ⟨q1,q2⟩=>h2 ⟨q1,om⟩⟩,fun e=>h2 ⟨om,om⟩⟩
theorem Cw (hall: ∀ n,n∈ys↔n∈jW m i own) {k:Int} (hk:1≤k∧k≤(m.length:Int)): ¬ sZ m i ys k↔sv m i own k:=by
 unfold sZ sv
 constructor
 ·intro h
  refine Classical.byContradiction fun q=>h ⟨hk,fun n hn hc=>q ⟨n,(hall n).1 hn,hc.1,hc.2⟩⟩
 ·rintro ⟨n,hn,h1,h2⟩ h
  exact h.2 n ((hall n).2 hn) ⟨h1,h2⟩
/-- the ranks, from what is left of the map -/
theorem AS (hi:m.lookup i≠none) (hall: ∀ n,n∈ys↔n∈jW m i own) (h:iB ranks fun k=>(1≤k∧k≤(m.length:Int))∧ ¬ sZ m i ys k):iq (ranks.map (·.1))=iI m i own:=by
 refine qc l9 ?_ ((g6 (l:=ranks.map (·.1))).nodup_iff.2 h.1) ?_ fun k=>?_
 ·unfold iI
  refine List.Pairwise.filter _ ?_
  rw [List.pairwise_map]
  exact List.pairwise_lt_range.imp fun h=>by omega
 ·unfold iI
  refine List.Pairwise.filter _ ?_
  rw [List.pairwise_map]
  exact List.pairwise_lt_range.imp fun h=>by omega
 ·rw [(g6 (l:=ranks.map (·.1))).mem_iff,h.2 k,Dx hi]
  constructor
  ·rintro ⟨h1,h2⟩; exact (Cw hall h1).1 h2
  ·intro h1
   have hk:1≤k∧k≤(m.length:Int):=by
    obtain ⟨n,_,h2,h3⟩:=h1
    have:=ye hi (x:=n)
    omega
   exact ⟨hk,(Cw hall hk).2 h1⟩
end
section
variable {nw left rk:pB} {N R:Int→Prop} {u:Int} {v:Bool}
theorem Hu (hl: ∀ p∈left,p∈nw) (hk:iB nw N) (hm:(u,v)∈left) (h:iB rk fun w=>R w∧ ¬ (N w∧w ∉ left.map (·.1))):iB (cj rk u) fun w=>R w∧ ¬ (N w∧w ∉ (cj left u).map (·.1)):=
 (zy (k:=u) h).wh fun w=>by
  have hd:w∈(cj left u).map (·.1)↔w∈left.map (·.1)∧w≠u:=by
   constructor
   ·intro q
    obtain ⟨p,hp,rfl⟩:=List.mem_map.1 q
    exact ⟨List.mem_map_of_mem (jS.1 hp).1,(jS.1 hp).2⟩
   ·rintro ⟨q1,q2⟩
    obtain ⟨p,hp,rfl⟩:=List.mem_map.1 q1
    exact List.mem_map_of_mem (jS.2 ⟨hp,q2⟩)
  constructor
  ·rintro ⟨⟨h1,h2⟩,h3⟩
   exact ⟨h1,fun q=>h2 ⟨q.1,fun z=>q.2 (hd.2 ⟨z,h3⟩)⟩⟩
  ·rintro ⟨h1,h2⟩
   refine ⟨⟨h1,fun q=>h2 ⟨q.1,fun z=>q.2 (hd.1 z).1⟩⟩,fun e=>h2 ⟨?_,fun z=>(hd.1 z).2 e⟩⟩
   subst e
   exact (hk.2 _).1 (List.mem_map_of_mem (f:=fun z:Int×Bool=>z.1) (hl _ hm))
theorem En {n:Nat} (h:iB rk R) (hR: ∀ k,R k→1≤k∧k≤(n:Int)):rk.length≤n:=by
 have hp:((List.range n).map fun (k:Nat)=>(k:Int)+1).Pairwise (· < ·):=by
  rw [List.pairwise_map]
  exact List.pairwise_lt_range.imp fun h=>by omega
 have e:iq (rk.map (·.1))=((List.range n).map fun (k:Nat)=>(k:Int)+1).filter fun k=>decide (k∈rk.map (·.1)):=by
  refine qc l9 ((hp.filter _).imp fun h=>by omega) ((g6 (l:=rk.map (·.1))).nodup_iff.2 h.1) ((hp.filter _).imp fun h=>by omega) fun k=>?_
  rw [(g6 (l:=rk.map (·.1))).mem_iff,List.mem_filter,decide_eq_true_eq]
  refine ⟨fun q=>⟨?_,q⟩,fun q=>q.2⟩
  have:=hR k ((h.2 k).1 q)
  exact List.mem_map.2 ⟨(k-1).toNat,List.mem_range.2 om,om⟩
 have h2:=congrArg List.length e
 have h3:=List.length_filter_le (fun k=>decide (k∈rk.map (·.1))) ((List.range n).map fun (k:Nat)=>(k:Int)+1)
 rw [ow,List.length_map] at h2
 rw [List.length_map,List.length_range] at h3
 omega
end
section
variable {m left:kJ} {i x n:Int} {own y:aa} {ys:List Int}
/-- what was told so far: all of those who are not left -/
def xq (m:kJ) (i:Int) (own:aa) (left:kJ) (ys:List Int):Prop:=(∀ n∈ys,n∈jW m i own)∧own.Lo∈ys∧ ∀ p∈m,p.1≠i→p ∉ left→ ∀ n∈[p.2.Lo+1,p.2.Hi+1],own.Lo≤n∧n≤own.Hi→n∈ys
theorem fU {p:Int×aa} (hp:p∈m) (hi:p.1≠i) (hn:n=p.2.Lo+1∨n=p.2.Hi+1) (hb:own.Lo≤n∧n≤own.Hi):n∈jW m i own:=
 dY _ (List.mem_filter.2 ⟨List.mem_flatMap.2 ⟨p,List.mem_filter.2 ⟨hp,by simpa using hi⟩,by simpa using hn⟩,bW hb⟩)
theorem Gg:xq m i own m [own.Lo]:=⟨fun n hn=>by rw [bU] at hn; subst hn; exact cZ,sm,fun p hp _ hl=>absurd hp hl⟩
theorem Hc (h:xq m i own [] ys) (n:Int):n∈ys↔n∈jW m i own:=by
 refine ⟨h.1 n,fun hn=>?_⟩
 rcases List.mem_cons.1 hn with rfl|hn
 ·exact h.2.1
 ·obtain ⟨h1,h2⟩:=List.mem_filter.1 hn
  obtain ⟨p,hp,hx⟩:=List.mem_flatMap.1 h1
  obtain ⟨hp1,hp2⟩:=List.mem_filter.1 hp
  exact h.2.2 p hp1 (by simpa using hp2) sm n hx (of_decide_eq_true h2)
theorem kE {ys':List Int} (hm:(left.map (·.1)).Nodup) (hx:(x,y)∈left) (hl: ∀ p∈left,p∈m) (h:xq m i own left ys) (hs: ∀ n∈ys,n∈ys') (hn: ∀ n∈ys',n∈ys∨n∈jW m i own)
 (hy:x≠i→ ∀ n∈[y.Lo+1,y.Hi+1],own.Lo≤n∧n≤own.Hi→n∈ys'):xq m i own (cj left x) ys':=by
 refine ⟨fun n hn2=>?_,hs _ h.2.1,fun p hp hi hl2 n hn2 hb=>?_⟩
 ·rcases hn n hn2 with q|q
  ·exact h.1 n q
  ·exact q
 ·by_cases e:p∈left
  ·have e1:p.1=x:=by
    refine Classical.byContradiction fun q=>hl2 (jS.2 ⟨e,q⟩)
   have e2:p=(x,y):=by
    obtain ⟨p1,p2⟩:=p
    simp only at e1; subst e1
    have h1:=(jJ hm).1 e
    have h2:=(jJ hm).1 hx
    rw [h1] at h2; cases h2; rfl
   subst e2
   exact hy hi n hn2 hb
  ·exact hs n (h.2.2 p hp hi e n hn2 hb)
end
section
variable {r:dg} {h i:Int} {ht:List aS} {d:aS}
end
theorem jl {r:dg} {i:Int} (h: ¬ nt r i=0):iJ r i=[]:=if_neg h
theorem xh {r:dg} {i:Int} (h:nt r i=0):iJ r i=iI (aJ r) i (aC (aJ r) i):=if_pos h
end
section
open Go.RowKit
def iw (b:Bool):List Value:=[.bool b]
@[simp] theorem xX (b:Bool):(iw b).length=1:=rfl
theorem CF (l:List Bool): ∀ v∈(l.map iw).flatten,v.oneCell'=true:=rv (fun s=>rfl) l
end
section
def lv (r:dg) (i:Nat):Prop:= ∀ (j:Nat) x,j<i→r.ay[j]? =some x→ ¬ nU x
def mx (x:List aS) (i:Nat):Prop:= ∀ (j:Nat) d,j<i→x[j]? =some d→ ¬ 15<(d.bP.ag.length:Int)
section
variable {r:dg} {i:Nat} {x:List aS} {d:aS}
theorem yS:lv r 0:=fun j x hj=>absurd hj (Nat.not_lt_zero _)
theorem yE (h:lv r i) (hx:r.ay[i]? =some x) (ho: ¬ nU x):lv r (i+1):=fun j y hj hy=>by
 rcases Nat.lt_or_ge j i with q|q
 ·exact h j y q hy
 ·obtain rfl:j=i:=by omega
  rw [hx] at hy; cases hy; exact ho
theorem zr:mx x 0:=fun j x hj=>absurd hj (Nat.not_lt_zero _)
theorem zJ (h:mx x i) (hx:x[i]? =some d) (ho: ¬ 15<(d.bP.ag.length:Int)):mx x (i+1):=fun j y hj hy=>by
 rcases Nat.lt_or_ge j i with q|q
 ·exact h j y q hy
 ·obtain rfl:j=i:=by omega
  rw [hx] at hy; cases hy; exact ho
theorem AY (hl: ¬ 8<(x.length:Int)) (h:mx x i) (hi:x.length≤i): ¬ nU x:=by
 rintro (q|⟨d,hd,q⟩)
 ·exact hl q
 ·obtain ⟨j,hj⟩:=List.getElem?_of_mem hd
  exact h j d (by have:=(List.getElem?_eq_some_iff.1 hj).1; omega) hj q
theorem k9 (h1: ¬ lV r.aD) (h2: ¬ 8<(r.aF.length:Int)∧ ¬ 8<(r.cG.length:Int)∧ ¬ 5<(r.ay.length:Int)) (h:lv r i) (hi:r.ay.length≤i): ¬ oq r:=by
 rintro ((q|q)|⟨x,hx,q⟩)
 ·exact h1 q
 ·omega
 ·obtain ⟨j,hj⟩:=List.getElem?_of_mem hx
  exact h j x (by have:=(List.getElem?_eq_some_iff.1 hj).1; omega) hj q
theorem fY (h:lV r.aD∨8<(r.aF.length:Int)∨8<(r.cG.length:Int)∨5<(r.ay.length:Int)):oq r:= .inl h
theorem jC (hx:r.ay[i]? =some x) (h:8<(x.length:Int)):oq r:= .inr ⟨x,aw hx,.inl h⟩
theorem kj {j:Nat} (hx:r.ay[i]? =some x) (hd:x[j]? =some d) (h:15<(d.bP.ag.length:Int)):oq r:= .inr ⟨x,aw hx,.inr ⟨d,aw hd,h⟩⟩
end
noncomputable def km (l:aV) (d:aS):aa:=if d.Out=true then cK else e_ l d
theorem Gc {l:aV} {d:aS} (h:fD l d):km l d=e_ l d:=by
 unfold km
 split
 ·rename_i q
  rw [BE q]
  rw [pc q] at h
  exact h.2.1.symm
 ·rfl
theorem yc {l:aV} {d:aS} (h:d.Out=true):km l d=cK:=if_pos h
theorem By {l:aV} {d:aS} (h:d.Out=false∧d.dM=true):km l d=d.Time:=by unfold km; rw [if_neg (by rw [h.1]; decide),BK h]
theorem BZ {l:aV} {d:aS} (h:d.Out=false∧d.dM=false):km l d=kv l d.bP:=by unfold km; rw [if_neg (by rw [h.1]; decide),Cd h]
def Mx (r:dg) (j:Nat):Prop:= ∀ x,r.aF[j]? =some x→(0≤x∧x≤9999)∧ ∀ y,0<j→r.aF[j-1]? =some y→y<x
def Fu (r:dg) (j:Nat):Prop:= ∀ x,r.cG[j]? =some x→(0≤x∧x≤(r.aF.length:Int)-1)∧ ∀ (k:Nat) y,k<j→r.cG[k]? =some y→y≠x
def uV (r:dg) (i:Nat):Prop:= ∀ j,j<i→Mx r j∧Fu r j
section
variable {r:dg} {i k:Nat} {x:Int}
theorem EJ:uV r 0:=fun j hj=>absurd hj (Nat.not_lt_zero _)
theorem ze (h:uV r i) (h1:Mx r i) (h2:Fu r i):uV r (i+1):=fun j hj=>by
 rcases Nat.lt_or_ge j i with q|q
 ·exact h j q
 ·obtain rfl:j=i:=by omega
  exact ⟨h1,h2⟩
theorem vb {l:List Int} {u v:Int} (h: ∀ (q:Nat) y,q<k→l[q]? =some y→y≠v) (hx:l[k]? =some u) (hne: ¬ u=v): ∀ (q:Nat) y,q<k+1→l[q]? =some y→y≠v:=fun q y hq hy=>by
 rcases Nat.lt_or_ge q k with c|c
 ·exact h q y c hy
 ·obtain rfl:q=k:=by omega
  rw [hx] at hy; cases hy; exact hne
theorem Fg (hl:r.cG.length=r.aF.length) (h:uV r r.aF.length):r.cG.Perm (Dy r.aF.length):=by
 have nd:r.cG.Nodup:=by
  rw [List.nodup_iff_pairwise_ne,m6]
  intro a b ha hb hab
  exact ((h b om).2 _ (gv hb)).2 a _ hab (gv ha)
 have hm: ∀ x∈r.cG,x∈Dy r.aF.length:=fun x hx=>by
  obtain ⟨j,hj⟩:=List.getElem?_of_mem hx
  have:=((h j (by have:=(List.getElem?_eq_some_iff.1 hj).1; omega)).2 x hj).1
  exact List.mem_map.2 ⟨x.toNat,List.mem_range.2 om,om⟩
 have ndu:(Dy r.aF.length).Nodup:=by
  unfold Dy
  rw [List.nodup_iff_pairwise_ne,List.pairwise_map]
  exact List.pairwise_lt_range.imp fun h=>by omega
 have e:iq r.cG=(Dy r.aF.length).filter fun x=>decide (x∈r.cG):=by
  refine qc l9 ((vW _).filter _) (g6.nodup_iff.2 nd) (ndu.filter _) fun x=>?_
  rw [g6.mem_iff,List.mem_filter,decide_eq_true_eq]
  exact ⟨fun q=>⟨hm x q,q⟩,fun q=>q.2⟩
 have e2:=congrArg List.length e
 rw [ow,hl] at e2
 have e3:(Dy r.aF.length).filter (fun x=>decide (x∈r.cG))=Dy r.aF.length:=List.filter_sublist.eq_of_length (by rw [← e2]; simp)
 rw [e3] at e
 rw [← e]; exact g6.symm
theorem CK {n:Nat} (h1:1≤(r.aF.length:Int)∧(r.aF.length:Int)≤5) (h2:r.cG.length=r.aF.length) (h3:0≤r.qV∧r.qV≤5) (h4:1≤(r.ay.length:Int)∧(r.ay.length:Int)≤3)
 (hn:n=r.aF.length) (h6:uV r n) (h7:iS r i) (hi:r.ay.length≤i):bR r:=by
 subst hn
 refine ⟨h1,h3,h4,fun k x hx=>(h6 k (List.getElem?_eq_some_iff.1 hx).1).1 x hx,Fg h2 h6,fun h hh=>?_⟩
 obtain ⟨j,hj⟩:=List.getElem?_of_mem hh
 exact h7 j h (by have:=(List.getElem?_eq_some_iff.1 hj).1; omega) hj
theorem bR.lY (h:bR r) (hx:r.cG[i]? =some x):0≤x∧x≤(r.aF.length:Int)-1:=by
 obtain ⟨k,hk,rfl⟩:=List.mem_map.1 (h.draw.mem_iff.1 (aw hx))
 have:=List.mem_range.1 hk
 omega
theorem bR.Jr (h:bR r):r.cG.Nodup:=by
 refine h.draw.nodup_iff.2 ?_
 rw [List.nodup_iff_pairwise_ne,List.pairwise_map]
 exact List.pairwise_lt_range.imp fun h=>by omega
theorem bR.lW (h:bR r) {u v:Int} (hki:k<i) (hu:r.cG[k]? =some u) (hv:r.cG[i]? =some v): ¬ u=v:=by
 have h1:=h.Jr
 rw [List.nodup_iff_pairwise_ne,m6] at h1
 obtain ⟨a,ea⟩:=List.getElem?_eq_some_iff.1 hu
 obtain ⟨b,eb⟩:=List.getElem?_eq_some_iff.1 hv
 subst ea eb
 exact h1 k i a b hki
end
noncomputable def fM (r:dg) (k:Nat):kJ:=(List.range k).filterMap fun q=>(dz r.aD r.ay q r.ay.length).map fun s=>((q:Int),s)
section
variable {r:dg} {i k n:Nat} {s:aa} {l:aV} {hs:List (List aS)}
theorem qy (h:dz l hs i k=none): ∀ {n:Nat},k≤n→dz l hs i n=none
 |0,hn=>by
  obtain rfl:k=0:=by omega
  exact h
 |n+1,hn=>by
  by_cases e:k=n+1
  ·subst e; exact h
  ·exact qs (qy h (n:=n) om)
theorem kZ:fM r r.aF.length=aJ r:=rfl
theorem u0:fM r (k+1)=fM r k++(match dz r.aD r.ay k r.ay.length with |some s=>[((k:Int),s)]|none=>[]):=by
 unfold fM
 rw [List.range_succ,List.filterMap_append]
 cases h:dz r.aD r.ay k r.ay.length with
 |none=>simp [h]
 |some s=>simp [h]
theorem yq (h:dz r.aD r.ay k r.ay.length=none):fM r (k+1)=fM r k:=by rw [u0,h]; simp
theorem qw (h:dz r.aD r.ay k r.ay.length=some s):fM r (k+1)=fM r k++[((k:Int),s)]:=by rw [u0,h]
theorem uD {q:Nat}:(fM r k).lookup (q:Int)=if q<k then dz r.aD r.ay q r.ay.length else none:=p_ _ _
theorem CP (h:dz r.aD r.ay k r.ay.length=some s):eg (fM r k) (k:Int) s=fM r (k+1):=by
 have h1:(fM r k).lookup (k:Int)=none:=by rw [uD,if_neg (Nat.lt_irrefl k)]
 unfold eg
 rw [h1,qw h]
 simp
theorem vk (hk:k<r.aF.length):(aJ r).lookup (k:Int)=dz r.aD r.ay k r.ay.length:=by
 rw [← kZ,uD,if_pos hk]
theorem dk {a:Int} (ha:0≤a∧a≤(r.aF.length:Int)-1):(aJ r).lookup a=dz r.aD r.ay a.toNat r.ay.length:=by
 have:=vk (r:=r) (k:=a.toNat) om
 rwa [show ((a.toNat:Nat):Int)=a by omega] at this
theorem ia {a:Int} (ha:0≤a∧a≤(r.aF.length:Int)-1):(dz r.aD r.ay a.toNat r.ay.length).getD cK=aC (aJ r) a:=by unfold aC; rw [dk ha]
theorem mN {a x:Int} (h:dz r.aD r.ay k r.ay.length=none):ig (fM r (k+1)) a x=ig (fM r k) a x∧j1 (fM r (k+1)) a x=j1 (fM r k) a x:=by rw [yq h]; exact ⟨rfl,rfl⟩
theorem mm {a x:Int} (ha:(k:Int)=a):ig (fM r (k+1)) a x=ig (fM r k) a x∧j1 (fM r (k+1)) a x=j1 (fM r k) a x:=by
 cases h:dz r.aD r.ay k r.ay.length with
 |none=>exact mN h
 |some s=>rw [qw h,lD,lD,np,np,List.countP_append,List.countP_append]; simp [ha]
theorem hH {a x:Int} (h:dz r.aD r.ay k r.ay.length=some s) (ha: ¬ (k:Int)=a):ig (fM r (k+1)) a x=ig (fM r k) a x+(if s.Hi<x then 1 else 0)∧j1 (fM r (k+1)) a x=j1 (fM r k) a x+(if s.Lo<x then 1 else 0):=by
 rw [qw h,lD,lD,np,np,List.countP_append,List.countP_append]
 constructor<;>congr 1<;>split<;>simp [*]
theorem w9:(fM r k).length≤k:=by
 unfold fM
 refine Nat.le_trans (List.length_filterMap_le _ _) ?_
 rw [List.length_range]; exact Nat.le_refl _
end
def yK (r:dg) (i:Int) (own:aa) (k:Nat) (ys:List Int):Prop:=(∀ n∈ys,n∈jW (aJ r) i own)∧own.Lo∈ys∧ys.length≤2*k+1∧ ∀ (q:Nat) s,q<k→q<r.aF.length→dz r.aD r.ay q r.ay.length=some s→(q:Int)≠i→ ∀ n∈[s.Lo+1,s.Hi+1],own.Lo≤n∧n≤own.Hi→n∈ys
section
variable {r:dg} {i x:Int} {own s:aa} {k:Nat} {ys zs:List Int}
theorem DX:yK r i own 0 [own.Lo]:=⟨fun n hn=>by rw [bU] at hn; subst hn; exact cZ,sm,sm,fun q s hq=>absurd hq (Nat.not_lt_zero _)⟩
theorem E2 (hk:k<r.aF.length) (hs:dz r.aD r.ay k r.ay.length=some s) (hi: ¬ (k:Int)=i) (hn:x=s.Lo+1∨x=s.Hi+1) (hb:own.Lo≤x∧x≤own.Hi):x∈jW (aJ r) i own:=by
 refine fU (p:=((k:Int),s)) ?_ hi hn hb
 rw [← kZ]
 unfold fM
 exact List.mem_filterMap.2 ⟨k,List.mem_range.2 hk,by rw [hs]; rfl⟩
theorem mz (h:yK r i own k ys) (hs:dz r.aD r.ay k r.ay.length=none∨(k:Int)=i):yK r i own (k+1) ys:=by
 refine ⟨h.1,h.2.1,by have:=h.2.2.1; omega,fun q s hq hn e hi n hn2 hb=>?_⟩
 rcases Nat.lt_or_ge q k with c|c
 ·exact h.2.2.2 q s c hn e hi n hn2 hb
 ·obtain rfl:q=k:=by omega
  rcases hs with hs|hs
  ·rw [hs] at e; cases e
  ·exact absurd hs hi
theorem mj (h:yK r i own k ys) (hk:k<r.aF.length) (hs:dz r.aD r.ay k r.ay.length=some s) (hi: ¬ (k:Int)=i) (hz:zs.length≤2) (hin: ∀ n∈zs,(n=s.Lo+1∨n=s.Hi+1)∧own.Lo≤n∧n≤own.Hi)
 (hall: ∀ n∈[s.Lo+1,s.Hi+1],own.Lo≤n∧n≤own.Hi→n∈zs):yK r i own (k+1) (ys++zs):=by
 refine ⟨fun n hn=>?_,List.mem_append_left _ h.2.1,by rw [List.length_append]; have:=h.2.2.1; omega,fun q u hq hn e hi2 n hn2 hb=>?_⟩
 ·rcases List.mem_append.1 hn with hn|hn
  ·exact h.1 n hn
  ·exact E2 hk hs hi (hin n hn).1 (hin n hn).2
 ·rcases Nat.lt_or_ge q k with c|c
  ·exact List.mem_append_left _ (h.2.2.2 q u c hn e hi2 n hn2 hb)
  ·obtain rfl:q=k:=by omega
   rw [hs] at e; cases e
   exact List.mem_append_right _ (hall n hn2 hb)
theorem EF (h:yK r i own k ys) (hk:r.aF.length≤k) (n:Int):n∈ys↔n∈jW (aJ r) i own:=by
 refine ⟨h.1 n,fun hn=>?_⟩
 rcases List.mem_cons.1 hn with rfl|hn
 ·exact h.2.1
 ·obtain ⟨h1,h2⟩:=List.mem_filter.1 hn
  obtain ⟨p,hp,hx⟩:=List.mem_flatMap.1 h1
  obtain ⟨hp1,hp2⟩:=List.mem_filter.1 hp
  obtain ⟨q,hq,e1,e2⟩:=wH (r:=r) hp1
  exact h.2.2.2 q p.2 om hq e2 (by rw [← e1]; simpa using hp2) n hx (of_decide_eq_true h2)
end
def nS (B:List Bool) (P:Int→Prop):Prop:= ∀ (k:Nat) b,B[k]? =some b→(b=true↔P (k:Int))
def og (m:kJ) (i:Int) (ys:List Int) (x:Nat) (q:Int):Prop:= ∃ j,j<x∧ ∃ y,ys[j]? =some y∧(ig m i y:Int)+1≤q∧q≤(j1 m i y:Int)+1
noncomputable def pw (P:Int→Prop) (k:Nat):List Int:=((List.range k).map fun (q:Nat)=>(q:Int)+1).filter fun k=> @decide (P k) (Classical.propDecidable _)
section
variable {B:List Bool} {P Q:Int→Prop} {k x:Nat} {m:kJ} {i y a b:Int} {ys:List Int}
theorem r9 (h:nS B P) (e: ∀ k:Nat,P (k:Int)↔Q (k:Int)):nS B Q:=fun k b hb=>(h k b hb).trans (e k)
theorem Fk {n:Nat}:nS (List.replicate n false) (og m i ys 0):=fun k b hb=>by
 have:b=false:=(List.mem_replicate.1 (aw hb)).2
 subst this
 exact ⟨fun q=>(by cases q),fun ⟨j,hj,_⟩=>absurd hj (Nat.not_lt_zero _)⟩
theorem H4 (h:nS B P):nS (B.set k true) fun q=>P q∨q=(k:Int):=fun j b hb=>by
 by_cases e:j=k
 ·subst e
  have hl:j<B.length:=by have:=(List.getElem?_eq_some_iff.1 hb).1; simpa using this
  rw [List.getElem?_set_self hl] at hb
  cases hb
  exact ⟨fun _=> .inr rfl,fun _=>rfl⟩
 ·rw [List.getElem?_set_ne (fun q=>e q.symm)] at hb
  refine (h j b hb).trans ⟨.inl,fun q=>q.elim id fun q=>absurd q om⟩
theorem Fc (ha:a=(ig m i y:Int)) (hb:b=(j1 m i y:Int)) (hy:ys[x]? =some y) (h:nS B fun q=>og m i ys x q∨(a+1≤q∧q≤b+1)):nS B (og m i ys (x+1)):=by
 subst ha hb
 refine r9 h fun k=>?_
 constructor
 ·rintro (⟨j,hj,q⟩|q)
  ·exact ⟨j,om,q⟩
  ·exact ⟨x,om,y,hy,q⟩
 ·rintro ⟨j,hj,z,hz,q⟩
  rcases Nat.lt_or_ge j x with c|c
  ·exact .inl ⟨j,c,z,hz,q⟩
  ·obtain rfl:j=x:=by omega
   rw [hy] at hz; cases hz
   exact .inr q
theorem Jc {p:Prop} {s u:Int} {z:Nat} (hz:s≤(z:Int)):((p∨(s+1≤u∧u≤(z:Int)))∨u=((z+1:Nat):Int))↔(p∨(s+1≤u∧u≤((z+1:Nat):Int))):=by
 constructor
 ·rintro ((q|q)|q)
  ·exact .inl q
  ·exact .inr om
  ·exact .inr om
 ·rintro (q|q)
  ·exact .inl (.inl q)
  ·by_cases e:u=((z+1:Nat):Int)
   ·exact .inr e
   ·exact .inl (.inr om)
theorem xL {b:Bool} (h:nS B P) (hb:B[k+1]? =some b):b=true↔P ((k:Int)+1):=h _ b hb
theorem zU (h:P ((k:Int)+1)):pw P (k+1)=pw P k++[(k:Int)+1]:=by unfold pw; rw [List.range_succ,List.map_append,List.filter_append]; simp [h]
theorem HV (h: ¬ P ((k:Int)+1)):pw P (k+1)=pw P k:=by unfold pw; rw [List.range_succ,List.map_append,List.filter_append]; simp [h]
theorem yl:(pw P k).length≤k:=by
 unfold pw
 refine Nat.le_trans (List.length_filter_le _ _) ?_
 rw [List.length_map,List.length_range]; exact Nat.le_refl _
theorem oB {n:Nat}:((List.range n).map fun (q:Nat)=>(q:Int)+1).Pairwise (· < ·):=by
 rw [List.pairwise_map]
 exact List.pairwise_lt_range.imp fun h=>by omega
theorem AD {own:aa} {n:Nat} (hi:m.lookup i≠none) (hn:m.length≤n) (hx:ys.length≤x) (hall: ∀ n,n∈ys↔n∈jW m i own):pw (og m i ys x) n=iI m i own:=by
 unfold pw iI
 refine qc ((oB.filter _).imp fun h=>by omega) ((oB.filter _).imp fun h=>by omega) ((oB.filter _).imp fun h=>by omega) ((oB.filter _).imp fun h=>by omega) fun k=>?_
 have e: ∀ k,og m i ys x k↔sv m i own k:=fun k=>by
  constructor
  ·rintro ⟨j,_,y,hy,q⟩; exact ⟨y,(hall y).1 (aw hy),q⟩
  ·rintro ⟨y,hy,q⟩
   obtain ⟨j,hj⟩:=List.getElem?_of_mem ((hall y).2 hy)
   exact ⟨j,by have:=(List.getElem?_eq_some_iff.1 hj).1; omega,y,hj,q⟩
 constructor
 ·intro h
  obtain ⟨h1,h2⟩:=List.mem_filter.1 h
  have h2:=(e k).1 (@of_decide_eq_true _ (Classical.propDecidable _) h2)
  refine List.mem_filter.2 ⟨?_,bW h2⟩
  obtain ⟨y,_,h3,h4⟩:=h2
  have:=ye hi (x:=y)
  exact List.mem_map.2 ⟨(k-1).toNat,List.mem_range.2 om,om⟩
 ·intro h
  obtain ⟨h1,h2⟩:=List.mem_filter.1 h
  have h2:=(e k).2 (of_decide_eq_true h2)
  refine List.mem_filter.2 ⟨?_,@decide_eq_true _ (Classical.propDecidable _) h2⟩
  obtain ⟨q,hq,rfl⟩:=List.mem_map.1 h1
  exact List.mem_map.2 ⟨q,List.mem_range.2 (by have:=List.mem_range.1 hq; omega),rfl⟩
end
noncomputable def gJ (r:dg) (a b x:Int):aa:=if ku r a b=0 then aC (aJ r) x else cK
theorem ug {r:dg} {a b:Int} (h:ku r a b=0) (x:Int):gJ r a b x=aC (aJ r) x:=if_pos h
theorem Ig {r:dg} {a b:Int} (h:ku r a b=0):vl r a b=xQ (gJ r a b a) (gJ r a b b):=by rw [ug h,ug h]; exact if_pos h
theorem tP {r:dg} {a b:Int} (h:ku r a b=0):kp r a b=ko (gJ r a b a) (gJ r a b b):=by rw [ug h,ug h]; exact if_pos h
theorem Bq {r:dg} {i:Int}:(iJ r i).length≤r.aF.length:=by
 unfold iJ
 split
 ·unfold iI
  refine Nat.le_trans (List.length_filter_le _ _) ?_
  rw [List.length_map,List.length_range]
  exact xw
 ·simp
end
section
open Go.RowKit
section
variable {K:Type} [DecidableEq K] {kV:K→Value}
variable {E:e9} {ops:Array Oper} {Q:dj} {rest:List Oper} {D:List Deferred} {L:List (Nat×Value)} {C:List aq}
variable {ty:TypeId} {ps:String} {af:Array Edge} {g:Option (Nat×Bool)}
theorem oJ {t kt et:TypeId} {xm xk:Operand} {ts:Array TypeId} {b:Nat} {x:K} {m m':List (K×Value)} {C':List aq} (i:Nat) (hg:ju ops L g=true) (hm:ev L xm=some (.map (some b))) (hk:ev L xk=some (kV x)) (hts:ts[0]? =some t)
 (ht:E.P.underlying t=some (.map kt et)) (hkt:sV E.P kt kV) (hC:C[i]? =some (gQ kV b m)) (hm':cj m x=m') (hC':C.set i (gQ kV b m')=C') (k:RJ E ops Q rest D L C'):
 RJ E ops Q (⟨none,.call {callee:= .builtin .delete,args:= #[xm,xk],argTypes:=ts},ty,ps,af,g⟩::rest) D L C:=by
 subst hm' hC'
 intro a w hfr hs
 unfold qf
 rw [if_pos (dH hfr hg)]
 obtain ⟨es,c,he,hi⟩:=hs.holds _ (aw hC)
 have hget:(getObj b).run E.P w= .ok (.map es c) w:=MapKept.run_getObj_map he
 rcases nR (P:=E.P) (w:=w) (x:=x) hkt hi with ⟨h1,h2⟩|⟨j,v0,h1,h2,h3⟩
 ·refine gz (v:= .tuple #[]) (w':={w with heap:=w.heap.setIfInBounds b (.map es c)}) sm ?_ ?_
  ·simp [execOp,resolve,invoke,builtin,hfr.ev hm,hfr.ev hk,Builtin.delete_,hts,run_underlying ht,hget,iu hkt,h1,MapKept.run_setObj_map _ he]
  ·refine k _ _ ⟨hfr.defers,hfr.size,hfr.at_⟩ (hs.zK (b:=b) i hC rfl rfl (mq _) (fun _ h=>h) ⟨_,_,nZ he,?_⟩)
   rw [Aa h2]; exact hi
 ·refine gz (v:= .tuple #[]) (w':={w with heap:=w.heap.setIfInBounds b (.map (es.eraseIdxIfInBounds j) c)}) sm ?_ ?_
  ·simp [execOp,resolve,invoke,builtin,hfr.ev hm,hfr.ev hk,Builtin.delete_,hts,run_underlying ht,hget,iu hkt,h1,MapKept.run_setObj_map _ he]
  ·exact k _ _ ⟨hfr.defers,hfr.size,hfr.at_⟩ (hs.zK (b:=b) i hC rfl rfl (mq _) (fun _ h=>h) ⟨_,_,nZ he,hi.del h2⟩)
end
end
end Go.Proofs.YtcoejkiaokbmpaaGreatDoor
