/-
 The statement beamRides_said, part 2 of 6: Sort, Ptr, Short, MapK, Watch, Passes, Keys, MapR, RangeG, Grow, Nest, WMaps, NestS, Frozen, MarkD, Marks, WBounds, PassG, Drop, Spot, First, Line, Wrap, Goes, OpenW, Wheres, Follow, OpenM, LineR, WLe, Ends5, Can, False, Sim, Told, Clear.
 Conditions: none.
-/
import Derived.Test.YthiigjekcdjkkaaGreatRd1
import Derived.WideKeyRuns
namespace Go.Proofs.YthiigjekcdjkkaaGreat
section
open Go.RowKit
set_option linter.unusedVariables false
theorem uV {n:Int} (h:0≤n∧n≤18446744073709551615):IntKind.u64.wrap n=n:=by
 have e:IntKind.u64.wrap n=n % 18446744073709551616:=by simp [IntKind.wrap,IntKind.bits,IntKind.signed]
 rw [e]; omega
theorem wc {n:Int} (h:0≤n∧n≤255):IntKind.u8.wrap n=n:=by
 have e:IntKind.u8.wrap n=n % 256:=by simp [IntKind.wrap,IntKind.bits,IntKind.signed]
 rw [e]; omega
section
variable {E:eI} {ops:Array Oper} {Q:dh} {rest:List Oper} {D:List Deferred} {L:List (Nat×Value)} {C:List aA}
variable {d:Nat} {ty:TypeId} {ps:String} {af:Array Edge} {g:Option (Nat×Bool)}
/-- a byte of a string -/
theorem ES {t:TypeId} {x ix:Operand} {s:ByteArray} {q:IntKind} {j:Int} {k:Nat} (hg:jv ops L g=true) (hx:ev L x=some (.string s)) (hi:ev L ix=some (.int q j)) (ht:E.P.underlying t=some .string) (hj:j=(k:Int)) (hk:k<s.size) (hd:Nat.blt d E.n=true)
 (kk: ∀ b:Int,0≤b∧b≤255→RJ E ops Q rest D ((d,.int .u8 b)::L) C):RJ E ops Q (⟨some d,.index t x ix,ty,ps,af,g⟩::rest) D L C:=by
 subst hj
 intro a w hfr hs
 have hd':d<E.n:=by rw [← Nat.blt_eq]; exact hd
 unfold pc
 rw [if_pos (dz hfr hg)]
 have hb:s[k]? =some s[k]:=getElem?_pos s k hk
 refine gH (v:= .int .u8 (s[k].toNat:Int)) (w':=w) (by simp) ?_ ?_
 ·simp [execOp,hfr.ev hx,hfr.ev hi,Instr.index,asIntOf,run_underlying ht,hb]
 ·refine kk _ ⟨by omega,?_⟩ _ _ (hfr.put hd' _) hs
  have:=s[k].toNat_lt
  omega
end
def D2 (m:List Int) (i:Nat):Prop:= ∀ p r,p<r→r<i→r<m.length→m.getD p 0≤m.getD r 0
/-- sorted up to i, but for the one at j, which is not above those behind it -/
def E8 (m:List Int) (i j:Nat):Prop:=(∀ p r,p<r→r≤i→p≠j→r≠j→m.getD p 0≤m.getD r 0)∧ ∀ r,j<r→r≤i→m.getD j 0≤m.getD r 0
theorem zG {m:List Int} {i:Nat} (h:D2 m i) (hi:i<m.length):E8 m i i:=⟨fun p r hpr hri hp hr=>h p r hpr (by omega) (by omega),fun r h1 h2=>by omega⟩
theorem rJ {m:List Int} {j:Nat} {x:Int} (h:m[j]? =some x):m.getD j 0=x:=by simp [List.getD,h]
theorem oD {m:List Int} {j:Nat} {x y:Int} (hx:m[j]? =some x) (hy:m[j-1]? =some y) (hj:0<j) (p:Nat):
 ((m.set j y).set (j-1) x).getD p 0=if p=j-1 then x else if p=j then y else m.getD p 0:=by
 have h1:=(List.getElem?_eq_some_iff.1 hx).1
 have h2:=(List.getElem?_eq_some_iff.1 hy).1
 simp only [List.getD,List.getElem?_set,List.length_set]
 by_cases e1:j-1=p
 ·subst e1; simp [h2]
 ·have e1': ¬ p=j-1:=fun e=>e1 e.symm
  rw [if_neg e1,if_neg e1']
  by_cases e2:j=p
  ·subst e2; simp [h1]
  ·have e2': ¬ p=j:=fun e=>e2 e.symm
   rw [if_neg e2,if_neg e2']
theorem By {m:List Int} {i j:Nat} {x y:Int} (hx:m[j]? =some x) (hy:m[j-1]? =some y) (hj:0<j) (hji:j≤i) (h:x<y) (hI:E8 m i j):E8 ((m.set j y).set (j-1) x) i (j-1):=by
 have gx:=rJ hx
 have gy:=rJ hy
 refine ⟨fun p r hpr hri hp hr=>?_,fun r h1 h2=>?_⟩
 ·rw [oD hx hy hj,oD hx hy hj,if_neg hp,if_neg hr]
  by_cases e1:p=j
  ·rw [if_pos e1,if_neg (by omega),← gy]
   exact hI.1 (j-1) r (by omega) hri (by omega) (by omega)
  ·rw [if_neg e1]
   by_cases e2:r=j
   ·rw [if_pos e2,← gy]; exact hI.1 p (j-1) (by omega) (by omega) e1 (by omega)
   ·rw [if_neg e2]; exact hI.1 p r hpr hri e1 e2
 ·rw [oD hx hy hj,oD hx hy hj,if_pos rfl,if_neg (by omega)]
  by_cases e:r=j
  ·rw [if_pos e]; omega
  ·rw [if_neg e,← gx]; exact hI.2 r (by omega) h2
theorem v8 {m:List Int} {i j:Nat} (hj: ¬ 0<j) (hI:E8 m i j):D2 m (i+1):=fun p r hpr hri _=>by
 by_cases e1:p=j
 ·subst e1; exact hI.2 r hpr (by omega)
 ·exact hI.1 p r hpr (by omega) e1 (by omega)
theorem vM {m:List Int} {i j:Nat} {x y:Int} (hx:m[j]? =some x) (hy:m[j-1]? =some y) (hj:0<j) (hji:j≤i) (h: ¬ x<y) (hI:E8 m i j):D2 m (i+1):=fun p r hpr hri hl=>by
 have gx:=rJ hx
 have gy:=rJ hy
 by_cases e1:p=j
 ·subst e1; exact hI.2 r hpr (by omega)
 ·by_cases e2:r=j
  ·subst e2
   rw [gx]
   by_cases e3:p=r-1
   ·subst e3; rw [gy]; omega
   ·have:=hI.1 p (r-1) (by omega) (by omega) e1 (by omega)
    rw [gy] at this; omega
  ·exact hI.1 p r hpr (by omega) e1 e2
theorem zS {m:List Int} {j:Nat} {x y:Int} (hx:m[j]? =some x) (hy:m[j-1]? =some y):((m.set j y).set (j-1) x).Perm m:=by
 obtain ⟨h1,rfl⟩:=List.getElem?_eq_some_iff.1 hx
 obtain ⟨h2,rfl⟩:=List.getElem?_eq_some_iff.1 hy
 exact List.set_set_perm h1 h2
theorem C6 {m:List Int}:D2 m 1:=fun p r h1 h2=>by omega
theorem Cc {m:List Int} {i:Nat} (h:D2 m i) (hi:m.length≤i):m.Pairwise (· ≤ ·):=by
 rw [List.pairwise_iff_getElem]
 intro p r hp hr hpr
 have:=h p r hpr (by omega) hr
 simpa [List.getD,hp,hr] using this
theorem tH {a b:List Int} (h:a.Perm b) (ha:a.Pairwise (· ≤ ·)) (hb:b.Pairwise (· ≤ ·)):a=b:=
 List.Perm.eq_of_pairwise (fun a b _ _ h1 h2=>Int.le_antisymm h1 h2) ha hb h
end
section
set_option linter.unusedVariables false
section
variable {E:eI} {ops:Array Oper} {D:List Deferred} {L:List (Nat×Value)} {C:List aA} {dst:Option Tmp} {ty:TypeId} {ps:String} {af:Array Edge} {g:Option (Nat×Bool)}
theorem cx {x:Operand} {ad:Addr} (hg:jv ops L g=true) (hx:ev L x=some (.pointer (some ad))):
 SD E ops ⟨dst,.nilCheck x,ty,ps,af,g⟩ D L C (.pointer (some ad)):=
 ed hg (by simp) fun a w hfr hs=>by simp [execOp,hfr.ev hx]
end
end
section
open Go.RowKit
set_option linter.unusedVariables false
/-- an operation that hands v to its slot d -/
structure SE (E:eI) (ops:Array Oper) (o:Oper) (D:List Deferred) (L:List (Nat×Value)) (C:List aA) (v:Value) (d:Nat):Prop where
 h:SD E ops o D L C v
 o:o.dst=some d
 n:Nat.blt d E.n=true
theorem rS {E:eI} {ops:Array Oper} {Q:dh} {o:Oper} {rest:List Oper} {D:List Deferred} {L:List (Nat×Value)} {C:List aA} {v:Value} {d:Nat}
 (h:SE E ops o D L C v d) (k:RJ E ops Q rest D ((d,v)::L) C):RJ E ops Q (o::rest) D L C:=H5 h.h h.o h.n k
theorem dS {E:eI} {ops:Array Oper} {F:List (Nat×Value)→Prop} {o:Oper} {rest:List Oper} {D:List Deferred} {L:List (Nat×Value)} {C:List aA} {v:Value} {d:Nat}
 (h:SE E ops o D L C v d) (k:DJ E ops D C F rest ((d,v)::L)):DJ E ops D C F (o::rest) L:=IV h.h h.o h.n k
theorem eS {E:eI} {ops:Array Oper} {D:List Deferred} {C' C1:List aA} {F:List (Nat×Value)→Prop} {bs:List Bool} {o:Oper} {l rest:List Oper} {L:List (Nat×Value)} {v:Value} {d:Nat}
 (hl:l=o::rest) (h:SE E ops o D L C' v d) (k:tw E ops D C' C1 F bs rest ((d,v)::L)):tw E ops D C' C1 F (false::bs) l L:=GO h.h hl h.o h.n k
theorem fS {E:eI} {ops:Array Oper} {D:List Deferred} {C' C1:List aA} {F:List (Nat×Value)→Prop} {bs:List Bool} {o:Oper} {l rest:List Oper} {L:List (Nat×Value)} {v:Value} {d:Nat}
 (hl:l=o::rest) (h:SE E ops o D L C1 v d) (k:tw E ops D C' C1 F bs rest ((d,v)::L)):tw E ops D C' C1 F (true::bs) l L:=Gp h.h hl h.o h.n k
def gB (n:Nat) (ops:Array Oper) (L:List (Nat×Value)) (d:Nat) (g:Option (Nat×Bool)):Bool:=jv ops L g&&Nat.blt d n
theorem DL {n:Nat} {ops:Array Oper} {L:List (Nat×Value)} {d:Nat} {g:Option (Nat×Bool)} (h:gB n ops L d g=true):jv ops L g=true:=by
 unfold gB at h; rw [Bool.and_eq_true] at h; exact h.1
theorem De {n:Nat} {ops:Array Oper} {L:List (Nat×Value)} {d:Nat} {g:Option (Nat×Bool)} (h:gB n ops L d g=true):Nat.blt d n=true:=by
 unfold gB at h; rw [Bool.and_eq_true] at h; exact h.2
def vF (n:Nat) (ops:Array Oper) (L:List (Nat×Value)) (d:Nat) (g:Option (Nat×Bool)) (x:Operand):Option Value:=match gB n ops L d g with
 |true=>ev L x
 |false=>none
def bF (n:Nat) (ops:Array Oper) (L:List (Nat×Value)) (d:Nat) (g:Option (Nat×Bool)) (x y:Operand):Option (Value×Value):=match gB n ops L d g with
 |true=>match ev L x,ev L y with
  |some u,some v=>some (u,v)
  |_,_=>none
 |false=>none
def pF (n:Nat) (ops:Array Oper) (L:List (Nat×Value)) (d:Nat) (g:Option (Nat×Bool)) (c x y:Operand):Option Value:=match gB n ops L d g with
 |true=>match ev L c with
  |some (.bool true)=>ev L x
  |some (.bool false)=>ev L y
  |_=>none
 |false=>none
def xF (n:Nat) (ops:Array Oper) (L:List (Nat×Value)) (d:Nat) (g:Option (Nat×Bool)) (x:Operand) (i:Nat):Option Value:=match vF n ops L d g x with
 |some (.tuple vs)=>vs.toList[i]?
 |_=>none
def uF (n:Nat) (ops:Array Oper) (L:List (Nat×Value)) (d:Nat) (g:Option (Nat×Bool)) (xs ys:List Operand):Option (List Value×List Value):=match gB n ops L d g with
 |true=>match evs L xs,evs L ys with
  |some u,some v=>some (u,v)
  |_,_=>none
 |false=>none
def cF (n:Nat) (ops:Array Oper) (L:List (Nat×Value)) (d:Nat) (g:Option (Nat×Bool)) (fop:Operand) (xs:List Operand):Option (FuncId×List Value):=match gB n ops L d g with
 |true=>match ev L fop,evs L xs with
  |some (.func (.func f) fi ca),some vs=>some (f,fi.toList++vs++ca.toList)
  |_,_=>none
 |false=>none
theorem gV {n:Nat} {ops:Array Oper} {L:List (Nat×Value)} {d:Nat} {g:Option (Nat×Bool)} {x:Operand} {v:Value} (h:vF n ops L d g x=some v):jv ops L g=true∧Nat.blt d n=true∧ev L x=some v:=by
 unfold vF at h
 split at h
 ·rename_i hb; exact ⟨DL hb,De hb,h⟩
 ·cases h
theorem qg {n:Nat} {ops:Array Oper} {L:List (Nat×Value)} {d:Nat} {g:Option (Nat×Bool)} {x y:Operand} {u v:Value} (h:bF n ops L d g x y=some (u,v)):jv ops L g=true∧Nat.blt d n=true∧ev L x=some u∧ev L y=some v:=by
 unfold bF at h
 split at h
 ·rename_i hb
  split at h
  ·rename_i hx hy; cases h; exact ⟨DL hb,De hb,hx,hy⟩
  ·cases h
 ·cases h
theorem EA {n:Nat} {ops:Array Oper} {L:List (Nat×Value)} {d:Nat} {g:Option (Nat×Bool)} {x y:List Operand} {u v:List Value} (h:uF n ops L d g x y=some (u,v)):jv ops L g=true∧Nat.blt d n=true∧evs L x=some u∧evs L y=some v:=by
 unfold uF at h
 split at h
 ·rename_i hb
  split at h
  ·rename_i hx hy; cases h; exact ⟨DL hb,De hb,hx,hy⟩
  ·cases h
 ·cases h
section
variable {E:eI} {ops:Array Oper} {Q:dh} {rest:List Oper} {D:List Deferred} {L:List (Nat×Value)} {C:List aA}
variable {d:Nat} {ty:TypeId} {ps:String} {af:Array Edge} {g:Option (Nat×Bool)}
theorem SX {o:Oper} {v:Value} (h:SD E ops o D L C v) (ho:o.dst=some d) (hd:Nat.blt d E.n=true):SE E ops o D L C v d:=⟨h,ho,hd⟩
theorem MV {x:Operand} {v:Value} (h:vF E.n ops L d g x=some v):SE E ops ⟨some d,.move x,ty,ps,af,g⟩ D L C v d:=by
 obtain ⟨h1,h2,h3⟩:=gV h; exact ⟨C7 h1 h3,rfl,h2⟩
theorem AG {x:Operand} {v:Value} (h:vF E.n ops L d g x=some v):SE E ops ⟨some d,.assign x,ty,ps,af,g⟩ D L C v d:=by
 obtain ⟨h1,h2,h3⟩:=gV h; exact ⟨yU h1 h3,rfl,h2⟩
theorem OX {op:Op} (h:(BR ops L g&&Nat.blt d E.n)=true):SE E ops ⟨some d,op,ty,ps,af,g⟩ D L C undef d:=by
 rw [Bool.and_eq_true] at h; exact ⟨E5 h.1,rfl,h.2⟩
theorem NT {xt:TypeId} {x:Operand} {b:Bool} (h:vF E.n ops L d g x=some (.bool b)):SE E ops ⟨some d,.unOp .not xt x,ty,ps,af,g⟩ D L C (.bool !b) d:=by
 obtain ⟨h1,h2,h3⟩:=gV h; exact ⟨ED h1 h3,rfl,h2⟩
theorem NG {xt:TypeId} {x:Operand} {n:Int} (h:vF E.n ops L d g x=some (.int .i64 n)) (hb:nD (-n)):SE E ops ⟨some d,.unOp .neg xt x,ty,ps,af,g⟩ D L C (.int .i64 (-n)) d:=by
 obtain ⟨h1,h2,h3⟩:=gV h; exact ⟨D5 h1 h3 hb,rfl,h2⟩
theorem PK {c x y:Operand} {v:Value} (h:pF E.n ops L d g c x y=some v):SE E ops ⟨some d,.pick c x y,ty,ps,af,g⟩ D L C v d:=by
 unfold pF at h
 split at h
 ·rename_i hb
  split at h
  ·rename_i hc; exact ⟨y7 (DL hb) hc h,rfl,De hb⟩
  ·rename_i hc; exact ⟨zJ (DL hb) hc h,rfl,De hb⟩
  ·cases h
 ·cases h
theorem EX {x:Operand} {i:Nat} {v:Value} (h:xF E.n ops L d g x i=some v):SE E ops ⟨some d,.extract x i,ty,ps,af,g⟩ D L C v d:=by
 unfold xF at h
 split at h
 ·rename_i vs hv
  obtain ⟨h1,h2,h3⟩:=gV hv
  exact ⟨xh (vs:=vs.toList) h1 (by simpa using h3) h,rfl,h2⟩
 ·cases h
theorem LN {x:Operand} {t e:TypeId} {A:Option Addr} {n c:Nat} (h:vF E.n ops L d g x=some (.slice A n c)) (ht:E.P.underlying t=some (.slice e)):
 SE E ops ⟨some d,.call {callee:= .builtin .len,args:= #[x],argTypes:= #[t]},ty,ps,af,g⟩ D L C (.int .i64 n) d:=by
 obtain ⟨h1,h2,h3⟩:=gV h; exact ⟨Eg h1 h3 ht,rfl,h2⟩
theorem BI {op:BinOp} {xt yt:TypeId} {x y:Operand} {u v r:Value} (h:bF E.n ops L d g x y=some (u,v)) (hb:fz E.P op xt x y u v r):SE E ops ⟨some d,.binOp op xt x y yt,ty,ps,af,g⟩ D L C r d:=by
 obtain ⟨h1,h2,h3,h4⟩:=qg h; exact ⟨fK h1 h3 h4 hb,rfl,h2⟩
theorem MN {x y:Operand} {ts:Array TypeId} {a b:Int} {k:IntKind} (h:bF E.n ops L d g x y=some (.int k a,.int k b)):
 SE E ops ⟨some d,.call {callee:= .builtin .min,args:= #[x,y],argTypes:=ts},ty,ps,af,g⟩ D L C (.int k (min a b)) d:=by
 obtain ⟨h1,h2,h3,h4⟩:=qg h; exact ⟨E0 h1 h3 h4,rfl,h2⟩
theorem MX {x y:Operand} {ts:Array TypeId} {a b:Int} {k:IntKind} (h:bF E.n ops L d g x y=some (.int k a,.int k b)):
 SE E ops ⟨some d,.call {callee:= .builtin .max,args:= #[x,y],argTypes:=ts},ty,ps,af,g⟩ D L C (.int k (max a b)) d:=by
 obtain ⟨h1,h2,h3,h4⟩:=qg h; exact ⟨Et h1 h3 h4,rfl,h2⟩
theorem FA (o':Nat) {x:Operand} {b o s f k:Nat} (h:vF E.n ops L d g x=some (.pointer (some ⟨b,o,none⟩))) (hf:fo E.P s f=some k) (ho:o+k=o'):
 SE E ops ⟨some d,.fieldAddr s x f,ty,ps,af,g⟩ D L C (.pointer (some ⟨b,o',none⟩)) d:=by
 obtain ⟨h1,h2,h3⟩:=gV h; exact ⟨Gw h1 h3 hf ho,rfl,h2⟩
theorem ou (k':Nat) {x:Operand} {A:Option Addr} {n sz:Nat} {es:List (List Value)} {k0 s f k:Nat} (h:vF E.n ops L d g x=some (.pointer (o2 A k0))) (hR:jS C (rd A n sz es).holds) (hn:0<n*sz)
 (hf:fo E.P s f=some k) (ho:k0+k=k'):SE E ops ⟨some d,.fieldAddr s x f,ty,ps,af,g⟩ D L C (.pointer (o2 A k')) d:=by
 obtain ⟨h1,h2,h3⟩:=gV h; exact ⟨Am h1 h3 hR hn hf ho,rfl,h2⟩
theorem IA (k:Nat) {x ix:Operand} {A:Option Addr} {n c sz e t:Nat} {es:List (List Value)} {j:Int} (h:bF E.n ops L d g x ix=some (.slice A n c,.int .i64 j)) (hR:jS C (rd A n sz es).holds)
 (ht:tE E.P t=some (e,sz)) (hz:0<sz) (hj:j=(k:Int)) (hk:k<n):SE E ops ⟨some d,.indexAddr t x ix,ty,ps,af,g⟩ D L C (.pointer (o2 A (k*sz))) d:=by
 obtain ⟨h1,h2,h3,h4⟩:=qg h; exact ⟨Fx h1 h3 h4 hR ht hz hj hk,rfl,h2⟩
theorem JH (k o':Nat) {x ix:Operand} {b o n c sz e t:Nat} {j:Int} (h:bF E.n ops L d g x ix=some (.slice (some ⟨b,o,none⟩) n c,.int .i64 j))
 (ht:tE E.P t=some (e,sz)) (hj:j=(k:Int)) (hk:k<n) (ho:o+k*sz=o'):SE E ops ⟨some d,.indexAddr t x ix,ty,ps,af,g⟩ D L C (.pointer (some ⟨b,o',none⟩)) d:=by
 obtain ⟨h1,h2,h3,h4⟩:=qg h; exact ⟨CZ h1 h3 h4 ht hj hk ho,rfl,h2⟩
/-- the whole of a block, a part of it, one cell -/
theorem LW (i:Nat) {x:Operand} {b t tt n:Nat} {cs:List Value} (h:vF E.n ops L d g x=some (.pointer (some ⟨b,0,none⟩))) (ht:tK E.P t=some (true,n)) (hC:C[i]? =some (aT b tt cs)) (hn:cs.length=n):
 SE E ops ⟨some d,.load t x,ty,ps,af,g⟩ D L C (.agg cs.toArray) d:=by
 obtain ⟨h1,h2,h3⟩:=gV h; exact ⟨sB h1 h3 ht (cy i hC (by simp)) hn,rfl,h2⟩
theorem Jp (i:Nat) {x:Operand} {b t tt n:Nat} {cs:List Value} (h:vF E.n ops L d g x=some (.pointer (some ⟨b,0,none⟩))) (ht:tK E.P t=some (true,n)) (hC:C[i]? =some (aT b tt cs).ro) (hn:cs.length=n):
 SE E ops ⟨some d,.load t x,ty,ps,af,g⟩ D L C (.agg cs.toArray) d:=by
 obtain ⟨h1,h2,h3⟩:=gV h; exact ⟨sB h1 h3 ht (rz i hC (by simp)) hn,rfl,h2⟩
theorem LP (vs:List Value) (i:Nat) {x:Operand} {b o t tt n:Nat} {cs:List Value} (h:vF E.n ops L d g x=some (.pointer (some ⟨b,o,none⟩))) (ht:tK E.P t=some (true,n)) (hC:C[i]? =some (aT b tt cs)) (hv:(cs.drop o).take vs.length=vs) (hn:vs.length=n):
 SE E ops ⟨some d,.load t x,ty,ps,af,g⟩ D L C (.agg vs.toArray) d:=by
 obtain ⟨h1,h2,h3⟩:=gV h; exact ⟨sB h1 h3 ht (cy i hC hv) hn,rfl,h2⟩
theorem JE (vs:List Value) (i:Nat) {x:Operand} {b o t tt n:Nat} {cs:List Value} (h:vF E.n ops L d g x=some (.pointer (some ⟨b,o,none⟩))) (ht:tK E.P t=some (true,n)) (hC:C[i]? =some (aT b tt cs).ro) (hv:(cs.drop o).take vs.length=vs) (hn:vs.length=n):
 SE E ops ⟨some d,.load t x,ty,ps,af,g⟩ D L C (.agg vs.toArray) d:=by
 obtain ⟨h1,h2,h3⟩:=gV h; exact ⟨sB h1 h3 ht (rz i hC hv) hn,rfl,h2⟩
theorem L1 (v:Value) (i:Nat) {x:Operand} {b o t tt n:Nat} {cs:List Value} (h:vF E.n ops L d g x=some (.pointer (some ⟨b,o,none⟩))) (ht:tK E.P t=some (false,n)) (hC:C[i]? =some (aT b tt cs)) (hv:(cs.drop o).take 1=[v]):
 SE E ops ⟨some d,.load t x,ty,ps,af,g⟩ D L C v d:=by
 obtain ⟨h1,h2,h3⟩:=gV h; exact ⟨sh h1 h3 ht (cy i hC hv),rfl,h2⟩
theorem ny (v:Value) (i:Nat) {x:Operand} {b o t tt n:Nat} {cs:List Value} (h:vF E.n ops L d g x=some (.pointer (some ⟨b,o,none⟩))) (ht:tK E.P t=some (false,n)) (hC:C[i]? =some (aT b tt cs).ro) (hv:(cs.drop o).take 1=[v]):
 SE E ops ⟨some d,.load t x,ty,ps,af,g⟩ D L C v d:=by
 obtain ⟨h1,h2,h3⟩:=gV h; exact ⟨sh h1 h3 ht (rz i hC hv),rfl,h2⟩
theorem j8 (i:Nat) {x:Operand} {b t tt n:Nat} {v:Value} (h:vF E.n ops L d g x=some (.pointer (some ⟨b,0,none⟩))) (ht:tK E.P t=some (false,n)) (hC:C[i]? =some (aT b tt [v])):
 SE E ops ⟨some d,.load t x,ty,ps,af,g⟩ D L C v d:=by
 obtain ⟨h1,h2,h3⟩:=gV h; exact ⟨sh h1 h3 ht (cy i hC rfl),rfl,h2⟩
theorem tS (i:Nat) {x:Operand} {b t tt n:Nat} {v:Value} (h:vF E.n ops L d g x=some (.pointer (some ⟨b,0,none⟩))) (ht:tK E.P t=some (false,n)) (hC:C[i]? =some (aT b tt [v]).ro):
 SE E ops ⟨some d,.load t x,ty,ps,af,g⟩ D L C v d:=by
 obtain ⟨h1,h2,h3⟩:=gV h; exact ⟨sh h1 h3 ht (rz i hC rfl),rfl,h2⟩
/-- what is read of a row -/
theorem iX (k o:Nat) (v:Value) {x:Operand} {A:Option Addr} {t m n sz:Nat} {es:List (List Value)} {e:List Value} (h:vF E.n ops L d g x=some (.pointer (o2 A m))) {nn:Nat} (ht:tK E.P t=some (false,nn)) (hR:jS C (rd A n sz es).holds) (he:es[k]? =some e) (hm:m=k*sz+o) (hz:0<sz) (hv:(e.drop o).take 1=[v]):
 SE E ops ⟨some d,.load t x,ty,ps,af,g⟩ D L C v d:=by
 obtain ⟨h1,h2,h3⟩:=gV h; exact ⟨sh h1 h3 ht (Du hR he hm hz hv),rfl,h2⟩
theorem lF (k o:Nat) (vs:List Value) {x:Operand} {A:Option Addr} {t m n sz:Nat} {es:List (List Value)} {e:List Value} (h:vF E.n ops L d g x=some (.pointer (o2 A m))) {nn:Nat} (ht:tK E.P t=some (true,nn)) (hR:jS C (rd A n sz es).holds) (he:es[k]? =some e) (hm:m=k*sz+o) (hz:0<sz) (hv:(e.drop o).take vs.length=vs) (hn:vs.length=nn):
 SE E ops ⟨some d,.load t x,ty,ps,af,g⟩ D L C (.agg vs.toArray) d:=by
 obtain ⟨h1,h2,h3⟩:=gV h; exact ⟨sB h1 h3 ht (Du hR he hm hz hv) hn,rfl,h2⟩
theorem CL {fop:Operand} {xs:Array Operand} {ts:Array TypeId} {f:FuncId} {args:List Value} {Cp:List aA} {v:Value} (c:eH E.P f args Cp v) (hC:j9 C Cp) (h:cF E.n ops L d g fop xs.toList=some (f,args)):
 SE E ops ⟨some d,.call {callee:= .value fop,args:=xs,argTypes:=ts},ty,ps,af,g⟩ D L C v d:=by
 unfold cF at h
 split at h
 ·rename_i hb
  split at h
  ·rename_i hf hx; cases h; exact ⟨xU (DL hb) hf hx rfl c hC,rfl,De hb⟩
  ·cases h
 ·cases h
theorem FU {fn:Fn} {xs ys:Array Operand} {us vs:List Value} (h:uF E.n ops L d g xs.toList ys.toList=some (us,vs)):SE E ops ⟨some d,.makeFunc fn xs ys,ty,ps,af,g⟩ D L C (.func fn us.toArray vs.toArray) d:=by
 obtain ⟨h1,h2,h3,h4⟩:=EA h; exact ⟨CP h1 h3 h4,rfl,h2⟩
theorem cX {fop:Operand} {xs:Array Operand} {ts:Array TypeId} {f:FuncId} {args:List Value} {Cp:List aA} {α:Type} {V:α→Value} {p:α→Prop} {N:α→List aA} (c:rp E.P f args Cp V p N) (hC:j9 C Cp)
 (h:cF E.n ops L d g fop xs.toList=some (f,args)) (k: ∀ x,p x→RJ E ops Q rest D ((d,V x)::L) (N x++C)):
 RJ E ops Q (⟨some d,.call {callee:= .value fop,args:=xs,argTypes:=ts},ty,ps,af,g⟩::rest) D L C:=by
 unfold cF at h
 split at h
 ·rename_i hb
  split at h
  ·rename_i hf hx; cases h; exact EG (DL hb) hf hx rfl c hC (De hb) k
  ·cases h
 ·cases h
/-- a box of a struct, of one cell -/
theorem fy {t:TypeId} {x:Operand} {cs:List Value} (h:vF E.n ops L d g x=some (.agg cs.toArray)) (k: ∀ b,RJ E ops Q rest D ((d,.pointer (some ⟨b,0,none⟩))::L) (aT b t cs::C)):
 RJ E ops Q (⟨some d,.box t x,ty,ps,af,g⟩::rest) D L C:=by
 obtain ⟨h1,h2,h3⟩:=gV h; exact DC h1 h3 rfl h2 k
theorem yn {t:TypeId} {x:Operand} {v:Value} (h:vF E.n ops L d g x=some v) (hv:v.cells.toList=[v]) (k: ∀ b,RJ E ops Q rest D ((d,.pointer (some ⟨b,0,none⟩))::L) (aT b t [v]::C)):
 RJ E ops Q (⟨some d,.box t x,ty,ps,af,g⟩::rest) D L C:=by
 obtain ⟨h1,h2,h3⟩:=gV h; exact DC h1 h3 hv h2 k
theorem AL {t:TypeId} {cs:List Value} (h:gB E.n ops L d g=true) (hz:tZ E.P t=some cs) (k: ∀ b,RJ E ops Q rest D ((d,.pointer (some ⟨b,0,none⟩))::L) (aT b t cs::C)):
 RJ E ops Q (⟨some d,.alloc t,ty,ps,af,g⟩::rest) D L C:=CJ (DL h) hz (De h) k
/-- a store into the block at the place i of the state -/
def sF (ops:Array Oper) (L:List (Nat×Value)) (g:Option (Nat×Bool)) (x y:Operand):Option (Value×Value):=match jv ops L g with
 |true=>match ev L x,ev L y with
  |some u,some v=>some (u,v)
  |_,_=>none
 |false=>none
theorem xE {ops:Array Oper} {L:List (Nat×Value)} {g:Option (Nat×Bool)} {x y:Operand} {u v:Value} (h:sF ops L g x y=some (u,v)):jv ops L g=true∧ev L x=some u∧ev L y=some v:=by
 unfold sF at h
 split at h
 ·rename_i hb
  split at h
  ·rename_i hx hy; cases h; exact ⟨hb,hx,hy⟩
  ·cases h
 ·cases h
theorem G8 {t n b o tt:Nat} {x y:Operand} {v:Value} {cs cs':List Value} {C':List aA} (i:Nat) (h:sF ops L g x y=some (.pointer (some ⟨b,o,none⟩),v)) (ht:(tK E.P t).map (·.2)=some n) (hC:C[i]? =some (aT b tt cs))
 (hk:(v.cells.toList.length==n&&v.cells.toList.all Value.oneCell'&&Nat.ble (o+n) cs.length)=true) (hcs:cs.take o++v.cells.toList++cs.drop (o+n)=cs') (hC':C.set i (aT b tt cs')=C') (k:RJ E ops Q rest D L C'):
 RJ E ops Q (⟨none,.store t x y,ty,ps,af,g⟩::rest) D L C:=by
 obtain ⟨h1,h2,h3⟩:=xE h
 simp only [Bool.and_eq_true,beq_iff_eq] at hk
 exact pQ i h1 h2 h3 ht rfl hk.1.1 hk.1.2 hC hk.2 hcs hC' k
/-- a store of a whole block, by a struct, by one cell -/
theorem Ca {t n b tt:Nat} {x y:Operand} {cs cs':List Value} {C':List aA} (i:Nat) (h:sF ops L g x y=some (.pointer (some ⟨b,0,none⟩),.agg cs'.toArray)) (ht:(tK E.P t).map (·.2)=some n) (hC:C[i]? =some (aT b tt cs))
 (hk:(Nat.beq cs'.length n&&cs'.all Value.oneCell'&&Nat.beq n cs.length)=true) (hC':C.set i (aT b tt cs')=C') (k:RJ E ops Q rest D L C'):
 RJ E ops Q (⟨none,.store t x y,ty,ps,af,g⟩::rest) D L C:=by
 obtain ⟨h1,h2,h3⟩:=xE h
 simp only [Bool.and_eq_true] at hk
 obtain ⟨⟨hk1,hk2⟩,hk3⟩:=hk
 have e1:=Nat.eq_of_beq_eq_true hk1
 have e3:=Nat.eq_of_beq_eq_true hk3
 exact pQ i h1 h2 h3 ht rfl e1 hk2 hC (by rw [Nat.zero_add,e3]; exact Nat.ble_self_eq_true _) (by rw [Nat.zero_add,e3,List.take_zero,List.drop_length]; show []++cs'++[]=cs'; simp) hC' k
theorem H4 {t n b tt:Nat} {x y:Operand} {v u:Value} {C':List aA} (i:Nat) (h:sF ops L g x y=some (.pointer (some ⟨b,0,none⟩),v)) (ht:(tK E.P t).map (·.2)=some n) (hC:C[i]? =some (aT b tt [u]))
 (hv:v.cells.toList=[v]) (hk:(Nat.beq n 1&&v.oneCell')=true) (hC':C.set i (aT b tt [v])=C') (k:RJ E ops Q rest D L C'):
 RJ E ops Q (⟨none,.store t x y,ty,ps,af,g⟩::rest) D L C:=by
 obtain ⟨h1,h2,h3⟩:=xE h
 rw [Bool.and_eq_true] at hk
 obtain ⟨hk1,hk2⟩:=hk
 have e1:=Nat.eq_of_beq_eq_true hk1
 subst e1
 exact pQ i h1 h2 h3 ht hv rfl (by simp [hk2]) hC rfl rfl hC' k
theorem fO {t n b tt:Nat} {x y:Operand} {cs cs':List Value} (h:sF ops L g x y=some (.pointer (some ⟨b,0,none⟩),.agg cs'.toArray)) (ht:(tK E.P t).map (·.2)=some n) (hk:(Nat.beq cs'.length n&&cs'.all Value.oneCell'&&Nat.beq n cs.length)=true) (k:RJ E ops Q rest D L (aT b tt cs'::C)):RJ E ops Q (⟨none,.store t x y,ty,ps,af,g⟩::rest) D L (aT b tt cs::C):=Ca 0 h ht rfl hk rfl k
theorem BT {t n b tt:Nat} {x y:Operand} {v u:Value} (h:sF ops L g x y=some (.pointer (some ⟨b,0,none⟩),v)) (ht:(tK E.P t).map (·.2)=some n) (hv:v.cells.toList=[v]) (hk:(Nat.beq n 1&&v.oneCell')=true) (k:RJ E ops Q rest D L (aT b tt [v]::C)):RJ E ops Q (⟨none,.store t x y,ty,ps,af,g⟩::rest) D L (aT b tt [u]::C):=H4 0 h ht rfl hv hk rfl k
theorem nk {t n b tt:Nat} {x y:Operand} {cs cs':List Value} {A0:aA} (h:sF ops L g x y=some (.pointer (some ⟨b,0,none⟩),.agg cs'.toArray)) (ht:(tK E.P t).map (·.2)=some n) (hk:(Nat.beq cs'.length n&&cs'.all Value.oneCell'&&Nat.beq n cs.length)=true) (k:RJ E ops Q rest D L (A0::aT b tt cs'::C)):RJ E ops Q (⟨none,.store t x y,ty,ps,af,g⟩::rest) D L (A0::aT b tt cs::C):=Ca 1 h ht rfl hk rfl k
theorem Jv {t n b tt:Nat} {x y:Operand} {v u:Value} {A0:aA} (h:sF ops L g x y=some (.pointer (some ⟨b,0,none⟩),v)) (ht:(tK E.P t).map (·.2)=some n) (hv:v.cells.toList=[v]) (hk:(Nat.beq n 1&&v.oneCell')=true) (k:RJ E ops Q rest D L (A0::aT b tt [v]::C)):RJ E ops Q (⟨none,.store t x y,ty,ps,af,g⟩::rest) D L (A0::aT b tt [u]::C):=H4 1 h ht rfl hv hk rfl k
theorem rM {t n b tt:Nat} {x y:Operand} {cs cs':List Value} {A0 A1:aA} (h:sF ops L g x y=some (.pointer (some ⟨b,0,none⟩),.agg cs'.toArray)) (ht:(tK E.P t).map (·.2)=some n) (hk:(Nat.beq cs'.length n&&cs'.all Value.oneCell'&&Nat.beq n cs.length)=true) (k:RJ E ops Q rest D L (A0::A1::aT b tt cs'::C)):RJ E ops Q (⟨none,.store t x y,ty,ps,af,g⟩::rest) D L (A0::A1::aT b tt cs::C):=Ca 2 h ht rfl hk rfl k
theorem G6 (cs':List Value) {t n b o tt:Nat} {x y:Operand} {v:Value} {cs:List Value} {A0 A1:aA} (h:sF ops L g x y=some (.pointer (some ⟨b,o,none⟩),v)) (ht:(tK E.P t).map (·.2)=some n) (hk:(v.cells.toList.length==n&&v.cells.toList.all Value.oneCell'&&Nat.ble (o+n) cs.length)=true) (hcs:cs.take o++v.cells.toList++cs.drop (o+n)=cs') (k:RJ E ops Q rest D L (A0::A1::aT b tt cs'::C)):RJ E ops Q (⟨none,.store t x y,ty,ps,af,g⟩::rest) D L (A0::A1::aT b tt cs::C):=G8 2 h ht rfl hk hcs rfl k
theorem Ev {t n b tt:Nat} {x y:Operand} {cs cs':List Value} {A0 A1 A2:aA} (h:sF ops L g x y=some (.pointer (some ⟨b,0,none⟩),.agg cs'.toArray)) (ht:(tK E.P t).map (·.2)=some n) (hk:(Nat.beq cs'.length n&&cs'.all Value.oneCell'&&Nat.beq n cs.length)=true) (k:RJ E ops Q rest D L (A0::A1::A2::aT b tt cs'::C)):RJ E ops Q (⟨none,.store t x y,ty,ps,af,g⟩::rest) D L (A0::A1::A2::aT b tt cs::C):=Ca 3 h ht rfl hk rfl k
theorem Dq (cs':List Value) {t n b o tt:Nat} {x y:Operand} {v:Value} {cs:List Value} {A0 A1 A2:aA} (h:sF ops L g x y=some (.pointer (some ⟨b,o,none⟩),v)) (ht:(tK E.P t).map (·.2)=some n) (hk:(v.cells.toList.length==n&&v.cells.toList.all Value.oneCell'&&Nat.ble (o+n) cs.length)=true) (hcs:cs.take o++v.cells.toList++cs.drop (o+n)=cs') (k:RJ E ops Q rest D L (A0::A1::A2::aT b tt cs'::C)):RJ E ops Q (⟨none,.store t x y,ty,ps,af,g⟩::rest) D L (A0::A1::A2::aT b tt cs::C):=G8 3 h ht rfl hk hcs rfl k
theorem G4 {t n b tt:Nat} {x y:Operand} {cs cs':List Value} {A0 A1 A2 A3:aA} (h:sF ops L g x y=some (.pointer (some ⟨b,0,none⟩),.agg cs'.toArray)) (ht:(tK E.P t).map (·.2)=some n) (hk:(Nat.beq cs'.length n&&cs'.all Value.oneCell'&&Nat.beq n cs.length)=true) (k:RJ E ops Q rest D L (A0::A1::A2::A3::aT b tt cs'::C)):RJ E ops Q (⟨none,.store t x y,ty,ps,af,g⟩::rest) D L (A0::A1::A2::A3::aT b tt cs::C):=Ca 4 h ht rfl hk rfl k
theorem Fb {t n b tt:Nat} {x y:Operand} {cs cs':List Value} {A0 A1 A2 A3 A4:aA} (h:sF ops L g x y=some (.pointer (some ⟨b,0,none⟩),.agg cs'.toArray)) (ht:(tK E.P t).map (·.2)=some n) (hk:(Nat.beq cs'.length n&&cs'.all Value.oneCell'&&Nat.beq n cs.length)=true) (k:RJ E ops Q rest D L (A0::A1::A2::A3::A4::aT b tt cs'::C)):RJ E ops Q (⟨none,.store t x y,ty,ps,af,g⟩::rest) D L (A0::A1::A2::A3::A4::aT b tt cs::C):=Ca 5 h ht rfl hk rfl k
theorem Jq (cs':List Value) {t n b o tt:Nat} {x y:Operand} {v:Value} {cs:List Value} {A0 A1 A2 A3 A4:aA} (h:sF ops L g x y=some (.pointer (some ⟨b,o,none⟩),v)) (ht:(tK E.P t).map (·.2)=some n) (hk:(v.cells.toList.length==n&&v.cells.toList.all Value.oneCell'&&Nat.ble (o+n) cs.length)=true) (hcs:cs.take o++v.cells.toList++cs.drop (o+n)=cs') (k:RJ E ops Q rest D L (A0::A1::A2::A3::A4::aT b tt cs'::C)):RJ E ops Q (⟨none,.store t x y,ty,ps,af,g⟩::rest) D L (A0::A1::A2::A3::A4::aT b tt cs::C):=G8 5 h ht rfl hk hcs rfl k
theorem E_ {t n b tt:Nat} {x y:Operand} {cs cs':List Value} {A0 A1 A2 A3 A4 A5:aA} (h:sF ops L g x y=some (.pointer (some ⟨b,0,none⟩),.agg cs'.toArray)) (ht:(tK E.P t).map (·.2)=some n) (hk:(Nat.beq cs'.length n&&cs'.all Value.oneCell'&&Nat.beq n cs.length)=true) (k:RJ E ops Q rest D L (A0::A1::A2::A3::A4::A5::aT b tt cs'::C)):RJ E ops Q (⟨none,.store t x y,ty,ps,af,g⟩::rest) D L (A0::A1::A2::A3::A4::A5::aT b tt cs::C):=Ca 6 h ht rfl hk rfl k
theorem Jx {t n b tt:Nat} {x y:Operand} {v u:Value} {A0 A1 A2 A3 A4 A5:aA} (h:sF ops L g x y=some (.pointer (some ⟨b,0,none⟩),v)) (ht:(tK E.P t).map (·.2)=some n) (hv:v.cells.toList=[v]) (hk:(Nat.beq n 1&&v.oneCell')=true) (k:RJ E ops Q rest D L (A0::A1::A2::A3::A4::A5::aT b tt [v]::C)):RJ E ops Q (⟨none,.store t x y,ty,ps,af,g⟩::rest) D L (A0::A1::A2::A3::A4::A5::aT b tt [u]::C):=H4 6 h ht rfl hv hk rfl k
theorem JJ (cs':List Value) {t n b o tt:Nat} {x y:Operand} {v:Value} {cs:List Value} {A0 A1 A2 A3 A4 A5:aA} (h:sF ops L g x y=some (.pointer (some ⟨b,o,none⟩),v)) (ht:(tK E.P t).map (·.2)=some n) (hk:(v.cells.toList.length==n&&v.cells.toList.all Value.oneCell'&&Nat.ble (o+n) cs.length)=true) (hcs:cs.take o++v.cells.toList++cs.drop (o+n)=cs') (k:RJ E ops Q rest D L (A0::A1::A2::A3::A4::A5::aT b tt cs'::C)):RJ E ops Q (⟨none,.store t x y,ty,ps,af,g⟩::rest) D L (A0::A1::A2::A3::A4::A5::aT b tt cs::C):=G8 6 h ht rfl hk hcs rfl k
theorem G7 {t n b tt:Nat} {x y:Operand} {cs cs':List Value} {A0 A1 A2 A3 A4 A5 A6 A7:aA} (h:sF ops L g x y=some (.pointer (some ⟨b,0,none⟩),.agg cs'.toArray)) (ht:(tK E.P t).map (·.2)=some n) (hk:(Nat.beq cs'.length n&&cs'.all Value.oneCell'&&Nat.beq n cs.length)=true) (k:RJ E ops Q rest D L (A0::A1::A2::A3::A4::A5::A6::A7::aT b tt cs'::C)):RJ E ops Q (⟨none,.store t x y,ty,ps,af,g⟩::rest) D L (A0::A1::A2::A3::A4::A5::A6::A7::aT b tt cs::C):=Ca 8 h ht rfl hk rfl k
theorem G_ {t n b tt:Nat} {x y:Operand} {cs cs':List Value} {A0 A1 A2 A3 A4 A5 A6 A7 A8:aA} (h:sF ops L g x y=some (.pointer (some ⟨b,0,none⟩),.agg cs'.toArray)) (ht:(tK E.P t).map (·.2)=some n) (hk:(Nat.beq cs'.length n&&cs'.all Value.oneCell'&&Nat.beq n cs.length)=true) (k:RJ E ops Q rest D L (A0::A1::A2::A3::A4::A5::A6::A7::A8::aT b tt cs'::C)):RJ E ops Q (⟨none,.store t x y,ty,ps,af,g⟩::rest) D L (A0::A1::A2::A3::A4::A5::A6::A7::A8::aT b tt cs::C):=Ca 9 h ht rfl hk rfl k
end
section
variable {E:eI} {y:Code} {Q:dh} {D:List Deferred} {L:List (Nat×Value)} {C:List aA}
theorem WS {id:Nat} {ops:Array Oper} (h: ∀ K:Act→World→Prop,(∀ D L C,WJ E y Q D L C→KJ E K D L C)→RJ E ops (Exit.then K Q) ops.toList D L C):WJ E (.seq (.region id ops false) y) Q D L C:=aq fun K hK=>ar (h K hK)
theorem RK {ops:Array Oper} {K:Act→World→Prop} {Q':dh} (hK: ∀ D L C,WJ E y Q D L C→KJ E K D L C) (k:WJ E y Q D L C):RJ E ops (Exit.then K Q') [] D L C:=aP (aO (hK _ _ _ k))
theorem KK {K:Act→World→Prop} {Q':dh} (hK: ∀ D L C,WJ E y Q D L C→KJ E K D L C) (k:WJ E y Q D L C):KJ E (Exit.then K Q' .normal) D L C:=aO (hK _ _ _ k)
theorem WK {K:Act→World→Prop} {Q':dh} (hK: ∀ D L C,WJ E y Q D L C→KJ E K D L C) (k:WJ E y Q D L C):WJ E .skip (Exit.then K Q') D L C:=cM (aO (hK _ _ _ k))
end
theorem DT {p:Prop} [Decidable p] (h:decide p=true):p:=of_decide_eq_true h
theorem DF {p:Prop} [Decidable p] (h:decide p=false): ¬ p:=of_decide_eq_false h
theorem XT {p:Prop} [Decidable p] (h:(!decide p)=true): ¬ p:=by simpa using h
theorem XF {p:Prop} [Decidable p] (h:(!decide p)=false):p:=by simpa using h
/-- what a function hands back: one result, two, three, that lie in slots -/
theorem Q1 {E:eI} {fn:Func} {K:Act→World→Prop} {L:List (Nat×Value)} {C:List aA} {t:Nat} {u v:Value} (hQ: ∀ D L C,LJ E fn (zD E.w0 v) D L C→KJ E K D L C) (hS:E.S=ue) (hr:fn.results.toList=[.tmp t]) (hl:L.lookup t=some u) (e:u=v):KJ E K [] L C:=
 hQ _ _ _ (bB (vs:=[u]) (by rw [hr]; exact ⟨hl,trivial⟩) fun w hs=>fq e (by rw [hS] at hs; exact hs))
theorem Q2 {E:eI} {fn:Func} {K:Act→World→Prop} {L:List (Nat×Value)} {C:List aA} {t s:Nat} {u x v:Value} (hQ: ∀ D L C,LJ E fn (zD E.w0 v) D L C→KJ E K D L C) (hS:E.S=ue) (hr:fn.results.toList=[.tmp t,.tmp s]) (hl:L.lookup t=some u) (hm:L.lookup s=some x) (e:Value.tuple [u,x].toArray=v):KJ E K [] L C:=
 hQ _ _ _ (bB (vs:=[u,x]) (by rw [hr]; exact ⟨hl,hm,trivial⟩) fun w hs=>fq e (by rw [hS] at hs; exact hs))
theorem N1 {E:eI} {ops:Array Oper} {D:List Deferred} {C' C1:List aA} {F:List (Nat×Value)→List aA→Prop} {tb rem:List Nat} {n:Nat} {L:List (Nat×Value)} {C:List aA} (i:Nat)
 (h:wa E ops D C' C1 F tb n (rem.filter (· != i)) i L C) (hm:rem.filter (fun i=>rem.all fun j=> !gz (nx ops) j i)=[i]:=by kernel_rfl):TN E ops D C' C1 F tb (n+1) rem L C:=hO [i] hm (dI h jM)
theorem NO {E:eI} {ops:Array Oper} {D:List Deferred} {C' C1:List aA} {F:List (Nat×Value)→List aA→Prop} {tb rem:List Nat} {n i:Nat} {L:List (Nat×Value)} {C:List aA} {o:Oper} (ho:ops[i]? =some o) (ht:tb.contains i=false) (rem':List Nat)
 (h: ∀ K:Act→World→Prop,(∀ L' C'',(∀ w,St E.S E.w0 C'' w→St E.S E.w0 C' w)→TN E ops D C' C1 F tb n rem' L' C''→KJ E K D L' C'')→RJ E ops (NQ K) [o] D L C) (hr:rem=rem':=by kernel_rfl):wa E ops D C' C1 F tb n rem i L C:=H0 ho hr ht h
theorem RN {E:eI} {ops:Array Oper} {K:Act→World→Prop} {D:List Deferred} {L:List (Nat×Value)} {C C':List aA} {X:List (Nat×Value)→List aA→Prop} (hT: ∀ L' C'',(∀ w,St E.S E.w0 C'' w→St E.S E.w0 C' w)→X L' C''→KJ E K D L' C'')
 (l:List Nat) (h1:decide l.Nodup=true) (h2:br C l=C') (h:X L C):RJ E ops (NQ K) [] D L C:=aP (hT _ _ (fun w hs=>St.br l h1 h2 hs) h)
theorem RD {E:eI} {ops:Array Oper} {K:Act→World→Prop} {D:List Deferred} {L:List (Nat×Value)} {C C':List aA} {X:List (Nat×Value)→List aA→Prop} (hT: ∀ L' C'',(∀ w,St E.S E.w0 C'' w→St E.S E.w0 C' w)→X L' C''→KJ E K D L' C'')
 (k:Nat) (h2:C.drop k=C') (h:X L C):RJ E ops (NQ K) [] D L C:=aP (hT _ _ (fun w hs=>h2▸hs.take (List.drop_sublist k C)) h)
theorem jh {L L':List (Nat×Value)} (h:L'.map (fun p=>L.lookup p.1)=L'.map (fun p=>some p.2)):an L L':=by
 induction L' with
 |nil=>exact an.nil _
 |cons p t ih=>
  simp only [List.map_cons,List.cons.injEq] at h
  exact an.cons h.1 (ih h.2)
theorem G9 {C:List aA} {A A' B B' D D':aA} (i j k:Nat) (h1:C[i]? =some A') (e1:A'.holds=A.holds) (h2:C[j]? =some B') (e2:B'.holds=B.holds) (h3:C[k]? =some D') (e3:D'.holds=D.holds):j9 C [A,B,D]:=ax i h1 e1 (ax j h2 e2 (ax k h3 e3 ay))
end
section
open Go.RowKit
set_option linter.unusedVariables false
set_option linter.unusedSectionVars false
/-- what is asked of keys -/
structure rQ (P:Program) (kt:Nat) {K:Type} (kV:K→Value):Prop where
 check: ∀ (e:Bool) (x:K) (w:World),(Instr.checkKey e 10000 kt (kV x)).run P w= .ok () w
 find: ∀ (x:K) (w:World) (es:List MapEntry),(∀ e∈es,∃ k,e.key=kV k)→
  ((Instr.findKey kt (kV x) es).run P w= .ok none w∧ ∀ e∈es,e.key≠kV x)∨ ∃ j e,(Instr.findKey kt (kV x) es).run P w= .ok (some (j,e.val)) w∧es[j]? =some e∧e.key=kV x
 bits: ∀ x,Instr.sameBits 10000 (kV x) (kV x)=true
 inj: ∀ x y,kV x=kV y→x=y
section
variable {K:Type} [DecidableEq K] {kV:K→Value}
def dV {β:Type} (l:List (K×β)) (x:K) (y:β):List (K×β):=if (l.lookup x).isSome then l.map (fun p=>if p.1=x then (x,y) else p) else l++[(x,y)]
def cV {β:Type} (l:List (K×β)) (x:K):List (K×β):=l.filter fun p=> !decide (p.1=x)
def bG {β γ:Type} (f:β→γ) (l:List (K×β)):List (K×γ):=l.map fun p=>(p.1,f p.2)
theorem mH {β γ:Type} (f:β→γ) (x:K): ∀ l:List (K×β),(bG f l).lookup x=(l.lookup x).map f
 |[]=>rfl
 |p::l=>by
  obtain ⟨k,v⟩:=p
  have ih:=mH f x l
  by_cases h:x=k
  ·subst h; simp [bG,List.lookup]
  ·have:(x==k)=false:=by simpa using h
   simp only [bG,List.map_cons,List.lookup,this] at ih ⊢
   exact ih
theorem gf {β γ:Type} (f:β→γ) (l:List (K×β)) (x:K) (y:β):bG f (dV l x y)=dV (bG f l) x (f y):=by
 unfold dV
 rw [mH,Option.isSome_map]
 split
 ·simp only [bG,List.map_map]
  refine List.map_congr_left fun p _=>?_
  simp only [Function.comp]
  split<;>rfl
 ·simp [bG]
theorem oY {β γ:Type} (f:β→γ) (l:List (K×β)) (x:K):bG f (cV l x)=cV (bG f l) x:=by
 unfold cV bG
 rw [List.filter_map]
 rfl
theorem gF {β:Type} {x:K}: ∀ {l:List (K×β)},l.lookup x=none↔ ∀ p∈l,p.1≠x
 |[]=>by simp
 |p::l=>by
  obtain ⟨k,v⟩:=p
  by_cases h:x=k
  ·subst h; simp [List.lookup]
  ·have hb:(x==k)=false:=by simpa using h
   simp only [List.lookup,hb,List.mem_cons,forall_eq_or_imp]
   rw [gF (l:=l)]
   exact ⟨fun q=>⟨fun e=>h e.symm,q⟩,fun q=>q.2⟩
theorem ks {β:Type} {x:K} {y:β}: ∀ {l:List (K×β)},(l.map (·.1)).Nodup→((x,y)∈l↔l.lookup x=some y)
 |[],_=>by simp
 |p::l,hn=>by
  obtain ⟨k,v⟩:=p
  simp only [List.map_cons,List.nodup_cons] at hn
  by_cases h:x=k
  ·subst h
   simp only [List.lookup,beq_self_eq_true,List.mem_cons,Prod.mk.injEq,true_and,Option.some.injEq]
   constructor
   ·rintro (e|e)
    ·exact e.symm
    ·exact absurd (List.mem_map.2 ⟨_,e,rfl⟩) hn.1
   ·intro e; exact .inl e.symm
  ·have hb:(x==k)=false:=by simpa using h
   simp only [List.lookup,hb,List.mem_cons,Prod.mk.injEq,h,false_and,false_or]
   exact ks hn.2
structure gT (kV:K→Value) (es:Array MapEntry) (c:Nat) (m:List (K×Value)):Prop where
 list:es.toList.map (fun (e:MapEntry)=>(e.key,e.val))=m.map (fun p=>(kV p.1,p.2))
 keys:(m.map (·.1)).Nodup
 Br: ∀ e∈es.toList,e.born<c
 born:(es.toList.map (·.born)).Nodup
def kD (kV:K→Value) (b:Nat) (m:List (K×Value)):aA where
 ej k:=k=b
 wf k:=k=b
 holds w:= ∃ es c,w.heap[b]? =some (.map es c)∧gT kV es c m
 wr:=true
 i_ _ h:=h
 whole _ _ h:=h
 lt w h k hk:=by obtain ⟨es,c,he,_⟩:=h; exact hk▸dp he
 j2 w w' hk h:=by obtain ⟨es,c,he,hm⟩:=h; exact ⟨es,c,(hk b rfl).trans he,hm⟩
theorem gT.nil:gT kV #[] 0 []:=⟨rfl,List.nodup_nil,by simp,List.nodup_nil⟩
theorem gT.size {es:Array MapEntry} {c:Nat} {m:List (K×Value)} (h:gT kV es c m):es.size=m.length:=by
 have:=congrArg List.length h.list
 simpa using this
theorem xD {P:Program} {kt:Nat} (hk:rQ P kt kV) (x:K): ∀ (es:List MapEntry) (m:List (K×Value)),es.map (fun (e:MapEntry)=>(e.key,e.val))=m.map (fun p=>(kV p.1,p.2))→
 ((∀ e∈es,e.key≠kV x)→m.lookup x=none)∧ ∀ (j:Nat) (e:MapEntry),es[j]? =some e→e.key=kV x→m[j]? =some (x,e.val):=by
 intro es m h
 refine ⟨fun hn=>gF.2 fun p hp e=>?_,fun j e he hx=>?_⟩
 ·have:(kV p.1,p.2)∈es.map (fun (e:MapEntry)=>(e.key,e.val)):=by rw [h]; exact List.mem_map.2 ⟨p,hp,rfl⟩
  obtain ⟨z,hz,hze⟩:=List.mem_map.1 this
  simp only [Prod.mk.injEq] at hze
  exact hn z hz (by rw [hze.1,e])
 ·have h1:(es.map (fun (e:MapEntry)=>(e.key,e.val)))[j]? =some (e.key,e.val):=by rw [List.getElem?_map,he]; rfl
  rw [h,List.getElem?_map] at h1
  cases hm:m[j]? with
  |none=>simp [hm] at h1
  |some p=>
   simp only [hm,Option.map_some,Option.some.injEq,Prod.mk.injEq] at h1
   have:=hk.inj _ _ (h1.1.trans hx)
   obtain ⟨k,v⟩:=p
   simp only at this h1
   rw [this,h1.2]
theorem oH {P:Program} {w:World} {kt:Nat} {x:K} {es:Array MapEntry} {c:Nat} {m:List (K×Value)} (hk:rQ P kt kV) (h:gT kV es c m):
 ((Instr.findKey kt (kV x) es.toList).run P w= .ok none w∧m.lookup x=none)∨
 ∃ j v,(Instr.findKey kt (kV x) es.toList).run P w= .ok (some (j,v)) w∧m[j]? =some (x,v)∧m.lookup x=some v:=by
 obtain ⟨q1,q2⟩:=xD hk x es.toList m h.list
 rcases hk.find x w es.toList (fun e he=>by
  have:(e.key,e.val)∈m.map (fun p=>(kV p.1,p.2)):=by rw [← h.list]; exact List.mem_map.2 ⟨e,he,rfl⟩
  obtain ⟨p,_,hp⟩:=List.mem_map.1 this
  simp only [Prod.mk.injEq] at hp
  exact ⟨p.1,hp.1.symm⟩) with ⟨h1,h2⟩|⟨j,e,h1,h2,h3⟩
 ·exact .inl ⟨h1,q1 h2⟩
 ·have:=q2 j e h2 h3
  exact .inr ⟨j,e.val,h1,this,(ks h.keys).1 (List.mem_of_getElem? this)⟩
theorem iJ {P:Program} {w:World} {kt:Nat} {x:K} (hk:rQ P kt kV) (e:Bool):(Instr.checkKey e 10000 kt (kV x)).run P w= .ok () w:=hk.check e x w
section
variable {E:eI} {ops:Array Oper} {Q:dh} {rest:List Oper} {D:List Deferred} {L:List (Nat×Value)} {C:List aA}
variable {dst:Option Tmp} {d:Nat} {ty:TypeId} {ps:String} {af:Array Edge} {g:Option (Nat×Bool)}
theorem ml {t:TypeId} (hg:jv ops L g=true) (hd:Nat.blt d E.n=true) (k: ∀ b,RJ E ops Q rest D ((d,.map (some b))::L) (kD kV b []::C)):RJ E ops Q (⟨some d,.makeMap t none,ty,ps,af,g⟩::rest) D L C:=by
 intro a w hfr hs
 have hd':d<E.n:=by rw [← Nat.blt_eq]; exact hd
 unfold pc
 rw [if_pos (dz hfr hg)]
 refine gH (v:= .map (some w.heap.size)) (w':=w.alloc (.map #[] 0)) (by simp) ?_ ?_
 ·simp [execOp,Instr.makeMap,newObj,Sem.run]
 ·refine k _ _ _ (hfr.put hd' _) (hs.grow (dj.alloc no w _) (N:=[kD kV w.heap.size []]) ⟨fun A hA=>?_,fun A hA b hb=>?_,List.pairwise_singleton _ _⟩)
  ·simp at hA; subst hA; exact ⟨#[],0,heap_alloc_new w _,gT.nil⟩
  ·simp at hA; subst hA; exact Nat.le_of_eq (Eq.symm hb)
theorem gT.push {es:Array MapEntry} {c:Nat} {m:List (K×Value)} (h:gT kV es c m) {x:K} (hx:m.lookup x=none) (v:Value):gT kV (es.push {key:=kV x,val:=v,born:=c}) (c+1) (m++[(x,v)]):=by
 refine ⟨by simp [h.list],?_,?_,?_⟩
 ·rw [List.map_append,List.nodup_append]
  refine ⟨h.keys,by simp,fun a ha b hb=>?_⟩
  simp at hb; subst hb
  obtain ⟨p,hp,rfl⟩:=List.mem_map.1 ha
  exact gF.1 hx p hp
 ·intro e he
  simp only [Array.toList_push,List.mem_append,List.mem_singleton] at he
  rcases he with he|rfl
  ·exact Nat.lt_succ_of_lt (h.Br e he)
  ·exact Nat.lt_succ_self _
 ·simp only [Array.toList_push,List.map_append,List.map_cons,List.map_nil]
  rw [List.nodup_append]
  refine ⟨h.born,by simp,fun a ha b hb=>?_⟩
  simp at hb; subst hb
  obtain ⟨p,hp,rfl⟩:=List.mem_map.1 ha
  exact Nat.ne_of_lt (h.Br p hp)
theorem Co {m:List (K×Value)} {j:Nat} {x:K} {v0 v:Value} (hn:(m.map (·.1)).Nodup) (hj:m[j]? =some (x,v0)):m.map (fun p=>if p.1=x then (x,v) else p)=m.set j (x,v):=by
 refine List.ext_getElem? fun i=>?_
 rw [List.getElem?_map,List.getElem?_set]
 by_cases e:j=i
 ·subst e
  have hl:=(List.getElem?_eq_some_iff.1 hj).1
  rw [hj]; simp [hl]
 ·rw [if_neg e]
  cases hi:m[i]? with
  |none=>rfl
  |some p=>
   simp only [Option.map_some]
   rw [if_neg]
   intro hp
   have h1:(m.map (·.1))[i]? =some x:=by rw [List.getElem?_map,hi]; simp [hp]
   have h2:(m.map (·.1))[j]? =some x:=by rw [List.getElem?_map,hj]; rfl
   have hil:=(List.getElem?_eq_some_iff.1 h1).1
   exact e (((List.getElem?_inj hil hn).1 (h1.trans h2.symm)).symm)
theorem gT.set {es:Array MapEntry} {c:Nat} {m:List (K×Value)} (h:gT kV es c m) {x:K} {j:Nat} {v0:Value} (hj:m[j]? =some (x,v0)) (hx:m.lookup x=some v0) (v:Value):
 gT kV (es.modify j fun e=>{e with key:=kV x,val:=v}) c (dV m x v):=by
 have e1:dV m x v=m.set j (x,v):=by unfold dV; rw [hx]; simpa using Co h.keys hj
 have hl:=(List.getElem?_eq_some_iff.1 hj).1
 have hsz:=h.size
 have hje:j<es.size:=by omega
 have e2:(es.modify j fun e=>{e with key:=kV x,val:=v}).toList=es.toList.set j {(es[j]) with key:=kV x,val:=v}:=by
  refine List.ext_getElem? fun i=>?_
  rw [Array.getElem?_toList,Array.getElem?_modify,List.getElem?_set]
  by_cases e:j=i
  ·subst e; simp [hje]
  ·simp [e]
 have e3:(es.toList.set j {(es[j]) with key:=kV x,val:=v}).map (·.born)=es.toList.map (·.born):=by
  rw [List.map_set]
  refine List.ext_getElem? fun i=>?_
  rw [List.getElem?_set]
  by_cases e:j=i
  ·subst e; simp [hje]
  ·rw [if_neg e]
 refine ⟨?_,?_,?_,?_⟩
 ·rw [e2,e1,List.map_set,List.map_set,h.list]
 ·rw [e1,List.map_set]
  have:(m.map (·.1)).set j x=m.map (·.1):=by
   refine List.ext_getElem? fun i=>?_
   rw [List.getElem?_set]
   by_cases e:j=i
   ·subst e; simp [hl]; simpa using (congrArg Prod.fst ((List.getElem?_eq_some_iff.1 hj).2)).symm
   ·rw [if_neg e]
  simp only [this]
  exact h.keys
 ·intro e he
  rw [e2] at he
  have hb:e.born∈(es.toList.set j {(es[j]) with key:=kV x,val:=v}).map (·.born):=List.mem_map.2 ⟨e,he,rfl⟩
  rw [e3] at hb
  obtain ⟨e',he',hq⟩:=List.mem_map.1 hb
  rw [← hq]; exact h.Br e' he'
 ·rw [e2,e3]; exact h.born
/-- m[x] = y -/
theorem iQ {t kt et:TypeId} {xm xk xv:Operand} {b:Nat} {x:K} {v:Value} {m m':List (K×Value)} {C':List aA} (i:Nat) (hg:jv ops L g=true) (hm:ev L xm=some (.map (some b))) (hk:ev L xk=some (kV x)) (hv:ev L xv=some v)
 (ht:E.P.underlying t=some (.map kt et)) (hkt:rQ E.P kt kV) (hC:C[i]? =some (kD kV b m)) (hm':dV m x v=m') (hC':C.set i (kD kV b m')=C') (k:RJ E ops Q rest D L C'):
 RJ E ops Q (⟨none,.mapUpdate t xm xk xv,ty,ps,af,g⟩::rest) D L C:=by
 subst hm' hC'
 intro a w hfr hs
 unfold pc
 rw [if_pos (dz hfr hg)]
 obtain ⟨es,c,he,hi⟩:=hs.holds _ (List.mem_of_getElem? hC)
 have hget:(getObj b).run E.P w= .ok (.map es c) w:=MapKept.run_getObj_map he
 rcases oH (P:=E.P) (w:=w) (x:=x) hkt hi with ⟨h1,h2⟩|⟨j,v0,h1,h2,h3⟩
 ·refine oL (w':={w with heap:=w.heap.setIfInBounds b (.map (es.push {key:=kV x,val:=v,born:=c}) (c+1))}) (by simp) ?_ ?_
  ·simp [execOp,hfr.ev hm,hfr.ev hk,hfr.ev hv,Instr.mapUpdate,run_underlying ht,hget,iJ hkt,h1,MapKept.run_setObj_map _ he]
  ·refine k _ _ ⟨hfr.defers,hfr.size,hfr.at_⟩ (hs.wK (b:=b) i hC rfl rfl (kT _) (fun _ h=>h) ⟨_,_,mA he,?_⟩)
   have:dV m x v=m++[(x,v)]:=by unfold dV; rw [h2]; rfl
   rw [this]; exact hi.push h2 v
 ·have hsz:=hi.size
  have hje:j<es.size:=by have:=(List.getElem?_eq_some_iff.1 h2).1; omega
  have hkey:(es[j]).key=kV x:=by
   have:=congrArg (fun l=>l[j]?) hi.list
   simp [hje,h2] at this
   exact this.1
  refine oL (w':={w with heap:=w.heap.setIfInBounds b (.map (es.modify j fun e=>{e with key:=kV x,val:=v}) c)}) (by simp) ?_ ?_
  ·simp [execOp,hfr.ev hm,hfr.ev hk,hfr.ev hv,Instr.mapUpdate,run_underlying ht,hget,iJ hkt,h1,MapKept.run_setObj_map _ he,Instr.keyThatStays,hje,hkey,hkt.bits x]
  ·exact k _ _ ⟨hfr.defers,hfr.size,hfr.at_⟩ (hs.wK (b:=b) i hC rfl rfl (kT _) (fun _ h=>h) ⟨_,_,mA he,hi.set h2 h3 v⟩)
theorem gT.del {es:Array MapEntry} {c:Nat} {m:List (K×Value)} (h:gT kV es c m) {x:K} {j:Nat} {v0:Value} (hj:m[j]? =some (x,v0)):gT kV (es.eraseIdxIfInBounds j) c (cV m x):=by
 have hl:=(List.getElem?_eq_some_iff.1 hj).1
 have hsz:=h.size
 have hje:j<es.size:=by omega
 have e1:(es.eraseIdxIfInBounds j).toList=es.toList.eraseIdx j:=by simp [Array.eraseIdxIfInBounds,hje]
 have e2:cV m x=m.eraseIdx j:=by
  have hn:=h.keys
  clear h hsz hje e1
  induction m generalizing j with
  |nil=>simp at hj
  |cons p m ih=>
   obtain ⟨k,v⟩:=p
   simp only [List.map_cons,List.nodup_cons] at hn
   cases j with
   |zero=>
    simp at hj
    obtain ⟨rfl,rfl⟩:=hj
    simp only [cV,List.eraseIdx_zero,List.tail_cons]
    rw [List.filter_cons_of_neg (by simp)]
    refine List.filter_eq_self.2 fun p hp=>?_
    have:p.1≠k:=fun e=>hn.1 (List.mem_map.2 ⟨p,hp,e⟩)
    simpa using this
   |succ j=>
    simp only [List.getElem?_cons_succ] at hj
    have hne:k≠x:=fun e=>hn.1 (List.mem_map.2 ⟨_,List.mem_of_getElem? hj,e.symm⟩)
    simp only [cV,List.eraseIdx_cons_succ] at ih ⊢
    rw [List.filter_cons_of_pos (by simpa using hne),ih hj (by simpa using (List.getElem?_eq_some_iff.1 hj).1) hn.2]
 have sub:(es.eraseIdxIfInBounds j).toList.Sublist es.toList:=by rw [e1]; exact List.eraseIdx_sublist _ _
 refine ⟨?_,?_,fun e he=>h.Br e (sub.subset he),h.born.sublist (sub.map _)⟩
 ·rw [e1,e2,ChangeMaps.map_eraseIdx,ChangeMaps.map_eraseIdx,h.list]
 ·rw [e2]; exact h.keys.sublist ((List.eraseIdx_sublist _ _).map _)
theorem w8 {m:List (K×Value)} {x:K} (h:m.lookup x=none):cV m x=m:=List.filter_eq_self.2 fun p hp=>by simpa using gF.1 h p hp
/-- y, ok := m[x] -/
theorem BG {t kt et:TypeId} {xm xk:Operand} {b:Nat} {x:K} {z:Value} {m:List (K×Value)} (hg:jv ops L g=true) (hm:ev L xm=some (.map (some b))) (hk:ev L xk=some (kV x))
 (ht:E.P.underlying t=some (.map kt et)) (hkt:rQ E.P kt kV) (hz:tV E.P et=some z) (hC:jS C (kD kV b m).holds):
 SD E ops ⟨dst,.lookup t xm xk true,ty,ps,af,g⟩ D L C (.tuple [(m.lookup x).getD z,.bool (m.lookup x).isSome].toArray):=
 ed hg (by simp) fun a w hfr hs=>by
  obtain ⟨es,c,he,hi⟩:=hs.has hC
  have hget:(getObj b).run E.P w= .ok (.map es c) w:=MapKept.run_getObj_map he
  rcases oH (P:=E.P) (w:=w) (x:=x) hkt hi with ⟨h1,h2⟩|⟨j,v0,h1,h2,h3⟩
  ·simp [execOp,Instr.lookup,hfr.ev hm,hfr.ev hk,run_underlying ht,hget,iJ hkt,h1,h2,EE hz]
  ·simp [execOp,Instr.lookup,hfr.ev hm,hfr.ev hk,run_underlying ht,hget,iJ hkt,h1,h3]
theorem sn {β:Type} {t kt et:TypeId} {xm xk:Operand} {b:Nat} {x:K} {f:β→Value} {z:β} {l:List (K×β)} (hg:jv ops L g=true) (hm:ev L xm=some (.map (some b))) (hk:ev L xk=some (kV x))
 (ht:E.P.underlying t=some (.map kt et)) (hkt:rQ E.P kt kV) (hz:tV E.P et=some (f z)) (hC:jS C (kD kV b (bG f l)).holds):
 SD E ops ⟨dst,.lookup t xm xk true,ty,ps,af,g⟩ D L C (.tuple [f ((l.lookup x).getD z),.bool (l.lookup x).isSome].toArray):=by
 have:=BG (dst:=dst) (ty:=ty) (ps:=ps) (af:=af) (D:=D) hg hm hk ht hkt hz hC
 rw [mH] at this
 have e1:((l.lookup x).map f).getD (f z)=f ((l.lookup x).getD z):=by cases l.lookup x<;>rfl
 rw [e1,Option.isSome_map] at this
 exact this
end
theorem jG {β:Type} {x:K} {y:β} {l:List (K×β)} (h:(x,y)∈l):(cV l x).length<l.length:=by
 unfold cV
 exact List.length_filter_lt_length_iff_exists.2 ⟨_,h,by simp⟩
theorem tU {β:Type} {x:K} {p:K×β} {l:List (K×β)}:p∈cV l x↔p∈l∧p.1≠x:=by simp [cV]
/-- an iterator over a map: what is left; what came last -/
def rl (kV:K→Value) (r b:Nat) (m left:List (K×Value)) (cur:Option (K×Value)):aA where
 ej k:=k=r∨k=b
 wf k:=k=r∨k=b
 holds w:=r≠b∧ ∃ (es:Array MapEntry) (c since:Nat) (seen:Array Nat) (st:Nat),w.heap[b]? =some (.map es c)∧gT kV es c m∧w.heap[r]? =some (.mapIter (some b) since seen st)∧(∀ e∈es.toList,e.born<since)∧since≤st∧since≤c∧
  (leftOf es seen).toList.map (fun (e:MapEntry)=>(e.key,e.val))=left.map (fun p=>(kV p.1,p.2))∧
  ∀ p,cur=some p→ ∃ (e:MapEntry) (seen0:Array Nat),e∈es.toList∧seen=seen0.push e.born∧st=c∧e.key=kV p.1∧e.val=p.2
 wr:=true
 i_ _ h:=h
 whole _ _ h:=h
 lt w h k hk:=by
  obtain ⟨_,es,c,since,seen,st,h1,_,h2,_⟩:=h
  rcases hk with rfl|rfl
  ·exact dp h2
  ·exact dp h1
 j2 w w' hk h:=by
  obtain ⟨hne,es,c,since,seen,st,h1,h2,h3,h4⟩:=h
  exact ⟨hne,es,c,since,seen,st,(hk b (.inr rfl)).trans h1,h2,(hk r (.inl rfl)).trans h3,h4⟩
theorem tk {r b:Nat} {m left:List (K×Value)} {cur:Option (K×Value)}:(∀ w,(rl kV r b m left cur).holds w→(rl kV r b m left none).holds w)∧(∀ k,(rl kV r b m left none).ej k→(rl kV r b m left cur).ej k)∧ ∀ k,(rl kV r b m left none).wf k→(rl kV r b m left cur).wf k:=
 ⟨fun w h=>by
  obtain ⟨hne,es,c,since,seen,st,h1,h2,h3,h4,h5,h5',h6,_⟩:=h
  exact ⟨hne,es,c,since,seen,st,h1,h2,h3,h4,h5,h5',h6,fun p hp=>by cases hp⟩,fun _ h=>h,fun _ h=>h⟩
theorem Bq {r b:Nat} {m left:List (K×Value)} {cur:Option (K×Value)}:(∀ w,(rl kV r b m left cur).holds w→(kD kV b m).holds w)∧(∀ k,(kD kV b m).ej k→(rl kV r b m left cur).ej k)∧ ∀ k,(kD kV b m).wf k→(rl kV r b m left cur).wf k:=
 ⟨fun w h=>by
  obtain ⟨hne,es,c,since,seen,st,h1,h2,_⟩:=h
  exact ⟨es,c,h1,h2⟩,fun _ h=> .inr h,fun _ h=> .inr h⟩
theorem vj {es:Array MapEntry} {c:Nat} {m:List (K×Value)} (hinj: ∀ x y,kV x=kV y→x=y) (hi:gT kV es c m) {x y:MapEntry} (hx:x∈es.toList) (hy:y∈es.toList) (e:x.key=y.key):x=y:=by
 have hk:(es.toList.map (·.key))=(m.map (·.1)).map kV:=by
  have:=congrArg (List.map Prod.fst) hi.list
  simpa [Function.comp_def] using this
 have h:(es.toList.map (·.key)).Nodup:=by
  rw [hk,List.nodup_iff_pairwise_ne,List.pairwise_map]
  exact hi.keys.imp (fun hne he=>hne (hinj _ _ he))
 obtain ⟨i,hii⟩:=List.getElem?_of_mem hx
 obtain ⟨j,hj⟩:=List.getElem?_of_mem hy
 have h1:(es.toList.map (·.key))[i]? =some x.key:=by rw [List.getElem?_map,hii]; rfl
 have h2:(es.toList.map (·.key))[j]? =some x.key:=by rw [List.getElem?_map,hj,e]; rfl
 have h3:=(List.getElem?_inj (List.getElem?_eq_some_iff.1 h1).1 h).1 (h1.trans h2.symm)
 subst h3
 exact Option.some.inj (hii.symm.trans hj)
section
variable {E:eI} {ops:Array Oper} {Q:dh} {rest:List Oper} {D:List Deferred} {L:List (Nat×Value)} {C:List aA}
variable {dst:Option Tmp} {d:Nat} {ty:TypeId} {ps:String} {af:Array Edge} {g:Option (Nat×Bool)}
theorem qH {t kt et:TypeId} {xm:Operand} {b:Nat} {m:List (K×Value)} (i:Nat) (hg:jv ops L g=true) (hm:ev L xm=some (.map (some b))) (ht:E.P.underlying t=some (.map kt et)) (hC:C[i]? =some (kD kV b m)) (hd:Nat.blt d E.n=true)
 (k: ∀ r,RJ E ops Q rest D ((d,.pointer (some ⟨r,0,none⟩))::L) (C.set i (rl kV r b m m none))):RJ E ops Q (⟨some d,.range t xm,ty,ps,af,g⟩::rest) D L C:=by
 intro a w hfr hs
 have hd':d<E.n:=by rw [← Nat.blt_eq]; exact hd
 unfold pc
 rw [if_pos (dz hfr hg)]
 obtain ⟨es,c,he,hi⟩:=hs.holds _ (List.mem_of_getElem? hC)
 have hbl:b<w.heap.size:=dp he
 have hget:(getObj b).run E.P w= .ok (.map es c) w:=MapKept.run_getObj_map he
 refine gH (v:= .pointer (some ⟨w.heap.size,0,none⟩)) (w':=w.alloc (.mapIter (some b) c #[] c)) (by simp) ?_ ?_
 ·simp [execOp,Instr.range,hfr.ev hm,run_underlying ht,hget,newObj,Sem.run]
 ·refine k _ _ _ (hfr.put hd' _) (hs.mv i hC ⟨⟨by omega,es,c,c,#[],c,?_,hi,heap_alloc_new w _,hi.Br,Nat.le_refl _,Nat.le_refl _,?_,fun p hp=>by cases hp⟩,dj.alloc _ w _,fun q hq=>?_,fun q hq=>?_⟩)
  ·rw [Below.heap_alloc w _ b hbl]; exact he
  ·have:leftOf es #[]=es:=by unfold leftOf; exact Array.filter_eq_self.2 (by simp)
   rw [this]; exact hi.list
  ·rcases hq with rfl|rfl
   ·exact .inr (Nat.le_refl _)
   ·exact .inl rfl
  ·rcases hq with rfl|rfl
   ·exact .inr (Nat.le_refl _)
   ·exact .inl rfl
theorem te {es:Array MapEntry} {c:Nat} {m left:List (K×Value)} {seen:Array Nat} (hinj: ∀ x y,kV x=kV y→x=y) (hi:gT kV es c m) (h:(leftOf es seen).toList.map (fun (e:MapEntry)=>(e.key,e.val))=left.map (fun p=>(kV p.1,p.2))):(left.map (·.1)).Nodup:=by
 have h1:((leftOf es seen).toList.map (·.key)).Sublist (es.toList.map (·.key)):=by
  unfold leftOf; rw [Array.toList_filter]; exact List.filter_sublist.map _
 have h2:(es.toList.map (·.key))=(m.map (·.1)).map kV:=by
  have:=congrArg (List.map Prod.fst) hi.list
  simpa [Function.comp_def] using this
 have h3:((leftOf es seen).toList.map (·.key))=(left.map (·.1)).map kV:=by
  have:=congrArg (List.map Prod.fst) h
  simpa [Function.comp_def] using this
 rw [h2,h3] at h1
 have h4:((m.map (·.1)).map kV).Nodup:=by
  rw [List.nodup_iff_pairwise_ne,List.pairwise_map]
  exact hi.keys.imp (fun hne he=>hne (hinj _ _ he))
 have h5:=h4.sublist h1
 rw [List.nodup_iff_pairwise_ne,List.pairwise_map] at h5
 rw [List.nodup_iff_pairwise_ne]
 exact h5.imp (fun hne he=>hne (by rw [he]))
theorem AK (hinj: ∀ x y,kV x=kV y→x=y) {xi:Operand} {r b:Nat} {m left:List (K×Value)} {cur:Option (K×Value)} (i:Nat) (hg:jv ops L g=true) (hm:ev L xi=some (.pointer (some ⟨r,0,none⟩))) (hC:C[i]? =some (rl kV r b m left cur)) (hd:Nat.blt d E.n=true)
 (k0:left=[]→RJ E ops Q rest D ((d,.tuple [.bool false].toArray)::L) C)
 (k1: ∀ x v,(x,v)∈left→(left.map (·.1)).Nodup→RJ E ops Q rest D ((d,.tuple [.bool true,kV x,v].toArray)::L) (C.set i (rl kV r b m (cV left x) (some (x,v))))):
 RJ E ops Q (⟨some d,.next xi false,ty,ps,af,g⟩::rest) D L C:=by
 intro a w hfr hs
 have hd':d<E.n:=by rw [← Nat.blt_eq]; exact hd
 unfold pc
 rw [if_pos (dz hfr hg)]
 obtain ⟨hne,es,c,since,seen,st,h1,hi,h3,hold,hsc,hsc2,hleft,_⟩:=hs.holds _ (List.mem_of_getElem? hC)
 rcases run_next_at (P:=E.P) w ty r b since st seen es c h3 h1 hold hsc with ⟨h0,hr⟩|⟨e,he,w1,hw1,hr⟩
 ·refine gH (v:= .tuple #[.bool false]) (w':=w) (by simp) ?_ ?_
  ·simp [execOp,hfr.ev hm,hr]
  ·refine k0 ?_ _ _ (hfr.put hd' _) hs
   have:(leftOf es seen).toList=[]:=by rw [← List.length_eq_zero_iff,Array.length_toList]; exact h0
   rw [this] at hleft
   exact List.map_eq_nil_iff.1 hleft.symm
 ·have hmem:(e.key,e.val)∈left.map (fun p=>(kV p.1,p.2)):=by rw [← hleft]; exact List.mem_map.2 ⟨e,he,rfl⟩
  obtain ⟨p,hp,hpe⟩:=List.mem_map.1 hmem
  obtain ⟨x,v⟩:=p
  simp only [Prod.mk.injEq] at hpe
  obtain ⟨hk,hv⟩:=hpe
  refine gH (v:= .tuple #[.bool true,e.key,e.val]) (w':=ChangeMaps.setBlock w1 r (.mapIter (some b) since (seen.push e.born) c)) (by simp) ?_ ?_
  ·simp [execOp,hfr.ev hm,hr]
  ·rw [← hk,← hv]
   have hnd:=te hinj hi hleft
   have hees:e∈es.toList:=by unfold leftOf at he; rw [Array.toList_filter] at he; exact (List.mem_filter.1 he).1
   have hcs:c=c:=rfl
   have hheap:w1.heap=w.heap:=by rcases hw1 with rfl|rfl<;>rfl
   refine k1 x v hp hnd _ _ (hfr.put hd' _) (hs.mv i hC ⟨⟨hne,es,c,since,seen.push e.born,c,?_,hi,?_,hold,hsc2,hsc2,?_,fun q hq=>?_⟩,?_,fun q hq=> .inl hq,fun q hq=> .inl hq⟩)
   ·show (w1.heap.setIfInBounds r _)[b]? =_
    rw [Array.getElem?_setIfInBounds_ne hne,hheap]; exact h1
   ·show (w1.heap.setIfInBounds r _)[r]? =_
    rw [Array.getElem?_setIfInBounds_self_of_lt (by rw [hheap]; exact dp h3)]
   ·have hdk:leftOf es (seen.push e.born)=(leftOf es seen).filter (fun z=> !(z.born==e.born)):=by
     unfold leftOf
     rw [Array.filter_filter]
     congr 1
     funext z
     simp only [Array.contains_push,Bool.not_or]
     rw [Bool.and_comm]
    rw [hdk,Array.toList_filter]
    have key: ∀ (l:List MapEntry) (ll:List (K×Value)),(∀ z∈l,z∈es.toList)→l.map (fun (e:MapEntry)=>(e.key,e.val))=ll.map (fun p=>(kV p.1,p.2))→
     (l.filter (fun z=> !(z.born==e.born))).map (fun (e:MapEntry)=>(e.key,e.val))=(cV ll x).map (fun p=>(kV p.1,p.2)):=by
     intro l
     induction l with
     |nil=>intro ll _ h; cases ll with
      |nil=>rfl
      |cons p ll=>simp at h
     |cons z l ih=>
      intro ll hz h
      cases ll with
      |nil=>simp at h
      |cons p ll=>
       simp only [List.map_cons,List.cons.injEq,Prod.mk.injEq] at h
       have ih':=ih ll (fun y hy=>hz y (by simp [hy])) h.2
       have hiff:(z.born=e.born)↔(p.1=x):=by
        constructor
        ·intro hb
         have:z=e:=wJ hi.born (hz z (by simp)) hees hb
         rw [this] at h
         have:=h.1.1.symm.trans hk.symm
         exact hinj _ _ this
        ·intro hx
         have hze:z.key=e.key:=by rw [h.1.1,hx,hk]
         rw [vj hinj hi (hz z (by simp)) hees hze]
       unfold cV at ih' ⊢
       by_cases hx:p.1=x
       ·rw [List.filter_cons_of_neg (by simp [hiff.2 hx]),List.filter_cons_of_neg (by simp [hx])]; exact ih'
       ·rw [List.filter_cons_of_pos (by simpa using fun hb=>hx (hiff.1 hb)),List.filter_cons_of_pos (by simpa using hx)]
        simp only [List.map_cons,h.1.1,h.1.2,ih']
    exact key _ _ (fun z hz=>by unfold leftOf at hz; rw [Array.toList_filter] at hz; exact (List.mem_filter.1 hz).1) hleft
   ·cases hq
    exact ⟨e,seen,hees,rfl,rfl,hk.symm,hv.symm⟩
   ·refine ⟨?_,?_,?_,?_,fun q hq hn=>?_⟩
    ·rcases hw1 with rfl|rfl<;>rfl
    ·rcases hw1 with rfl|rfl<;>rfl
    ·rcases hw1 with rfl|rfl<;>rfl
    ·show w.heap.size≤(w1.heap.setIfInBounds r _).size
     simp [hheap]
    ·show (w1.heap.setIfInBounds r _)[q]? =_
     rw [Array.getElem?_setIfInBounds_ne (fun e=>hn (.inl e.symm)),hheap]
theorem o4 {xi:Operand} {r b:Nat} {m left:List (K×Value)} {x:K} {v:Value} (i:Nat) (hg:jv ops L g=true) (hm:ev L xi=some (.pointer (some ⟨r,0,none⟩))) (hC:C[i]? =some (rl kV r b m left (some (x,v)))):
 SD E ops ⟨dst,.entry xi,ty,ps,af,g⟩ D L C (.tuple [kV x,v].toArray):=
 ed hg (by simp) fun a w hfr hs=>by
  obtain ⟨hne,es,c,since,seen,st,h1,hi,h3,hold,hsc,hsc2,hleft,hcur⟩:=hs.holds _ (List.mem_of_getElem? hC)
  obtain ⟨e,seen0,he,rfl,rfl,hk,hv⟩:=hcur _ rfl
  have:=run_entry_at (P:=E.P) w r b since seen0 es st e h3 h1 he hi.born
  simp [execOp,hfr.ev hm,this,hk,hv]
theorem oU (hinj: ∀ x y,kV x=kV y→x=y) {β:Type} {f:β→Value} {xi:Operand} {r b:Nat} {m:List (K×Value)} {ll:List (K×β)} {cur:Option (K×Value)} (i:Nat) (hg:jv ops L g=true) (hm:ev L xi=some (.pointer (some ⟨r,0,none⟩))) (hC:C[i]? =some (rl kV r b m (bG f ll) cur)) (hd:Nat.blt d E.n=true)
 (k0:ll=[]→RJ E ops Q rest D ((d,.tuple [.bool false].toArray)::L) C)
 (k1: ∀ x y,(x,y)∈ll→(ll.map (·.1)).Nodup→RJ E ops Q rest D ((d,.tuple [.bool true,kV x,f y].toArray)::L) (C.set i (rl kV r b m (bG f (cV ll x)) (some (x,f y))))):
 RJ E ops Q (⟨some d,.next xi false,ty,ps,af,g⟩::rest) D L C:=by
 refine AK hinj i hg hm hC hd (fun h=>k0 (List.map_eq_nil_iff.1 h)) (fun x v hxv hn=>?_)
 obtain ⟨p,hp,hpe⟩:=List.mem_map.1 hxv
 simp only [Prod.mk.injEq] at hpe
 obtain ⟨rfl,rfl⟩:=hpe
 have:=k1 p.1 p.2 hp (by simpa [bG,Function.comp_def] using hn)
 rwa [oY] at this
end
end
end
section
set_option linter.unusedVariables false
structure bh where
 Start:Int
 cI:Int
 oN:List Int
 qX:List (List (Int×ae))
 aJ:Int
 aV:Int
 El:Int
def bh.n (w:bh):Nat:=w.oN.length
def dQ (s:Int):ao:=if s<0 then ⟨0,1⟩ else ⟨1,0⟩
def cO (a b:ao):ao:=⟨a.right+b.right,a.de+b.de⟩
def pU (w:bh) (b:Nat):List (Int×ae):=(w.qX[b]?).getD []
def gj (w:bh) (b:Nat):List (Int×ae):=(-1,⟨w.Start,w.cI⟩)::pU w b
def bx (w:bh) (b:Nat):Int:=(w.oN[b]?).getD 0
def jB (w:bh) (b:Nat) (p:ao×Int) (o:Int×ae):Option (ao×Int):=if max (p.2+bx w b) o.2.Lo≤min o.2.Hi w.cI then some (cO p.1 (dQ o.1),max (p.2+bx w b) o.2.Lo) else none
def fwd (w:bh):Nat→List (ao×Int)
 |0=>[(⟨0,0⟩,w.Start)]
 |b+1=>(fwd w b).flatMap fun p=>(gj w b).filterMap (jB w b p)
def lB (w:bh) (b:Nat) (p:ao×Int) (o:Int×ae):Option (ao×Int):=if o.2.Lo≤min p.2 o.2.Hi then some (cO p.1 (dQ o.1),min p.2 o.2.Hi-bx w b) else none
def bwd (w:bh):Nat→List (ao×Int)
 |0=>[(⟨0,0⟩,w.cI)]
 |k+1=>(⟨0,0⟩,w.cI)::(bwd w k).flatMap fun p=>(gj w (w.n-(k+1))).filterMap (lB w (w.n-(k+1)) p)
def back (w:bh) (b:Nat):List (ao×Int):=bwd w (w.n-b)
def ja (w:bh) (t:ao):Bool:=decide (t.de≤w.aJ∧w.El-t.right≤w.aV)
theorem eL {w:bh} {b:Nat} {q:ao×Int}:q∈fwd w (b+1)↔ ∃ p∈fwd w b,∃ o∈gj w b,jB w b p o=some q:=by
 simp only [fwd,List.mem_flatMap,List.mem_filterMap]
theorem qJ {w:bh} {b:Nat} (h:w.n≤b):back w b=[(⟨0,0⟩,w.cI)]:=by
 unfold back; rw [Nat.sub_eq_zero_of_le h]; rfl
theorem mj {w:bh} {b:Nat} (h:b<w.n) {q:ao×Int}:q∈back w b↔q=(⟨0,0⟩,w.cI)∨ ∃ p∈back w (b+1),∃ o∈gj w b,lB w b p o=some q:=by
 unfold back
 have e:w.n-b=(w.n-(b+1))+1:=by omega
 rw [e]
 simp only [bwd,List.mem_cons,List.mem_flatMap,List.mem_filterMap]
 rw [show w.n-(w.n-(b+1)+1)=b by omega]
def oQ (m c:List (ao×Int)):Prop:=(∀ t v,m.lookup t=some v→(t,v)∈c)∧ ∀ t y,(t,y)∈c→ ∃ v,m.lookup t=some v∧v≤y
def pW (m c:List (ao×Int)):Prop:=(∀ t v,m.lookup t=some v→(t,v)∈c)∧ ∀ t y,(t,y)∈c→ ∃ v,m.lookup t=some v∧y≤v
def q8 (m c:List (ao×Int)):Prop:= ∀ t v,m.lookup t=some v→(t,v)∈c
theorem kM {K β:Type} [DecidableEq K] {m:List (K×β)} {x t:K} {y:β}:(dV m x y).lookup t=if t=x then some y else m.lookup t:=by
 unfold dV
 by_cases hx:(m.lookup x).isSome
 ·rw [if_pos hx]
  have key: ∀ l:List (K×β),(l.lookup x).isSome∨True→(l.map (fun p=>if p.1=x then (x,y) else p)).lookup t=if t=x then (if (l.lookup x).isSome then some y else none) else l.lookup t:=by
   intro l _
   induction l with
   |nil=>simp
   |cons p l ih=>
    obtain ⟨k,v⟩:=p
    have ih:=ih (.inr trivial)
    by_cases hk:k=x
    ·subst hk
     by_cases ht:t=k
     ·subst ht; simp [List.lookup]
     ·have:(t==k)=false:=by simpa using ht
      simp only [List.map_cons,if_true,List.lookup,this,ih,if_neg ht]
    ·have hk':(x==k)=false:=by simpa using fun e=>hk e.symm
     by_cases ht:t=k
     ·subst ht; simp [List.lookup,hk]
     ·have h2:(t==k)=false:=by simpa using ht
      simp only [List.map_cons,if_neg hk,List.lookup,h2,ih,hk']
  rw [key m (.inr trivial)]
  by_cases ht:t=x
  ·subst ht
   rw [if_pos rfl,if_pos rfl,if_pos hx]
  ·rw [if_neg ht,if_neg ht]
 ·rw [if_neg hx]
  have hn:m.lookup x=none:=by cases h0:m.lookup x with
   |none=>rfl
   |some v=>exact absurd (by rw [h0]; rfl) hx
  by_cases ht:t=x
  ·subst ht
   rw [if_pos rfl]
   have:=gF.1 hn
   clear hn hx
   induction m with
   |nil=>simp
   |cons p m ih=>
    obtain ⟨k,v⟩:=p
    have hk:(t==k)=false:=by simpa using fun e=>this (k,v) (by simp) e.symm
    simp only [List.cons_append,List.lookup,hk]
    exact ih (fun q hq=>this q (List.mem_cons_of_mem _ hq))
  ·rw [if_neg ht]
   clear hn hx
   induction m with
   |nil=>
    have:(t==x)=false:=by simpa using ht
    simp [List.lookup,this]
   |cons p m ih=>
    obtain ⟨k,v⟩:=p
    by_cases hk:t=k
    ·subst hk; simp [List.lookup]
    ·have:(t==k)=false:=by simpa using hk
     simp only [List.cons_append,List.lookup,this]
     exact ih
/-- what a map is after a try -/
def mz (m:List (ao×Int)) (q:ao×Int):List (ao×Int):=match m.lookup q.1 with
 |none=>dV m q.1 q.2
 |some v=>if q.2<v then dV m q.1 q.2 else m
def l3 (m:List (ao×Int)) (q:ao×Int):List (ao×Int):=match m.lookup q.1 with
 |none=>dV m q.1 q.2
 |some v=>if v<q.2 then dV m q.1 q.2 else m
theorem sO {m:List (ao×Int)} {q:ao×Int} {t:ao}:(mz m q).lookup t=if t=q.1 then some (match m.lookup q.1 with |none=>q.2|some v=>min q.2 v) else m.lookup t:=by
 unfold mz
 cases h:m.lookup q.1 with
 |none=>simp only; rw [kM]
 |some v=>
  simp only
  split
  ·rename_i hlt
   rw [kM,Int.min_eq_left (by omega)]
  ·rename_i hlt
   split
   ·rename_i e; subst e; rw [h,Int.min_eq_right (by omega)]
   ·rfl
theorem s9 {m:List (ao×Int)} {q:ao×Int} {t:ao}:(l3 m q).lookup t=if t=q.1 then some (match m.lookup q.1 with |none=>q.2|some v=>max q.2 v) else m.lookup t:=by
 unfold l3
 cases h:m.lookup q.1 with
 |none=>simp only; rw [kM]
 |some v=>
  simp only
  split
  ·rename_i hlt
   rw [kM,Int.max_eq_left (by omega)]
  ·rename_i hlt
   split
   ·rename_i e; subst e; rw [h,Int.max_eq_right (by omega)]
   ·rfl
def r8 (m m':List (ao×Int)):Prop:= ∀ t v,m.lookup t=some v→ ∃ v',m'.lookup t=some v'∧v'≤v
def sI (m m':List (ao×Int)):Prop:= ∀ t v,m.lookup t=some v→ ∃ v',m'.lookup t=some v'∧v≤v'
theorem r8.refl (m:List (ao×Int)):r8 m m:=fun t v h=>⟨v,h,by omega⟩
theorem sI.refl (m:List (ao×Int)):sI m m:=fun t v h=>⟨v,h,by omega⟩
theorem q6 {m:List (ao×Int)} {q:ao×Int}:r8 m (mz m q):=fun t v h=>by
 rw [sO]
 split
 ·rename_i e; subst e; rw [h]; exact ⟨_,rfl,by simp only; omega⟩
 ·exact ⟨v,h,by omega⟩
theorem nQ {m:List (ao×Int)} {q:ao×Int}:sI m (l3 m q):=fun t v h=>by
 rw [s9]
 split
 ·rename_i e; subst e; rw [h]; exact ⟨_,rfl,by simp only; omega⟩
 ·exact ⟨v,h,by omega⟩
theorem ze {m c:List (ao×Int)} {q:ao×Int} (h:q8 m c) (hq:q∈c):q8 (mz m q) c:=fun t v hv=>by
 rw [sO] at hv
 split at hv
 ·rename_i e
  subst e
  cases hm:m.lookup q.1 with
  |none=>simp only [hm,Option.some.injEq] at hv; subst hv; exact hq
  |some x=>
   simp only [hm,Option.some.injEq] at hv; subst hv
   rcases Int.lt_or_le q.2 x with q1|q1
   ·rw [Int.min_eq_left (by omega)]; exact hq
   ·rw [Int.min_eq_right (by omega)]; exact h _ _ hm
 ·exact h t v hv
theorem zw {m c:List (ao×Int)} {q:ao×Int} (h:q8 m c) (hq:q∈c):q8 (l3 m q) c:=fun t v hv=>by
 rw [s9] at hv
 split at hv
 ·rename_i e
  subst e
  cases hm:m.lookup q.1 with
  |none=>simp only [hm,Option.some.injEq] at hv; subst hv; exact hq
  |some x=>
   simp only [hm,Option.some.injEq] at hv; subst hv
   rcases Int.lt_or_le q.2 x with q1|q1
   ·rw [Int.max_eq_right (by omega)]; exact h _ _ hm
   ·rw [Int.max_eq_left (by omega)]; exact hq
 ·exact h t v hv
theorem yM {m:List (ao×Int)} {q:ao×Int}: ∃ v,(mz m q).lookup q.1=some v∧v≤q.2:=by
 rw [sO,if_pos rfl]
 refine ⟨_,rfl,?_⟩
 cases m.lookup q.1<;>simp only <;>omega
theorem zE {m:List (ao×Int)} {q:ao×Int}: ∃ v,(l3 m q).lookup q.1=some v∧q.2≤v:=by
 rw [s9,if_pos rfl]
 refine ⟨_,rfl,?_⟩
 cases m.lookup q.1<;>simp only <;>omega
/-- all that comes of one entry, by some options, is held -/
def gS (w:bh) (b:Nat) (m:List (ao×Int)) (p:ao×Int) (os:List (Int×ae)):Prop:= ∀ o∈os,∀ q,jB w b p o=some q→ ∃ v,m.lookup q.1=some v∧v≤q.2
def gU (w:bh) (b:Nat) (m:List (ao×Int)) (p:ao×Int) (os:List (Int×ae)):Prop:= ∀ o∈os,∀ q,lB w b p o=some q→ ∃ v,m.lookup q.1=some v∧q.2≤v
theorem gS.lower {w:bh} {b:Nat} {m m':List (ao×Int)} {p:ao×Int} {os:List (Int×ae)} (h:gS w b m p os) (hl:r8 m m'):gS w b m' p os:=fun o ho q hq=>by
 obtain ⟨v,h1,h2⟩:=h o ho q hq
 obtain ⟨v',h3,h4⟩:=hl _ _ h1
 exact ⟨v',h3,by omega⟩
theorem gU.upper {w:bh} {b:Nat} {m m':List (ao×Int)} {p:ao×Int} {os:List (Int×ae)} (h:gU w b m p os) (hl:sI m m'):gU w b m' p os:=fun o ho q hq=>by
 obtain ⟨v,h1,h2⟩:=h o ho q hq
 obtain ⟨v',h3,h4⟩:=hl _ _ h1
 exact ⟨v',h3,by omega⟩
theorem gS.sub {w:bh} {b:Nat} {m:List (ao×Int)} {p:ao×Int} {os os':List (Int×ae)} (h:gS w b m p os) (hs: ∀ o∈os',o∈os):gS w b m p os':=fun o ho=>h o (hs o ho)
theorem gU.sub {w:bh} {b:Nat} {m:List (ao×Int)} {p:ao×Int} {os os':List (Int×ae)} (h:gU w b m p os) (hs: ∀ o∈os',o∈os):gU w b m p os':=fun o ho=>h o (hs o ho)
theorem gS.add {w:bh} {b:Nat} {m m':List (ao×Int)} {p:ao×Int} {os:List (Int×ae)} {o:Int×ae} (h:gS w b m p os) (hl:r8 m m') (hn: ∀ q,jB w b p o=some q→ ∃ v,m'.lookup q.1=some v∧v≤q.2):gS w b m' p (os++[o]):=fun o' ho q hq=>by
 rcases List.mem_append.1 ho with ho|ho
 ·exact h.lower hl o' ho q hq
 ·simp only [List.mem_singleton] at ho; subst ho; exact hn q hq
theorem gU.add {w:bh} {b:Nat} {m m':List (ao×Int)} {p:ao×Int} {os:List (Int×ae)} {o:Int×ae} (h:gU w b m p os) (hl:sI m m') (hn: ∀ q,lB w b p o=some q→ ∃ v,m'.lookup q.1=some v∧q.2≤v):gU w b m' p (os++[o]):=fun o' ho q hq=>by
 rcases List.mem_append.1 ho with ho|ho
 ·exact h.upper hl o' ho q hq
 ·simp only [List.mem_singleton] at ho; subst ho; exact hn q hq
theorem d_ {m:List (ao×Int)} (hn:(m.map (·.1)).Nodup) {t:ao} {v:Int}:(t,v)∈m↔m.lookup t=some v:=ks hn
theorem mq {z t:ao} {x v:Int}:List.lookup t [(z,x)]=some v↔t=z∧v=x:=by
 by_cases e:t=z
 ·subst e; simp [List.lookup,eq_comm]
 ·have:(t==z)=false:=by simpa using e
  simp [List.lookup,this,e]
theorem yH {w:bh}:oQ [(⟨0,0⟩,w.Start)] (fwd w 0):=by
 refine ⟨fun t v h=>?_,fun t y h=>?_⟩
 ·obtain ⟨rfl,rfl⟩:=mq.1 h
  simp [fwd]
 ·simp only [fwd,List.mem_singleton,Prod.mk.injEq] at h
  obtain ⟨rfl,rfl⟩:=h
  exact ⟨w.Start,mq.2 ⟨rfl,rfl⟩,Int.le_refl _⟩
theorem AP {w:bh} {b:Nat} {mb m:List (ao×Int)} (hn:(mb.map (·.1)).Nodup) (h:oQ mb (fwd w b)) (hs:q8 m (fwd w (b+1))) (hd: ∀ p∈mb,gS w b m p (gj w b)):oQ m (fwd w (b+1)):=⟨hs,fun t y hy=>by
 obtain ⟨p,hp,o,ho,e⟩:=eL.1 hy
 obtain ⟨v,h1,h2⟩:=h.2 p.1 p.2 hp
 unfold jB at e
 split at e
 ·rename_i hle
  simp only [Option.some.injEq,Prod.mk.injEq] at e
  obtain ⟨v',h3,h4⟩:=hd (p.1,v) ((d_ hn).2 h1) o ho (cO p.1 (dQ o.1),max (v+bx w b) o.2.Lo) (by unfold jB; rw [if_pos (by simp only; omega)])
  simp only at h3 h4
  rw [e.1] at h3
  exact ⟨v',h3,by omega⟩
 ·cases e⟩
theorem Ba {w:bh} {b:Nat} (hb:w.n≤b):pW [(⟨0,0⟩,w.cI)] (back w b):=by
 rw [qJ hb]
 refine ⟨fun t v h=>?_,fun t y h=>?_⟩
 ·obtain ⟨rfl,rfl⟩:=mq.1 h
  simp
 ·simp only [List.mem_singleton,Prod.mk.injEq] at h
  obtain ⟨rfl,rfl⟩:=h
  exact ⟨w.cI,mq.2 ⟨rfl,rfl⟩,Int.le_refl _⟩
theorem Ay {w:bh} {b:Nat} (hb:b<w.n) {mb m:List (ao×Int)} (hn:(mb.map (·.1)).Nodup) (h:pW mb (back w (b+1))) (hs:q8 m (back w b)) (h0: ∃ v,m.lookup ⟨0,0⟩=some v∧w.cI≤v) (hd: ∀ p∈mb,gU w b m p (gj w b)):pW m (back w b):=⟨hs,fun t y hy=>by
 rcases (mj hb).1 hy with e|⟨p,hp,o,ho,e⟩
 ·simp only [Prod.mk.injEq] at e
  obtain ⟨rfl,rfl⟩:=e
  exact h0
 obtain ⟨v,h1,h2⟩:=h.2 p.1 p.2 hp
 unfold lB at e
 split at e
 ·rename_i hle
  simp only [Option.some.injEq,Prod.mk.injEq] at e
  obtain ⟨v',h3,h4⟩:=hd (p.1,v) ((d_ hn).2 h1) o ho (cO p.1 (dQ o.1),min v o.2.Hi-bx w b) (by unfold lB; rw [if_pos (by simp only; omega)])
  simp only at h3 h4
  rw [e.1] at h3
  exact ⟨v',h3,by omega⟩
 ·cases e⟩
end
section
set_option linter.unusedVariables false
def iu (w:bh) (b:Nat) (p u:ao×Int) (o:Int×ae):ae:=⟨max (p.2+bx w b) o.2.Lo,min u.2 o.2.Hi⟩
def sS (p u:ao×Int) (o:Int×ae):ao:=cO (cO p.1 u.1) (dQ o.1)
def kE (w:bh) (b:Nat) (p u:ao×Int) (o:Int×ae):Option (Int×ae):=if (iu w b p u o).Lo≤(iu w b p u o).Hi∧ja w (sS p u o)=true then some (o.1,iu w b p u o) else none
def kI (w:bh) (b:Nat) (mf mb:List (ao×Int)):List (Int×ae):=(gj w b).flatMap fun o=>mf.flatMap fun p=>mb.filterMap fun u=>kE w b p u o
def jN (w:bh) (b:Nat):List (Int×ae):=kI w b (fwd w b) (back w (b+1))
theorem gD {w:bh} {b:Nat} {mf mb:List (ao×Int)} {q:Int×ae}:q∈kI w b mf mb↔ ∃ o∈gj w b,∃ p∈mf,∃ u∈mb,kE w b p u o=some q:=by
 simp only [kI,List.mem_flatMap,List.mem_filterMap]
theorem iz {w:bh} {b:Nat} {p u:ao×Int} {o q:Int×ae}:kE w b p u o=some q↔(iu w b p u o).Lo≤(iu w b p u o).Hi∧ja w (sS p u o)=true∧q=(o.1,iu w b p u o):=by
 unfold kE
 split
 ·rename_i h
  simp only [Option.some.injEq]
  exact ⟨fun e=>⟨h.1,h.2,e.symm⟩,fun e=>e.2.2.symm⟩
 ·rename_i h
  simp only [reduceCtorEq,false_iff]
  exact fun e=>h ⟨e.1,e.2.1⟩
theorem kN {w:bh} {b:Nat} {mf mb:List (ao×Int)} {q:Int×ae} (h:q∈kI w b mf mb):q.2.Lo≤q.2.Hi:=by
 obtain ⟨o,_,p,_,u,_,e⟩:=gD.1 h
 obtain ⟨h1,_,rfl⟩:=iz.1 e
 exact h1
/-- what the maps tell is what all ways tell -/
theorem yg {w:bh} {b:Nat} {mf mb:List (ao×Int)} (hf:oQ mf (fwd w b)) (hb:pW mb (back w (b+1))) (nf:(mf.map (·.1)).Nodup) (nb:(mb.map (·.1)).Nodup) {q:Int×ae} (h:q∈kI w b mf mb):q∈jN w b:=by
 obtain ⟨o,ho,p,hp,u,hu,e⟩:=gD.1 h
 exact gD.2 ⟨o,ho,p,hf.1 _ _ ((d_ nf).1 hp),u,hb.1 _ _ ((d_ nb).1 hu),e⟩
theorem vo {w:bh} {b:Nat} {mf mb:List (ao×Int)} (hf:oQ mf (fwd w b)) (hb:pW mb (back w (b+1))) (nf:(mf.map (·.1)).Nodup) (nb:(mb.map (·.1)).Nodup) {q:Int×ae} (h:q∈jN w b): ∃ q'∈kI w b mf mb,q'.1=q.1∧q'.2.Lo≤q.2.Lo∧q.2.Hi≤q'.2.Hi:=by
 obtain ⟨o,ho,p,hp,u,hu,e⟩:=gD.1 h
 obtain ⟨h1,h2,rfl⟩:=iz.1 e
 obtain ⟨v,hv,hv2⟩:=hf.2 p.1 p.2 hp
 obtain ⟨y,hy,hy2⟩:=hb.2 u.1 u.2 hu
 simp only [iu] at h1
 refine ⟨(o.1,iu w b (p.1,v) (u.1,y) o),gD.2 ⟨o,ho,(p.1,v),(d_ nf).2 hv,(u.1,y),(d_ nb).2 hy,iz.2 ⟨?_,h2,rfl⟩⟩,rfl,?_,?_⟩
 ·simp only [iu]; omega
 ·simp only [iu]; omega
 ·simp only [iu]; omega
def k9:ae:=⟨1,0⟩
def ky (h x:ae):ae:=if h=k9 then x else ⟨min x.Lo h.Lo,max x.Hi h.Hi⟩
def sD (l:List (Int×ae)):ae:=l.foldl (fun h q=>ky h q.2) k9
structure lZ (l:List (Int×ae)) (h:ae):Prop where
 le:h.Lo≤h.Hi
 lo: ∃ x∈l,x.2.Lo=h.Lo
 hi: ∃ x∈l,x.2.Hi=h.Hi
 all: ∀ x∈l,h.Lo≤x.2.Lo∧x.2.Hi≤h.Hi
def iW (l:List (Int×ae)) (h:ae):Prop:=(l=[]∧h=k9)∨lZ l h
theorem lZ.ne {l:List (Int×ae)} {h:ae} (hh:lZ l h):h≠k9:=fun e=>by
 have:=hh.le; rw [e] at this; simp [k9] at this
theorem wk:iW [] k9:= .inl ⟨rfl,rfl⟩
theorem qN {l:List (Int×ae)} {h:ae} {q:Int×ae} (hh:iW l h) (hq:q.2.Lo≤q.2.Hi):iW (l++[q]) (ky h q.2):=by
 right
 rcases hh with ⟨rfl,rfl⟩|hh
 ·unfold ky
  rw [if_pos rfl]
  exact ⟨hq,⟨q,by simp,rfl⟩,⟨q,by simp,rfl⟩,fun x hx=>by simp at hx; subst hx; exact ⟨Int.le_refl _,Int.le_refl _⟩⟩
 ·unfold ky
  rw [if_neg hh.ne]
  have h1:=hh.le
  obtain ⟨a,ha,ea⟩:=hh.lo
  obtain ⟨c,hc,ec⟩:=hh.hi
  refine ⟨by simp only; omega,?_,?_,fun x hx=>?_⟩
  ·rcases Int.lt_or_le q.2.Lo h.Lo with p|p
   ·exact ⟨q,by simp,by simp only; omega⟩
   ·exact ⟨a,by simp [ha],by simp only; omega⟩
  ·rcases Int.lt_or_le h.Hi q.2.Hi with p|p
   ·exact ⟨q,by simp,by simp only; omega⟩
   ·exact ⟨c,by simp [hc],by simp only; omega⟩
  ·rcases List.mem_append.1 hx with hx|hx
   ·have:=hh.all x hx; simp only; omega
   ·simp at hx; subst hx; simp only; omega
theorem r_ {l:List (Int×ae)} (hl: ∀ q∈l,q.2.Lo≤q.2.Hi):iW l (sD l):=by
 have key: ∀ (r d:List (Int×ae)) (h:ae),(∀ q∈r,q.2.Lo≤q.2.Hi)→iW d h→iW (d++r) (r.foldl (fun h q=>ky h q.2) h):=by
  intro r
  induction r with
  |nil=>intro d h _ hd; simpa using hd
  |cons q r ih=>
   intro d h hr hd
   have:=ih (d++[q]) (ky h q.2) (fun x hx=>hr x (List.mem_cons_of_mem _ hx)) (qN hd (hr q (by simp)))
   simpa using this
 have:=key l [] k9 hl wk
 rw [List.nil_append] at this
 exact this
def xL (a b:List (Int×ae)):Prop:= ∀ x∈b,∃ y∈a,y.2.Lo≤x.2.Lo∧x.2.Hi≤y.2.Hi
theorem CI {a b:List (Int×ae)} {h k:ae} (ha:iW a h) (hb:iW b k) (hab:xL a b) (hba:xL b a):h=k:=by
 rcases ha with ⟨rfl,rfl⟩|ha
 ·rcases hb with ⟨rfl,rfl⟩|hb
  ·rfl
  ·obtain ⟨x,hx,_⟩:=hb.lo
   obtain ⟨y,hy,_⟩:=hab x hx
   cases hy
 ·rcases hb with ⟨rfl,rfl⟩|hb
  ·obtain ⟨x,hx,_⟩:=ha.lo
   obtain ⟨y,hy,_⟩:=hba x hx
   cases hy
  ·have le: ∀ {a b:List (Int×ae)} {h k:ae},lZ a h→lZ b k→xL a b→h.Lo≤k.Lo∧k.Hi≤h.Hi:=fun {a b h k} ha hb hab=>by
    obtain ⟨x,hx,ex⟩:=hb.lo
    obtain ⟨z,hz,ez⟩:=hb.hi
    obtain ⟨y,hy,ey⟩:=hab x hx
    obtain ⟨y',hy',ey'⟩:=hab z hz
    have h1:=ha.all y hy
    have h2:=ha.all y' hy'
    omega
   have h1:=le ha hb hab
   have h2:=le hb ha hba
   rw [ae.ext_iff]; omega
theorem qE {w:bh} {b:Nat} {mf mb:List (ao×Int)} {l:List (Int×ae)} {h:ae} (hf:oQ mf (fwd w b)) (hb:pW mb (back w (b+1))) (nf:(mf.map (·.1)).Nodup) (nb:(mb.map (·.1)).Nodup)
 (hl: ∀ q∈l,q∈kI w b mf mb) (hl2: ∀ q∈kI w b mf mb,q∈l) (hh:iW l h):h=sD (jN w b):=
 CI hh (r_ fun q hq=>kN hq) (fun x hx=>by
  obtain ⟨q,hq,_,h1,h2⟩:=vo hf hb nf nb hx
  exact ⟨q,hl2 q hq,h1,h2⟩) (fun x hx=>⟨x,yg hf hb nf nb (hl x hx),Int.le_refl _,Int.le_refl _⟩)
def gN (w:bh) (m:List (ao×Int)):Bool:=m.any fun p=>ja w p.1
theorem vN {w:bh} {b:Nat} {m:List (ao×Int)} (h:oQ m (fwd w b)) (nf:(m.map (·.1)).Nodup):gN w m=gN w (fwd w b):=by
 unfold gN
 rw [Bool.eq_iff_iff,List.any_eq_true,List.any_eq_true]
 constructor
 ·rintro ⟨p,hp,h2⟩
  exact ⟨p,h.1 _ _ ((d_ nf).1 hp),h2⟩
 ·rintro ⟨p,hp,h2⟩
  obtain ⟨v,hv,_⟩:=h.2 p.1 p.2 hp
  exact ⟨(p.1,v),(d_ nf).2 hv,h2⟩
def eJ (w:bh) (k:Nat):List Int:=((List.range k).filter fun i=>gN w (fwd w i)).map fun (i:Nat)=>(i:Int)
def eb (w:bh):List Int:=eJ w (w.n+1)
theorem rP {w:bh} {k:Nat} (h:gN w (fwd w k)=true):eJ w (k+1)=eJ w k++[(k:Int)]:=by simp [eJ,List.range_succ,h]
theorem uu {w:bh} {k:Nat} (h:gN w (fwd w k)=false):eJ w (k+1)=eJ w k:=by simp [eJ,List.range_succ,h]
theorem lz {w:bh} {k:Nat}:(eJ w k).length≤k:=by
 unfold eJ
 rw [List.length_map]
 exact Nat.le_trans (List.length_filter_le _ _) (by simp)
end
section
open Go.RowKit
set_option linter.unusedVariables false
theorem yX {P:Program} {t:Nat} {k:IntKind} (hu:P.underlying t=some (.int k)) (e:Bool) (n:Nat) (v:Value) (w:World):(Instr.checkKey e (n+1) t v).run P w= .ok () w:=by
 unfold Instr.checkKey
 simp only [Sem.run_bind,run_underlying hu,Result.andThen]
 cases v<;>rfl
theorem uU {P:Program} {kt:Nat} {l:List (Nat×Nat)} (hl:fL P kt=some l) (e:Bool) (n:Nat) (cs:Array Value) (w:World)
 (hf: ∀ p∈l,(∃ v,(part p.1 cs p.2).run P w= .ok v w)∧ ∃ k,P.underlying p.1=some (.int k)):(Instr.checkKey e (n+2) kt (.agg cs)).run P w= .ok () w:=by
 unfold fL at hl
 cases hu:P.underlying kt with
 |none=>simp [hu] at hl
 |some d=>
  cases d<;>simp [hu] at hl
  rename_i fs
  obtain ⟨hn,hl⟩:=hl
  rw [show n+2=(n+1)+1 from rfl,Instr.checkKey]
  simp only [Sem.run_bind,run_underlying hu,Result.andThen_ok]
  rw [← Array.forIn_toList]
  have hall: ∀ f∈fs.toList,(∃ v,(part f.type cs f.offset).run P w= .ok v w)∧ ∃ k,P.underlying f.type=some (.int k):=fun f hf'=>hf (f.type,f.offset) (by rw [← hl]; exact List.mem_map.2 ⟨f,hf',rfl⟩)
  have hnm: ∀ f∈fs.toList,f.name≠"_":=fun f hf'=>by
   obtain ⟨i,hi,rfl⟩:=List.getElem_of_mem hf'
   exact hn.1.1 i (by simpa using hi)
  clear hl hn hf
  generalize fs.toList=L at hall hnm
  induction L with
  |nil=>simp
  |cons f L ih=>
   obtain ⟨⟨v,hv⟩,k,hk⟩:=hall f (by simp)
   have hne:=hnm f (by simp)
   simp only [List.forIn_cons,Sem.run_bind,hne,ne_eq,not_false_eq_true,if_true,Result.andThen_ok,hv,yX hk,Sem.run_pure]
   exact ih (fun y hy=>hall y (by simp [hy])) (fun y hy=>hnm y (by simp [hy]))
theorem wq {P:Program} {kt:Nat} {K:Type} [DecidableEq K] {kV:K→Value} (hw: ∀ (k:Value) (es:List MapEntry) (w:World),(Instr.findKey kt k es).run P w=(Instr.findAsking kt k es).run P w)
 (heq: ∀ x y w,(Op.equal kt (kV x) (kV y)).run P w= .ok (decide (x=y)) w) (inj: ∀ x y,kV x=kV y→x=y) (x:K) (w:World) (es:List MapEntry) (hk: ∀ e∈es,∃ k,e.key=kV k):
 ((Instr.findKey kt (kV x) es).run P w= .ok none w∧ ∀ e∈es,e.key≠kV x)∨ ∃ j e,(Instr.findKey kt (kV x) es).run P w= .ok (some (j,e.val)) w∧es[j]? =some e∧e.key=kV x:=by
 have key: ∀ (es:List MapEntry) (i:Nat),(∀ e∈es,∃ k,e.key=kV k)→((Instr.findAsking kt (kV x) es i).run P w= .ok none w∧ ∀ e∈es,e.key≠kV x)∨ ∃ j e,(Instr.findAsking kt (kV x) es i).run P w= .ok (some (i+j,e.val)) w∧es[j]? =some e∧e.key=kV x:=by
  intro es
  induction es with
  |nil=>intro i _; exact .inl ⟨by simp [Instr.findAsking],by simp⟩
  |cons e es ih=>
   intro i hall
   obtain ⟨k,hek⟩:=hall e (by simp)
   by_cases h:x=k
   ·refine .inr ⟨0,e,?_,rfl,by rw [hek,h]⟩
    subst h
    simp [Instr.findAsking,hek,heq]
   ·rcases ih (i+1) (fun y hy=>hall y (by simp [hy])) with ⟨h1,h2⟩|⟨j,e',h1,h2,h3⟩
    ·refine .inl ⟨by simp [Instr.findAsking,hek,heq,h,h1],fun y hy=>?_⟩
     rcases List.mem_cons.1 hy with rfl|hy
     ·rw [hek]; exact fun q=>h (inj _ _ q).symm
     ·exact h2 y hy
    ·exact .inr ⟨j+1,e',by simp [Instr.findAsking,hek,heq,h,h1]; omega,by simpa using h2,h3⟩
 rw [hw]
 rcases key es 0 hk with h|⟨j,e,h1,h2,h3⟩
 ·exact .inl h
 ·exact .inr ⟨j,e,by simpa using h1,h2,h3⟩
theorem xK {P:Program} {kt:Nat} {l:List (Nat×Nat)} (hl:fL P kt=some l) (k:Value) (es:List MapEntry) (w:World):(Instr.findKey kt k es).run P w=(Instr.findAsking kt k es).run P w:=by
 refine run_findKey_eq w ?_ k es
 unfold fL at hl
 cases hu:P.underlying kt with
 |none=>simp [hu] at hl
 |some d=>cases d<;>simp [hu] at hl ⊢
theorem CK {P:Program} {kt:Nat} {K:Type} [DecidableEq K] {kV:K→Value} {l:List (Nat×Nat)} (hl:fL P kt=some l) (heq: ∀ x y w,(Op.equal kt (kV x) (kV y)).run P w= .ok (decide (x=y)) w) (inj: ∀ x y,kV x=kV y→x=y)
 (hb: ∀ x,Instr.sameBits 10000 (kV x) (kV x)=true) (hp: ∀ x w,∃ cs,kV x= .agg cs∧ ∀ p∈l,(∃ v,(part p.1 cs p.2).run P w= .ok v w)∧ ∃ k,P.underlying p.1=some (.int k)):rQ P kt kV:=
 ⟨fun e x w=>by obtain ⟨cs,e1,e2⟩:=hp x w; rw [e1]; exact uU hl e 9998 cs w e2,fun x w es=>wq (xK hl) heq inj x w es,hb,inj⟩
end
section
open Go.RowKit
set_option linter.unusedVariables false
set_option linter.unusedSectionVars false
theorem ku {P:Program} {kt:Nat} (hk:P.underlying kt=some (.int .i64)):rQ P kt (Value.int .i64):=by
 refine ⟨fun e x w=>zK hk e,fun x w es hall=>?_,fun x=>by simp [Instr.sameBits],fun x y h=>by injection h⟩
 have key: ∀ (es:List MapEntry) (i:Nat),(∀ e∈es,∃ k:Int,e.key= .int .i64 k)→(Instr.findNow (.int .i64) (.int .i64 x) es i=some none∧ ∀ e∈es,e.key≠ .int .i64 x)∨ ∃ j e,Instr.findNow (.int .i64) (.int .i64 x) es i=some (some (i+j,e.val))∧es[j]? =some e∧e.key= .int .i64 x:=by
  intro es
  induction es with
  |nil=>intro i _; exact .inl ⟨rfl,by simp⟩
  |cons e es ih=>
   intro i hall
   obtain ⟨k,hek⟩:=hall e (by simp)
   by_cases h:x=k
   ·subst h
    exact .inr ⟨0,e,by simp [Instr.findNow,Instr.sameNow,hek],rfl,hek⟩
   ·have hb:(x==k)=false:=by simpa using h
    rcases ih (i+1) (fun y hy=>hall y (by simp [hy])) with ⟨h1,h2⟩|⟨j,e',h1,h2,h3⟩
    ·refine .inl ⟨by simp [Instr.findNow,Instr.sameNow,hek,hb,h1],fun y hy=>?_⟩
     rcases List.mem_cons.1 hy with rfl|hy
     ·rw [hek]; intro q; injection q with _ q; exact h q.symm
     ·exact h2 y hy
    ·refine .inr ⟨j+1,e',?_,by simpa using h2,h3⟩
     simp only [Instr.findNow,Instr.sameNow,hek,hb,if_true,h1]
     simp; omega
 rcases key es 0 hall with ⟨h1,h2⟩|⟨j,e,h1,h2,h3⟩
 ·exact .inl ⟨MapKept.run_findKey hk h1,h2⟩
 ·exact .inr ⟨j,e,MapKept.run_findKey hk (by simpa using h1),h2,h3⟩
theorem St.Cb {S:BS} {w0 w w':World} {C:List aA} {A N:aA} (h:St S w0 C w) (i:Nat) (hA:C[i]? =some A) (k:dj no w w') (hN:N.holds w') (hf: ∀ b,N.ej b→w.heap.size≤b∨A.ej b∧ ¬ A.wf b∧ ¬ N.wf b):St S w0 (N::C) w':=by
 have h':=h.same k
 have hmem:=List.mem_of_getElem? hA
 have hi:=(List.getElem?_eq_some_iff.1 hA).1
 have hget:C[i]=A:=(List.getElem?_eq_some_iff.1 hA).2
 refine ⟨h'.keeps,fun X hX=>?_,List.Pairwise.cons (fun X hX b hb hb'=>?_) h'.sep,fun X hX b hb=>?_,fun X hX b hb=>?_⟩
 ·rcases List.mem_cons.1 hX with rfl|hX
  ·exact hN
  ·exact h'.holds X hX
 ·rcases hf b hb with h1|⟨h1,h2,h3⟩
  ·have:=X.lt w (h.holds X hX) b hb'; omega
  ·refine ⟨h3,?_⟩
   obtain ⟨j,hj,hjX⟩:=List.mem_iff_getElem.1 hX
   by_cases e:j=i
   ·subst e; rw [← hjX,hget]; exact h2
   ·rcases Nat.lt_or_gt_of_ne e with hlt|hlt
    ·have:=List.pairwise_iff_getElem.1 h.sep j i hj hi hlt b (by rw [hjX]; exact hb') (by rw [hget]; exact h1)
     rw [← hjX]; exact this.1
    ·have:=List.pairwise_iff_getElem.1 h.sep i j hi hj hlt b (by rw [hget]; exact h1) (by rw [hjX]; exact hb')
     rw [← hjX]; exact this.2
 ·rcases List.mem_cons.1 hX with rfl|hX
  ·rcases hf b (X.i_ b hb) with h1|⟨_,_,h3⟩
   ·exact .inl (Nat.le_trans h.keeps.size h1)
   ·exact absurd hb h3
  ·exact h'.own X hX b hb
 ·rcases List.mem_cons.1 hX with rfl|hX
  ·rcases hf b hb with h1|⟨h1,_,_⟩
   ·exact .inl (Nat.le_trans h.keeps.size h1)
   ·exact h.seen A hmem b h1
  ·exact h'.seen X hX b hb
section
variable {K:Type} [DecidableEq K] {kV:K→Value}
/-- an iterator over a map that is read alone -/
def pv (kV:K→Value) (r b:Nat) (m left:List (K×Value)) (cur:Option (K×Value)):aA where
 ej k:=k=r∨k=b
 wf k:=k=r
 holds w:=r≠b∧ ∃ (es:Array MapEntry) (c since:Nat) (seen:Array Nat) (st:Nat),w.heap[b]? =some (.map es c)∧gT kV es c m∧w.heap[r]? =some (.mapIter (some b) since seen st)∧(∀ e∈es.toList,e.born<since)∧since≤st∧since≤c∧
  (leftOf es seen).toList.map (fun (e:MapEntry)=>(e.key,e.val))=left.map (fun p=>(kV p.1,p.2))∧
  ∀ p,cur=some p→ ∃ (e:MapEntry) (seen0:Array Nat),e∈es.toList∧seen=seen0.push e.born∧st=c∧e.key=kV p.1∧e.val=p.2
 wr:=false
 i_ _ h:= .inl h
 whole h:=by cases h
 lt w h k hk:=by
  obtain ⟨_,es,c,since,seen,st,h1,_,h2,_⟩:=h
  rcases hk with rfl|rfl
  ·exact dp h2
  ·exact dp h1
 j2 w w' hk h:=by
  obtain ⟨hne,es,c,since,seen,st,h1,h2,h3,h4⟩:=h
  exact ⟨hne,es,c,since,seen,st,(hk b (.inr rfl)).trans h1,h2,(hk r (.inl rfl)).trans h3,h4⟩
theorem mm {r b:Nat} {m left:List (K×Value)} {cur:Option (K×Value)}:(∀ w,(pv kV r b m left cur).holds w→(pv kV r b m left none).holds w)∧(∀ k,(pv kV r b m left none).ej k→(pv kV r b m left cur).ej k)∧ ∀ k,(pv kV r b m left none).wf k→(pv kV r b m left cur).wf k:=
 ⟨fun w h=>by
  obtain ⟨hne,es,c,since,seen,st,h1,h2,h3,h4,h5,h5',h6,_⟩:=h
  exact ⟨hne,es,c,since,seen,st,h1,h2,h3,h4,h5,h5',h6,fun p hp=>by cases hp⟩,fun _ h=>h,fun _ h=>h⟩
section
variable {E:eI} {ops:Array Oper} {Q:dh} {rest:List Oper} {D:List Deferred} {L:List (Nat×Value)} {C:List aA}
variable {dst:Option Tmp} {d:Nat} {ty:TypeId} {ps:String} {af:Array Edge} {g:Option (Nat×Bool)}
theorem mU {t kt et:TypeId} {xm:Operand} {b:Nat} {m:List (K×Value)} {A:aA} (i:Nat) (hg:jv ops L g=true) (hm:ev L xm=some (.map (some b))) (ht:E.P.underlying t=some (.map kt et)) (hA:C[i]? =some A) (hAf:A.ej b∧ ¬ A.wf b) (hC:jS C (kD kV b m).holds) (hd:Nat.blt d E.n=true)
 (k: ∀ r,RJ E ops Q rest D ((d,.pointer (some ⟨r,0,none⟩))::L) (pv kV r b m m none::C)):RJ E ops Q (⟨some d,.range t xm,ty,ps,af,g⟩::rest) D L C:=by
 intro a w hfr hs
 have hd':d<E.n:=by rw [← Nat.blt_eq]; exact hd
 unfold pc
 rw [if_pos (dz hfr hg)]
 obtain ⟨es,c,he,hi⟩:=hs.has hC
 have hbl:b<w.heap.size:=dp he
 have hget:(getObj b).run E.P w= .ok (.map es c) w:=MapKept.run_getObj_map he
 refine gH (v:= .pointer (some ⟨w.heap.size,0,none⟩)) (w':=w.alloc (.mapIter (some b) c #[] c)) (by simp) ?_ ?_
 ·simp [execOp,Instr.range,hfr.ev hm,run_underlying ht,hget,newObj,Sem.run]
 ·refine k _ _ _ (hfr.put hd' _) (hs.Cb i hA (dj.alloc no w _) ⟨by omega,es,c,c,#[],c,?_,hi,heap_alloc_new w _,hi.Br,Nat.le_refl _,Nat.le_refl _,?_,fun p hp=>by cases hp⟩ (fun q hq=>?_))
  ·rw [Below.heap_alloc w _ b hbl]; exact he
  ·have:leftOf es #[]=es:=by unfold leftOf; exact Array.filter_eq_self.2 (by simp)
   rw [this]; exact hi.list
  ·rcases hq with rfl|rfl
   ·exact .inl (Nat.le_refl _)
   ·refine .inr ⟨hAf.1,hAf.2,fun (e:q=w.heap.size)=>by omega⟩
theorem zI (hinj: ∀ x y,kV x=kV y→x=y) {xi:Operand} {r b:Nat} {m left:List (K×Value)} {cur:Option (K×Value)} (i:Nat) (hg:jv ops L g=true) (hm:ev L xi=some (.pointer (some ⟨r,0,none⟩))) (hC:C[i]? =some (pv kV r b m left cur)) (hd:Nat.blt d E.n=true)
 (k0:left=[]→RJ E ops Q rest D ((d,.tuple [.bool false].toArray)::L) C)
 (k1: ∀ x v,(x,v)∈left→(left.map (·.1)).Nodup→RJ E ops Q rest D ((d,.tuple [.bool true,kV x,v].toArray)::L) (C.set i (pv kV r b m (cV left x) (some (x,v))))):
 RJ E ops Q (⟨some d,.next xi false,ty,ps,af,g⟩::rest) D L C:=by
 intro a w hfr hs
 have hd':d<E.n:=by rw [← Nat.blt_eq]; exact hd
 unfold pc
 rw [if_pos (dz hfr hg)]
 obtain ⟨hne,es,c,since,seen,st,h1,hi,h3,hold,hsc,hsc2,hleft,_⟩:=hs.holds _ (List.mem_of_getElem? hC)
 rcases run_next_at (P:=E.P) w ty r b since st seen es c h3 h1 hold hsc with ⟨h0,hr⟩|⟨e,he,w1,hw1,hr⟩
 ·refine gH (v:= .tuple #[.bool false]) (w':=w) (by simp) ?_ ?_
  ·simp [execOp,hfr.ev hm,hr]
  ·refine k0 ?_ _ _ (hfr.put hd' _) hs
   have:(leftOf es seen).toList=[]:=by rw [← List.length_eq_zero_iff,Array.length_toList]; exact h0
   rw [this] at hleft
   exact List.map_eq_nil_iff.1 hleft.symm
 ·have hmem:(e.key,e.val)∈left.map (fun p=>(kV p.1,p.2)):=by rw [← hleft]; exact List.mem_map.2 ⟨e,he,rfl⟩
  obtain ⟨p,hp,hpe⟩:=List.mem_map.1 hmem
  obtain ⟨x,v⟩:=p
  simp only [Prod.mk.injEq] at hpe
  obtain ⟨hk,hv⟩:=hpe
  refine gH (v:= .tuple #[.bool true,e.key,e.val]) (w':=ChangeMaps.setBlock w1 r (.mapIter (some b) since (seen.push e.born) c)) (by simp) ?_ ?_
  ·simp [execOp,hfr.ev hm,hr]
  ·rw [← hk,← hv]
   have hnd:=te hinj hi hleft
   have hees:e∈es.toList:=by unfold leftOf at he; rw [Array.toList_filter] at he; exact (List.mem_filter.1 he).1
   have hcs:c=c:=rfl
   have hheap:w1.heap=w.heap:=by rcases hw1 with rfl|rfl<;>rfl
   refine k1 x v hp hnd _ _ (hfr.put hd' _) (hs.mv i hC ⟨⟨hne,es,c,since,seen.push e.born,c,?_,hi,?_,hold,hsc2,hsc2,?_,fun q hq=>?_⟩,?_,fun q hq=> .inl hq,fun q hq=> .inl hq⟩)
   ·show (w1.heap.setIfInBounds r _)[b]? =_
    rw [Array.getElem?_setIfInBounds_ne hne,hheap]; exact h1
   ·show (w1.heap.setIfInBounds r _)[r]? =_
    rw [Array.getElem?_setIfInBounds_self_of_lt (by rw [hheap]; exact dp h3)]
   ·have hdk:leftOf es (seen.push e.born)=(leftOf es seen).filter (fun z=> !(z.born==e.born)):=by
     unfold leftOf
     rw [Array.filter_filter]
     congr 1
     funext z
     simp only [Array.contains_push,Bool.not_or]
     rw [Bool.and_comm]
    rw [hdk,Array.toList_filter]
    have key: ∀ (l:List MapEntry) (ll:List (K×Value)),(∀ z∈l,z∈es.toList)→l.map (fun (e:MapEntry)=>(e.key,e.val))=ll.map (fun p=>(kV p.1,p.2))→
     (l.filter (fun z=> !(z.born==e.born))).map (fun (e:MapEntry)=>(e.key,e.val))=(cV ll x).map (fun p=>(kV p.1,p.2)):=by
     intro l
     induction l with
     |nil=>intro ll _ h; cases ll with
      |nil=>rfl
      |cons p ll=>simp at h
     |cons z l ih=>
      intro ll hz h
      cases ll with
      |nil=>simp at h
      |cons p ll=>
       simp only [List.map_cons,List.cons.injEq,Prod.mk.injEq] at h
       have ih':=ih ll (fun y hy=>hz y (by simp [hy])) h.2
       have hiff:(z.born=e.born)↔(p.1=x):=by
        constructor
        ·intro hb
         have:z=e:=wJ hi.born (hz z (by simp)) hees hb
         rw [this] at h
         have:=h.1.1.symm.trans hk.symm
         exact hinj _ _ this
        ·intro hx
         have hze:z.key=e.key:=by rw [h.1.1,hx,hk]
         rw [vj hinj hi (hz z (by simp)) hees hze]
       unfold cV at ih' ⊢
       by_cases hx:p.1=x
       ·rw [List.filter_cons_of_neg (by simp [hiff.2 hx]),List.filter_cons_of_neg (by simp [hx])]; exact ih'
       ·rw [List.filter_cons_of_pos (by simpa using fun hb=>hx (hiff.1 hb)),List.filter_cons_of_pos (by simpa using hx)]
        simp only [List.map_cons,h.1.1,h.1.2,ih']
    exact key _ _ (fun z hz=>by unfold leftOf at hz; rw [Array.toList_filter] at hz; exact (List.mem_filter.1 hz).1) hleft
   ·cases hq
    exact ⟨e,seen,hees,rfl,rfl,hk.symm,hv.symm⟩
   ·refine ⟨?_,?_,?_,?_,fun q hq hn=>?_⟩
    ·rcases hw1 with rfl|rfl<;>rfl
    ·rcases hw1 with rfl|rfl<;>rfl
    ·rcases hw1 with rfl|rfl<;>rfl
    ·show w.heap.size≤(w1.heap.setIfInBounds r _).size
     simp [hheap]
    ·show (w1.heap.setIfInBounds r _)[q]? =_
     rw [Array.getElem?_setIfInBounds_ne (fun e=>hn e.symm),hheap]
theorem lL {xi:Operand} {r b:Nat} {m left:List (K×Value)} {x:K} {v:Value} (i:Nat) (hg:jv ops L g=true) (hm:ev L xi=some (.pointer (some ⟨r,0,none⟩))) (hC:C[i]? =some (pv kV r b m left (some (x,v)))):
 SD E ops ⟨dst,.entry xi,ty,ps,af,g⟩ D L C (.tuple [kV x,v].toArray):=
 ed hg (by simp) fun a w hfr hs=>by
  obtain ⟨hne,es,c,since,seen,st,h1,hi,h3,hold,hsc,hsc2,hleft,hcur⟩:=hs.holds _ (List.mem_of_getElem? hC)
  obtain ⟨e,seen0,he,rfl,rfl,hk,hv⟩:=hcur _ rfl
  have:=run_entry_at (P:=E.P) w r b since seen0 es st e h3 h1 he hi.born
  simp [execOp,hfr.ev hm,this,hk,hv]
theorem lH (hinj: ∀ x y,kV x=kV y→x=y) {β:Type} {f:β→Value} {xi:Operand} {r b:Nat} {m:List (K×Value)} {ll:List (K×β)} {cur:Option (K×Value)} (i:Nat) (hg:jv ops L g=true) (hm:ev L xi=some (.pointer (some ⟨r,0,none⟩))) (hC:C[i]? =some (pv kV r b m (bG f ll) cur)) (hd:Nat.blt d E.n=true)
 (k0:ll=[]→RJ E ops Q rest D ((d,.tuple [.bool false].toArray)::L) C)
 (k1: ∀ x y,(x,y)∈ll→(ll.map (·.1)).Nodup→RJ E ops Q rest D ((d,.tuple [.bool true,kV x,f y].toArray)::L) (C.set i (pv kV r b m (bG f (cV ll x)) (some (x,f y))))):
 RJ E ops Q (⟨some d,.next xi false,ty,ps,af,g⟩::rest) D L C:=by
 refine zI hinj i hg hm hC hd (fun h=>k0 (List.map_eq_nil_iff.1 h)) (fun x v hxv hn=>?_)
 obtain ⟨p,hp,hpe⟩:=List.mem_map.1 hxv
 simp only [Prod.mk.injEq] at hpe
 obtain ⟨rfl,rfl⟩:=hpe
 have:=k1 p.1 p.2 hp (by simpa [bG,Function.comp_def] using hn)
 rwa [oY] at this
theorem uq {t kt et:TypeId} {xm xk xv:Operand} {b:Nat} {x:K} {v:Value} {m m':List (K×Value)} {C':List aA} (i:Nat) (hg:jv ops L g=true) (hm:ev L xm=some (.map (some b))) (hk:ev L xk=some (kV x)) (hv:ev L xv=some v)
 (ht:E.P.underlying t=some (.map kt et)) (hkt:rQ E.P kt kV) (hC:C[i]? =some (kD kV b m)) (hm':dV m x v=m') (hC':C.set i (kD kV b m')=C') (k:RJ E ops Q rest D L C'):
 RJ E ops Q (⟨none,.insert t xm xk xv,ty,ps,af,g⟩::rest) D L C:=by
 subst hm' hC'
 intro a w hfr hs
 unfold pc
 rw [if_pos (dz hfr hg)]
 obtain ⟨es,c,he,hi⟩:=hs.holds _ (List.mem_of_getElem? hC)
 have hget:(getObj b).run E.P w= .ok (.map es c) w:=MapKept.run_getObj_map he
 rcases oH (P:=E.P) (w:=w) (x:=x) hkt hi with ⟨h1,h2⟩|⟨j,v0,h1,h2,h3⟩
 ·refine oL (w':={w with heap:=w.heap.setIfInBounds b (.map (es.push {key:=kV x,val:=v,born:=c}) (c+1))}) (by simp) ?_ ?_
  ·simp [execOp,hfr.ev hm,hfr.ev hk,hfr.ev hv,Instr.mapUpdate,run_underlying ht,hget,iJ hkt,h1,MapKept.run_setObj_map _ he]
  ·refine k _ _ ⟨hfr.defers,hfr.size,hfr.at_⟩ (hs.wK (b:=b) i hC rfl rfl (kT _) (fun _ h=>h) ⟨_,_,mA he,?_⟩)
   have:dV m x v=m++[(x,v)]:=by unfold dV; rw [h2]; rfl
   rw [this]; exact hi.push h2 v
 ·have hsz:=hi.size
  have hje:j<es.size:=by have:=(List.getElem?_eq_some_iff.1 h2).1; omega
  have hkey:(es[j]).key=kV x:=by
   have:=congrArg (fun l=>l[j]?) hi.list
   simp [hje,h2] at this
   exact this.1
  refine oL (w':={w with heap:=w.heap.setIfInBounds b (.map (es.modify j fun e=>{e with key:=kV x,val:=v}) c)}) (by simp) ?_ ?_
  ·simp [execOp,hfr.ev hm,hfr.ev hk,hfr.ev hv,Instr.mapUpdate,run_underlying ht,hget,iJ hkt,h1,MapKept.run_setObj_map _ he,Instr.keyThatStays,hje,hkey,hkt.bits x]
  ·exact k _ _ ⟨hfr.defers,hfr.size,hfr.at_⟩ (hs.wK (b:=b) i hC rfl rfl (kT _) (fun _ h=>h) ⟨_,_,mA he,hi.set h2 h3 v⟩)
end
end
end
section
open Go.RowKit
set_option linter.unusedVariables false
def H9 {σ:Type} (w0:World) (P:Program) (l:Nat) (step:σ→List Value→σ→Prop) (J:σ→aA→Prop) (Z:aA→Prop):Prop:=
 ∀ k x k' A w,step k x k'→J k A→w0.heap.size≤w.heap.size→A.holds w→YieldAt (Fw none) 0 P l x.toArray w fun e w'=>
  (e= .returned (.bool true)∧ ∃ B,J k' B∧Mv A B w w')∨(e= .returned (.bool false)∧ ∃ B,Z B∧Mv A B w w')
def z0 {σ:Type} (J:σ→aA→Prop) (Z:aA→Prop) (fin:σ→Prop) (A0:aA) (w0:World) (e:Ending) (w':World):Prop:=
 ∃ v,e= .returned v∧((∃ s B,fin s∧J s B∧Mv A0 B w0 w')∨ ∃ B,Z B∧Mv A0 B w0 w')
structure CB {σ:Type} (P:Program) (f:FuncId) (fi ca:List Value) (Cp:List aA) (s0:σ) (step:σ→List Value→σ→Prop) (fin:σ→Prop):Prop where
 go:cE P f=true
 run: ∀ (l:Nat) (J:σ→aA→Prop) (Z:aA→Prop) (A0:aA) (w:World),H9 w P l step J Z→J s0 A0→A0.holds w→(∀ A∈Cp,A.holds w)→(∀ A∈Cp,wO A0 A.ro)→
  Calls P f (fi++Value.func (.yield l) #[] #[]::ca).toArray w (z0 J Z fin A0 w)
theorem F2 {σ:Type} {J:σ→aA→Prop} {Z:aA→Prop} {n:σ} {fin:σ→Prop} {A0 B:aA} {w0 w:World} {C:List aA} {v:Value} (i:Nat) (hC:C[i]? =some B) (hfin:fin n) (hJ:J n B) (hF:Fo A0 w0 B) (hs:St ⟨A0.wf,fun _=>True⟩ w0 C w):z0 J Z fin A0 w0 (.returned v) w:=
 ⟨v,rfl,.inl ⟨n,B,hfin,hJ,hs.holds B (List.mem_of_getElem? hC),hs.keeps,fun b hb=>(hs.own B (List.mem_of_getElem? hC) b hb).symm,hF⟩⟩
theorem Bz {σ:Type} {J:σ→aA→Prop} {Z:aA→Prop} {fin:σ→Prop} {A0 B:aA} {w0 w:World} {C:List aA} {v:Value} (i:Nat) (hC:C[i]? =some B) (hJ:Z B) (hF:Fo A0 w0 B) (hs:St ⟨A0.wf,fun _=>True⟩ w0 C w):z0 J Z fin A0 w0 (.returned v) w:=
 ⟨v,rfl,.inr ⟨B,hJ,hs.holds B (List.mem_of_getElem? hC),hs.keeps,fun b hb=>(hs.own B (List.mem_of_getElem? hC) b hb).symm,hF⟩⟩
theorem ye {σ:Type} {P:Program} {f:FuncId} {fn:Func} {c:Code} {fi ca:List Value} {Cp:List aA} {s0:σ} {step:σ→List Value→σ→Prop} {fin:σ→Prop} (hgo:cE P f=true) (hf:P.funcs[f]? =some fn) (hb:fn.body=some c) (hn:Nat.ble (fi.length+ca.length+1) fn.ntmps=true)
 (h: ∀ (l:Nat) (J:σ→aA→Prop) (Z:aA→Prop) (A0:aA) (w0:World) (Q:dh),H9 w0 P l step J Z→J s0 A0→Fo A0 w0 A0→
  (∀ D L C,LJ ⟨P,none,fn.ntmps,⟨A0.wf,fun _=>True⟩,w0⟩ fn (z0 J Z fin A0 w0) D L C→KJ ⟨P,none,fn.ntmps,⟨A0.wf,fun _=>True⟩,w0⟩ (Q .ret) D L C)→
  (∀ D L C,LJ ⟨P,none,fn.ntmps,⟨A0.wf,fun _=>True⟩,w0⟩ fn (z0 J Z fin A0 w0) D L C→KJ ⟨P,none,fn.ntmps,⟨A0.wf,fun _=>True⟩,w0⟩ (Q .normal) D L C)→
  WJ ⟨P,none,fn.ntmps,⟨A0.wf,fun _=>True⟩,w0⟩ c Q [] (E6 (fi++Value.func (.yield l) #[] #[]::ca)) (A0::Cp.map aA.ro)):CB P f fi ca Cp s0 step fin:=by
 refine ⟨hgo,fun l J Z A0 w hY hJ hA hCp hsep=>?_⟩
 refine w9 hf hb (by simpa [Nat.add_assoc] using hn) (h l J Z A0 w · hY hJ (fun b hb=> .inl hb)) ?_
 have h0:=pD hCp
 refine ⟨dj.refl _ _,fun A hA'=>?_,List.Pairwise.cons (fun B hB=>?_) h0.sep,fun A hA' b hb=>?_,fun _ _ _ _=> .inr trivial⟩
 ·rcases List.mem_cons.1 hA' with rfl|hA'
  ·exact hA
  ·exact h0.holds A hA'
 ·obtain ⟨B',hB',rfl⟩:=List.mem_map.1 hB
  exact hsep B' hB'
 ·rcases List.mem_cons.1 hA' with rfl|hA'
  ·exact .inr hb
  ·obtain ⟨B',hB',rfl⟩:=List.mem_map.1 hA'
   exact hb.elim
section
variable {E:eI} {ops:Array Oper} {Q:dh} {rest:List Oper} {D:List Deferred} {L:List (Nat×Value)} {C:List aA}
variable {d:Nat} {ty:TypeId} {ps:String} {af:Array Edge} {g:Option (Nat×Bool)}
/-- a call of yield -/
theorem sw {σ:Type} {fop:Operand} {xs:Array Operand} {ts:Array TypeId} {l:Nat} {k k':σ} {vs:List Value} {step:σ→List Value→σ→Prop} {J:σ→aA→Prop} {Z:aA→Prop} {A0 A:aA} {w1:World} (i:Nat) (hw1:w1.heap.size≤E.w0.heap.size) (hY:H9 w1 E.P l step J Z) (hJ:J k A) (hF:Fo A0 w1 A) (hg:jv ops L g=true) (hf:ev L fop=some (.func (.yield l) #[] #[]))
 (hx:evs L xs.toList=some vs) (hk:step k vs k') (hC:C[i]? =some A) (hd:Nat.blt d E.n=true)
 (k1: ∀ B,J k' B→Fo A0 w1 B→RJ E ops Q rest D ((d,.bool true)::L) (C.set i B))
 (k2: ∀ B,Z B→Fo A0 w1 B→RJ E ops Q rest D ((d,.bool false)::L) (C.set i B)):
 RJ E ops Q (⟨some d,.call {callee:= .value fop,args:=xs,argTypes:=ts},ty,ps,af,g⟩::rest) D L C:=by
 intro a w hfr hs
 have hd':d<E.n:=by rw [← Nat.blt_eq]; exact hd
 unfold pc
 rw [if_pos (dz hfr hg)]
 have h1:xs.map a.eval=vs.toArray:=by
  have:=hfr.evs hx
  apply Array.ext'
  simp [this]
 obtain ⟨fn,tmps,assign,body,hy,hr⟩:=hY k vs k' A w hk hJ (Nat.le_trans hw1 hs.keeps.size) (hs.holds A (List.mem_of_getElem? hC))
 have hrun:(execOp a.eval ⟨some d,.call {callee:= .value fop,args:=xs,argTypes:=ts},ty,ps,af,g⟩).run E.P w= .ok (.round l fn tmps assign body) w:=by
  simp [execOp,resolve,hfr.ev hf,Deferred.ofValue,invoke,h1,hy]
 refine ⟨fun _ _=>trivial,?_⟩
 rw [Oper.semAt_eq _ _ _ (by simp),hrun]
 refine ⟨fun h=>by simp at h,?_⟩
 have hfo: ∀ (B:aA) (w':World),Mv A B w w'→Fo A0 w1 B:=fun B w' m b hb=>by
  rcases m.ej b hb with h2|h2
  ·exact hF b h2
  ·exact .inr (Nat.le_trans hw1 (Nat.le_trans hs.keeps.size h2))
 have hr':RoundIn (Fw E.r) 0 E.P l fn tmps assign body w _:=hr
 refine hr'.mono fun e w' he=>?_
 rcases he with ⟨rfl,B,hB,m⟩|⟨rfl,B,hB,m⟩
 ·exact k1 B hB (hfo B w' m) _ _ (hfr.put hd' _) (hs.mv i hC m)
 ·exact k2 B hB (hfo B w' m) _ _ (hfr.put hd' _) (hs.mv i hC m)
end
theorem mx {σ:Type} {E:eI} {Q:dh} {D:List Deferred} {L L0:List (Nat×Value)} {C F:List aA} {g:Operand} {ps:Array Tmp} {assign body:Code} {f:FuncId} {fi ca:List Value} {Cp:List aA} {s0:σ} {step:σ→List Value→σ→Prop} {fin_:σ→Prop} {ι κ:Type}
 (inv:σ→ι→Prop) (Ci:σ→ι→List aA) (invx:Code→κ→Prop) (Cx:Code→κ→List aA) (isJ isF:List Nat) (y0:ι)
 (hr:E.r=none) (hg:ev L g=some (.func (.func f) fi.toArray ca.toArray)) (hs:CB E.P f fi ca Cp s0 step fin_)
 (hnd:decide (isJ++isF).Nodup=true) (hJ:br C isJ=Ci s0 y0) (hF:br C isF=F) (h0:inv s0 y0) (hCp: ∀ A∈Cp,∃ B∈F,BU B A)
 (hps: ∀ k x k',step k x k'→x.length=ps.size) (hpn:ps.toList.all (fun t=>Nat.blt t E.n)=true) (hL:an L L0)
 (round: ∀ (k:σ) (x:List Value) (k':σ) (y:ι) (l:Nat) (ra rb:Loop) (S:BS) (w0:World) (K:Act→World→Prop) (Qr:dh),E.w0.heap.size≤w0.heap.size→step k x k'→inv k y→
  (∀ L' C',WJ ⟨E.P,some l,E.n,S,w0⟩ body Qr [] L' (iM l (.loop rb)::C')→KJ ⟨E.P,some l,E.n,S,w0⟩ K [] L' (iM l (.loop ra)::C'))→
  (∀ y' L' C',inv k' y'→(∀ w,St S w0 C' w→St S w0 (iM l (.loop rb)::Ci k' y') w)→KJ ⟨E.P,some l,E.n,S,w0⟩ (Qr .normal) [] L' C')→
  (∀ id z L' C',invx (.exit id) z→(∀ w,St S w0 C' w→St S w0 (iM l (.loop rb)::Cx (.exit id) z) w)→KJ ⟨E.P,some l,E.n,S,w0⟩ (Qr (.exit id)) [] L' C')→
  (∀ z L' C',invx .ret z→(∀ w,St S w0 C' w→St S w0 (iM l (.loop rb)::Cx .ret z) w)→KJ ⟨E.P,some l,E.n,S,w0⟩ (Qr .ret) [] L' C')→
  WJ ⟨E.P,some l,E.n,S,w0⟩ assign (Exit.then K (fun _ _ _=>False)) [] (v7 ps.toList x L0) (iM l (.loop ra)::Ci k y))
 (fin: ∀ r s y,fin_ s→inv s y→KJ E (Q .normal) (jD r::D) L0 (iM r (.deferred (some []))::(F++Ci s y)))
 (finx: ∀ r id z,invx (.exit id) z→KJ E (Q (.exit id)) (jD r::D) L0 (iM r (.deferred (some []))::(F++Cx (.exit id) z)))
 (finr: ∀ r z,invx .ret z→KJ E (Q .ret) (jD r::D) L0 (iM r (.deferred (some []))::(F++Cx .ret z))):WJ E (.rangeFunc g ps assign body) Q D L C:=by
 intro a w hf hst
 refine wpIn_rangeFunc fun fn _=>?_
 show ∃ l jD w₁ d w₁' f args w₂,(Instr.enterLoop fn a.tmps ps assign body E.r).run E.P w= .ok (l,jD) w₁∧_
 rw [hr]
 obtain ⟨rec,hrec⟩: ∃ rec:LoopState→Option Code→Loop,rec=fun st pe=>{state:=st,pending:=pe,fn,tmps:=a.tmps,params:=ps,assign,body,defers:=w.heap.size}:=⟨_,rfl⟩
 obtain ⟨W1,hW1⟩: ∃ W1,(w.alloc (.deferred (some []))).alloc (.loop (rec .ready none))=W1:=⟨_,rfl⟩
 have hev:a.eval g= .func (.func f) fi.toArray ca.toArray:=hf.ev hg
 have hent:(Instr.enterLoop fn a.tmps ps assign body none).run E.P w= .ok (w.heap.size+1,[jD w.heap.size]) W1:=by
  rw [← hW1,hrec]; exact run_enterLoop_outer _ _ _ _ _
 -- the state with the record and the block
 have hst1:St E.S E.w0 ((iM (w.heap.size+1) (.loop (rec .ready none))::Ci s0 y0)++(iM w.heap.size (.deferred (some []))::F)) W1:=by
  have h1:St E.S E.w0 (Ci s0 y0++F) w:=St.br (isJ++isF) hnd (by have h1:=hJ; have h2:=hF; unfold Go.Proofs.YthiigjekcdjkkaaGreat.br at h1 h2 ⊢; rw [List.filterMap_append,h1,h2]) hst
  have hn:Cs w W1 [iM (w.heap.size+1) (.loop (rec .ready none)),iM w.heap.size (.deferred (some []))]:=by
   refine ⟨fun A hA=>?_,fun A hA b hb=>?_,?_⟩
   ·rcases List.mem_cons.1 hA with rfl|hA
    ·show W1.heap[w.heap.size+1]? =_
     rw [← hW1]; have:=World.alloc_heap_new (w.alloc (.deferred (some []))) (.loop (rec .ready none)); rwa [World.size_alloc] at this
    ·simp only [List.mem_singleton] at hA; subst hA
     show W1.heap[w.heap.size]? =_
     rw [← hW1]; exact (Below.heap_alloc _ _ _ (by simp)).trans (World.alloc_heap_new w _)
   ·rcases List.mem_cons.1 hA with rfl|hA
    ·have:b=w.heap.size+1:=hb
     omega
    ·simp only [List.mem_singleton] at hA; subst hA
     have:b=w.heap.size:=hb
     omega
   ·refine List.Pairwise.cons (fun B hB b h1 h2=>?_) (List.pairwise_singleton _ _)
    simp only [List.mem_singleton] at hB; subst hB
    have e1:b=w.heap.size+1:=h1
    have e2:b=w.heap.size:=h2
    omega
  have hk:dj no w W1:=by rw [← hW1]; exact (dj.alloc no w _).trans (dj.alloc no _ _)
  have h2:=h1.grow hk hn
  refine h2.perm ?_
  simp only [List.cons_append,List.nil_append]
  exact List.Perm.cons _ (List.perm_middle.symm)
 have hb1:=hst1.nM
 obtain ⟨hs1,hs2⟩:=List.pairwise_cons.1 hb1.sep
 have hA0:=hb1.holds _ (List.mem_cons_self ..)
 let J:σ→aA→Prop:=fun k A=> ∃ y,inv k y∧A=a5 (iM (w.heap.size+1) (.loop (rec .ready none))::Ci k y)
 let Z:aA→Prop:=fun A=> ∃ c z,(c= .ret∨ ∃ id,c= .exit id)∧invx c z∧A=a5 (iM (w.heap.size+1) (.loop (rec .done (some c)))::Cx c z)
 refine ⟨w.heap.size+1,[jD w.heap.size],W1,{target:= .fn (.func f) ca.toArray,args:=fi.toArray++ #[.func (.yield (w.heap.size+1)) #[] #[]]},W1,f,
  (fi++Value.func (.yield (w.heap.size+1)) #[] #[]::ca).toArray,W1,hent,?_,fun _ _=>trivial,?_,fun h=>by simp at h,?_⟩
 ·simp only [resolve,hev]
  simp [Deferred.ofValue,Act.eval]
 ·have:fi.toArray++ #[Value.func (.yield (w.heap.size+1)) #[] #[]]++ca.toArray=(fi++Value.func (.yield (w.heap.size+1)) #[] #[]::ca).toArray:=by simp
  simp [invoke,mZ hs.go]
 ·refine (nO E.r (hs.run (w.heap.size+1) J Z _ W1 ?_ ⟨y0,h0,rfl⟩ hA0 ?_ ?_)).mono ?_
  ·-- a round
   rintro k x k' A W hx ⟨y,hy,rfl⟩ hWs hA
   have hl:W.heap[w.heap.size+1]? =some (.loop (rec .ready none)):=hA.1 _ (List.mem_cons_self ..)
   have hyl:=run_yield (P:=E.P) (args:=x.toArray) hl (by rw [hrec]; simpa using hps k x k' hx)
   rw [hrec] at hyl
   refine ⟨fn,_,assign,body,hyl,roundIn_of_wpIn trivial ?_⟩
   let A:aA:=a5 (iM (w.heap.size+1) (.loop (rec .ready none))::Ci k y)
   have hfr:Fr E.n [] (v7 ps.toList x L0) {tmps:=(ps.zip x.toArray).foldl (fun tmps (t,a)=>tmps.setIfInBounds t a) a.tmps,defers:=[]}:=by
    have h1:=BJ ps.toList x L0 a.tmps (fun t ht=>by have:=List.all_eq_true.1 hpn t ht; rwa [Nat.blt_eq] at this) ⟨rfl,hf.size,fun t v hv=>hf.at_ t v (hL t v hv)⟩
    rw [← Array.foldl_toList]
    simpa using h1
   have hbusy: ∀ (c:Option Code) (b:Bool),({rec .busy none with state:=if b then .ready else .done,pending:=c}:Loop)=rec (if b then .ready else .done) c:=fun c b=>by rw [hrec]
   have hend: ∀ (c:Option Code) (w1:World) (C':List aA) (S:BS),St S W (iM (w.heap.size+1) (.loop (rec .busy none))::C') w1→
    ∃ w2,(Instr.endRound (w.heap.size+1) c).run E.P w1= .ok (.bool c.isNone) w2∧St S W (iM (w.heap.size+1) (.loop (rec (if c.isNone then .ready else .done) c))::C') w2:=fun c w1 C' S hs1=>by
    have hl1:w1.heap[w.heap.size+1]? =some (.loop (rec .busy none)):=hs1.holds _ (List.mem_cons_self ..)
    refine ⟨_,run_endRound c hl1,?_⟩
    have:=hs1.wK (b:=w.heap.size+1) (A':=iM (w.heap.size+1) (.loop (rec (if c.isNone then .ready else .done) c))) 0 rfl rfl rfl (hE _) (fun _ h=>h) (World.putObj_heap_same (dp hl1))
    rw [hbusy]
    exact this
   refine round k x k' y (w.heap.size+1) (rec .ready none) (rec .busy none) ⟨A.wf,A.ej⟩ W _ (roundPost E.P (w.heap.size+1) (fun e w'=>(e= .returned (.bool true)∧ ∃ B,J k' B∧Mv A B W w')∨(e= .returned (.bool false)∧ ∃ B,Z B∧Mv A B W w'))) (Nat.le_trans (Nat.le_trans hst.keeps.size (by rw [← hW1]; simp; omega)) hWs) hx hy ?_ ?_ ?_ ?_ _ _ hfr (St.yl hA)
   ·intro L' C' hW a1 w1 hf1 hs1
    have hl1:w1.heap[w.heap.size+1]? =some (.loop (rec .ready none)):=hs1.holds _ (List.mem_cons_self ..)
    refine ⟨_,run_beginRound hl1 (by rw [hrec]),hW _ _ hf1 ?_⟩
    have:=hs1.wK (b:=w.heap.size+1) (A':=iM (w.heap.size+1) (.loop (rec .busy none))) 0 rfl rfl rfl (hE _) (fun _ h=>h) (World.putObj_heap_same (dp hl1))
    have e:({rec .ready none with state:= .busy}:Loop)=rec .busy none:=by rw [hrec]
    rw [e]; exact this
   ·intro y' L' C' hy' hC' a1 w1 hf1 hs1
    obtain ⟨w2,e1,e2⟩:=hend none w1 _ _ (hC' _ hs1)
    exact ⟨_,w2,e1,.inl ⟨rfl,_,⟨y',hy',rfl⟩,Mv.of e2⟩⟩
   ·intro id z L' C' hz hC' a1 w1 hf1 hs1
    obtain ⟨w2,e1,e2⟩:=hend (some (.exit id)) w1 _ _ (hC' _ hs1)
    exact ⟨_,w2,e1,.inr ⟨rfl,_,⟨_,z,.inr ⟨id,rfl⟩,hz,rfl⟩,Mv.of e2⟩⟩
   ·intro z L' C' hz hC' a1 w1 hf1 hs1
    obtain ⟨w2,e1,e2⟩:=hend (some .ret) w1 _ _ (hC' _ hs1)
    exact ⟨_,w2,e1,.inr ⟨rfl,_,⟨_,z,.inl rfl,hz,rfl⟩,Mv.of e2⟩⟩
  ·intro A hA
   obtain ⟨B,hB,hc⟩:=hCp A hA
   exact hc.holds _ (hb1.holds B (List.mem_cons_of_mem _ (List.mem_cons_of_mem _ hB)))
  ·intro A hA b hb hb'
   obtain ⟨B,hB,hc⟩:=hCp A hA
   exact ⟨(hs1 B (List.mem_cons_of_mem _ hB) b hb (hc.ej b hb')).1,fun h=>h⟩
  ·rintro e w' ⟨v,rfl,hh⟩
   have hfin:Fr E.n (jD w.heap.size::D) L0 {a with defers:=[jD w.heap.size]++a.defers}:=⟨by simp [hf.defers],hf.size,fun t v hv=>hf.at_ t v (hL t v hv)⟩
   have hleave: ∀ (st:LoopState) (c:Option Code) (C':List aA),st≠ .busy→Mv (a5 (iM (w.heap.size+1) (.loop (rec .ready none))::Ci s0 y0)) (a5 (iM (w.heap.size+1) (.loop (rec st c))::C')) W1 w'→
    ∃ w2,(Instr.endLoop (w.heap.size+1)).run E.P w'= .ok c w2∧St E.S E.w0 (iM w.heap.size (.deferred (some []))::(F++C')) w2:=fun st c C' hne m=>by
    have h1:=(hb1.mv 0 rfl m).ig
    have h1':St E.S E.w0 ((iM (w.heap.size+1) (.loop (rec st c))::C')++(iM w.heap.size (.deferred (some []))::F)) w':=h1
    have hl1:w'.heap[w.heap.size+1]? =some (.loop (rec st c)):=h1'.holds (iM (w.heap.size+1) (.loop (rec st c))) (by simp)
    refine ⟨_,by have:=run_endLoop (P:=E.P) hl1 (by rw [hrec]; exact hne); rw [this,hrec],?_⟩
    have h2:=h1'.wK (b:=w.heap.size+1) (A':=iM (w.heap.size+1) (.loop {rec st c with state:= .exhausted})) 0 rfl rfl rfl (hE _) (fun _ h=>h) (World.putObj_heap_same (dp hl1))
    have h3:St E.S E.w0 (C'++(iM w.heap.size (.deferred (some []))::F)) _:=h2.take (List.sublist_cons_self _ _)
    rw [hrec] at h3
    refine h3.perm ?_
    exact (List.perm_append_comm).trans (by simp)
   rcases hh with ⟨s,B,hfs,⟨y,hy,rfl⟩,m⟩|⟨B,⟨c,z,hc,hz,rfl⟩,m⟩
   ·obtain ⟨w2,e1,e2⟩:=hleave .ready none _ (by simp) m
    exact ⟨none,w2,e1,fin w.heap.size s y hfs hy _ _ hfin e2⟩
   ·obtain ⟨w2,e1,e2⟩:=hleave .done (some c) _ (by simp) m
    refine ⟨some c,w2,e1,?_⟩
    rcases hc with rfl|⟨id,rfl⟩
    ·exact wpIn_ret (finr w.heap.size z hz _ _ hfin e2)
    ·exact wpIn_exit (finx w.heap.size id z hz _ _ hfin e2)
end
section
open Go.RowKit
set_option linter.unusedVariables false
section
variable {E:eI} {ops:Array Oper} {Q:dh} {rest:List Oper} {D:List Deferred} {L:List (Nat×Value)} {C:List aA}
variable {d:Nat} {ty:TypeId} {ps:String} {af:Array Edge} {g:Option (Nat×Bool)}
theorem CR {P:Program} {t e sz:Nat} (h:tE P t=some (e,sz)) (w:World):P.underlying t=some (.slice e)∧(sizeOf e).run P w= .ok sz w:=by
 unfold tE at h
 split at h
 ·rename_i e' hu
  split at h
  ·rename_i i hi
   cases h
   exact ⟨hu,by simp [sizeOf,typeInfo,hi]⟩
  ·cases h
 ·cases h
theorem xX {P:Program} {t e:Nat} (h:P.underlying t=some (.slice e)):P.underlying t=some (.slice (P.elem t)):=by
 rw [h]; simp [Program.elem,h]
theorem Cg {P:Program} {t e:Nat} (h:P.underlying t=some (.slice e)):P.elem t=e:=by simp [Program.elem,h]
/-- s[:k] -/
theorem JA (k:Nat) {x hi:Operand} {t e sz n c:Nat} {A:Option Addr} {j:Int} (h:bF E.n ops L d g x hi=some (.slice A n c,.int .i64 j)) (ht:tE E.P t=some (e,sz)) (hj:j=(k:Int)) (hk:k≤c):
 SE E ops ⟨some d,.slice t x none (some hi) none,ty,ps,af,g⟩ D L C (.slice A k c) d:=by
 obtain ⟨h1,h2,h3,h4⟩:=qg h
 subst hj
 refine ⟨ed h1 (by simp) fun a w hfr hs=>?_,rfl,h2⟩
 obtain ⟨hu,hz⟩:=CR ht w
 have hr:=run_slice_h (P:=E.P) w t A n c (xX hu) .i64 (k:Int) (by omega) (by omega)
 rw [Cg hu,hz] at hr
 have e0:(if c=0 then A else A.map (·.add (0*sz)))=A:=by
  split
  ·rfl
  ·cases A with
   |none=>rfl
   |some ad=>simp [Addr.add]
 simp only [Result.andThen,Int.toNat_natCast,sliced,e0,Nat.sub_zero] at hr
 have hs2:=run_sliceAt_slice (P:=E.P) w t (.slice A n c) none (some (.int .i64 (k:Int))) none (xX hu)
 simp [execOp,hfr.ev h3,hfr.ev h4,hs2,hr]
end
theorem C5 {w:World} {a:Option Addr} {c e sz:Nat} {es:List (List Value)} (h:(own a c e sz es).holds w):es.length≤c:=by
 rcases h.2.2 with ⟨h1,h2⟩|⟨g,cap,cur,hv,_,_,h4,_⟩
 ·omega
 ·injection hv with _ _ hc; omega
end
section
open Go.RowKit
set_option linter.unusedVariables false
/-- where a row lies, and its capacity -/
abbrev RA:=Option Addr×Nat
/-- what is asked of memory by all elements -/
def aL {M A:Type} (f:M→A→List aA):List M→List A→List aA
 |m::ms,a::asl=>f m a++aL f ms asl
 |_,_=>[]
theorem dc {M A:Type} {f:M→A→List aA}: ∀ {ms:List M} {asl:List A} {k:Nat} {m:M} {a:A} {X:aA},ms[k]? =some m→asl[k]? =some a→X∈f m a→X∈aL f ms asl
 |[],_,k,m,a,X,h,_,_=>by simp at h
 |_::_,[],k,m,a,X,_,h,_=>by simp at h
 |x::ms,y::asl,0,m,a,X,h,h2,hX=>by
  simp at h h2; subst h h2
  exact List.mem_append_left _ hX
 |x::ms,y::asl,k+1,m,a,X,h,h2,hX=>List.mem_append_right _ (dc (ms:=ms) (asl:=asl) (k:=k) (by simpa using h) (by simpa using h2) hX)
theorem nJ {M A:Type} {f:M→A→List aA}: ∀ {ms:List M} {asl:List A} {X:aA},X∈aL f ms asl→ ∃ (k:Nat) (m:M) (a:A),ms[k]? =some m∧asl[k]? =some a∧X∈f m a
 |[],_,X,h=>by cases h
 |_::_,[],X,h=>by cases h
 |x::ms,y::asl,X,h=>by
  rcases List.mem_append.1 h with h|h
  ·exact ⟨0,x,y,rfl,rfl,h⟩
  ·obtain ⟨k,m,a,h1,h2,h3⟩:=nJ h
   exact ⟨k+1,m,a,by simpa using h1,by simpa using h2,h3⟩
theorem ko {M A:Type} {f:M→A→List aA}: ∀ {ms:List M} {asl:List A} {ns:List M} {bs:List A},ms.length=asl.length→aL f (ms++ns) (asl++bs)=aL f ms asl++aL f ns bs
 |[],[],ns,bs,_=>rfl
 |[],_::_,ns,bs,h=>by simp at h
 |_::_,[],ns,bs,h=>by simp at h
 |x::ms,y::asl,ns,bs,h=>by
  simp only [List.cons_append,aL,List.append_assoc]
  rw [ko (by simpa using h)]
theorem gM {M A β:Type} {f:M→A→β} {ms:List M} {asl:List A} {k:Nat} {m:M} {a:A} (h:ms[k]? =some m) (h2:asl[k]? =some a):(List.zipWith f ms asl)[k]? =some (f m a):=by
 rw [List.getElem?_zipWith,h,h2]
theorem eM {C L:List aA} {A:aA} (i:Nat) (hC:C[i]? =some (cZ L).ro) (hm:A∈L):jS C A.holds:=fun w hw=>hw _ (List.mem_of_getElem? hC) A hm
theorem dT {M A:Type} {f g:M→A→List aA} {ms:List M} {asl:List A} {C:List aA} (i:Nat) (hC:C[i]? =some (a5 (aL g ms asl))) (h: ∀ m a w,(∀ X∈g m a,X.holds w)→ ∀ X∈f m a,X.holds w):jS C (cZ (aL f ms asl)).holds:=fun w hw X hX=>by
 have hb:=hw _ (List.mem_of_getElem? hC)
 obtain ⟨k,m,a,h1,h2,h3⟩:=nJ hX
 exact h m a w (fun Y hY=>hb.1 Y (dc h1 h2 hY)) X h3
/-- a row that is part of another one -/
theorem CG {C:List aA} {A:Option Addr} {n k sz:Nat} {es:List (List Value)} (hR:jS C (rd A n sz es).holds) (hk:k≤n):jS C (rd A k sz (es.take k)).holds:=fun w hw=>by
 obtain ⟨h1,h2,h3⟩:=hR w hw
 refine ⟨by rw [List.length_take,h1]; omega,fun x hx=>h2 x (List.mem_of_mem_take hx),fun hp=>?_⟩
 have hk0:0<k:=Nat.pos_of_mul_pos_right hp
 have hs:0<sz:=Nat.pos_of_mul_pos_left hp
 obtain ⟨ad,hA,hc2⟩:=h3 (Nat.mul_pos (by omega) hs)
 refine ⟨ad,hA,fun i e j v he hv=>hc2 i e j v ?_ hv⟩
 rw [List.getElem?_take] at he
 split at he
 ·exact he
 ·cases he
section
variable {E:eI} {ops:Array Oper} {Q:dh} {rest:List Oper} {D:List Deferred} {L:List (Nat×Value)} {C:List aA}
variable {d:Nat} {ty:TypeId} {ps:String} {af:Array Edge} {g:Option (Nat×Bool)}
/-- an element of a slice that is the head of a row -/
theorem JF (k:Nat) {x ix:Operand} {A:Option Addr} {n n' c sz e t:Nat} {es:List (List Value)} {j:Int} (h:bF E.n ops L d g x ix=some (.slice A n' c,.int .i64 j)) (hR:jS C (rd A n sz es).holds)
 (ht:tE E.P t=some (e,sz)) (hz:0<sz) (hj:j=(k:Int)) (hk:k<n') (hn:n'≤n):SE E ops ⟨some d,.indexAddr t x ix,ty,ps,af,g⟩ D L C (.pointer (o2 A (k*sz))) d:=IA k h (CG hR hn) ht hz hj hk
end
theorem St.tie {S:BS} {w0 w:World} {C:List aA} {A:aA} {L L':List aA} (h:St S w0 (A::a5 L::C) w) (e:L++[A]=L'):St S w0 (a5 L'::C) w:=by
 subst e
 have h1:St S w0 (a5 L::A::C) w:=h.perm (List.Perm.swap _ _ _)
 have h2:St S w0 (L++(A::C)) w:=h1.ig
 have h3:St S w0 ((L++[A])++C) w:=by simpa using h2
 exact h3.nM
theorem St.Ep {S:BS} {w0 w:World} {C:List aA} (h:St S w0 C w):St S w0 (a5 []::C) w:=St.nM (C1:=[]) h
section
variable {E:eI} {Q:dh} {D:List Deferred} {L:List (Nat×Value)} {C:List aA}
theorem nT {c:Code} (h:WJ E c Q D L (a5 []::C)):WJ E c Q D L C:=fun a w hf hs=>h a w hf hs.Ep
theorem xp {ops:Array Oper} {rest:List Oper} (h:RJ E ops Q rest D L (a5 []::C)):RJ E ops Q rest D L C:=fun a w hf hs=>h a w hf hs.Ep
theorem wG {K:Act→World→Prop} {C1:List aA} {A:aA} {X X':List aA} (i j:Nat) (hn:decide (j::i::(List.range C.length).filter fun k=>k != i&&k != j).Nodup=true) (hC:br C (j::i::(List.range C.length).filter fun k=>k != i&&k != j)=A::a5 X::C1) (e:X++[A]=X')
 (h:KJ E K D L (a5 X'::C1)):KJ E K D L C:=fun a w hf hs=>h a w hf ((St.br _ hn hC hs).tie e)
theorem Gd {ops:Array Oper} {rest:List Oper} {C1:List aA} {A:aA} {X X':List aA} (i j:Nat) (hn:decide (j::i::(List.range C.length).filter fun k=>k != i&&k != j).Nodup=true) (hC:br C (j::i::(List.range C.length).filter fun k=>k != i&&k != j)=A::a5 X::C1) (e:X++[A]=X')
 (h:RJ E ops Q rest D L (a5 X'::C1)):RJ E ops Q rest D L C:=fun a w hf hs=>h a w hf ((St.br _ hn hC hs).tie e)
end
end
section
open Go.RowKit
set_option linter.unusedVariables false
abbrev lS:ae→Value:=fun s=>Value.agg (ae.cells s).toArray
abbrev cm:ao→Value:=fun s=>Value.agg (ao.cells s).toArray
abbrev TM:=List (Int×ae)
abbrev FM:=List (ao×Int)
def cl {α:Type} (m:α) (b:Nat):List Value:=[Value.map (some b)]
def ib (m:TM) (b:Nat):List aA:=[kD iV b (bG lS m)]
def fW (m:FM) (b:Nat):List aA:=[kD cm b (bG iV m)]
theorem h_ {M A:Type} {f:M→A→List aA}: ∀ (m:M) (a:A) (w:World),(∀ X∈f m a,X.holds w)→ ∀ X∈f m a,X.holds w:=fun _ _ _ h=>h
/-- untied -/
theorem xV {E:eI} {ops:Array Oper} {Q:dh} {rest:List Oper} {D:List Deferred} {L:List (Nat×Value)} {C X C1:List aA} (i:Nat) (hn:decide (i::(List.range C.length).filter fun k=>k != i).Nodup=true) (hC:br C (i::(List.range C.length).filter fun k=>k != i)=a5 X::C1)
 (h:RJ E ops Q rest D L (X++C1)):RJ E ops Q rest D L C:=fun a w hf hs=>h a w hf (St.ig (St.br _ hn hC hs))
end
section
open Go.RowKit
set_option linter.unusedVariables false
/-- a map, or nil -/
def oC (o:Option Nat):List Value:=[Value.map o]
theorem uL {α:Type}: ∀ {ms:List α} {asl:List Nat},ms.length=asl.length→List.zipWith cl ms asl=(asl.map some).map oC
 |[],[],_=>rfl
 |[],_::_,h=>by simp at h
 |_::_,[],h=>by simp at h
 |x::ms,y::asl,h=>by simp only [List.zipWith_cons_cons,List.map_cons,uL (ms:=ms) (asl:=asl) (by simpa using h)]; rfl
/-- what stands for all but one -/
def fD {M A:Type} (f:M→A→List aA) (ms:List M) (asl:List A) (k:Nat):List aA:=aL f (ms.take k) (asl.take k)++aL f (ms.drop (k+1)) (asl.drop (k+1))
theorem oF {M A:Type} {f:M→A→List aA}: ∀ {ms:List M} {asl:List A} {k:Nat} {m:M} {a:A},ms[k]? =some m→asl[k]? =some a→(aL f ms asl).Perm (f m a++fD f ms asl k)
 |[],_,k,m,a,h,_=>by simp at h
 |_::_,[],k,m,a,_,h=>by simp at h
 |x::ms,y::asl,0,m,a,h,h2=>by
  simp at h h2; subst h h2
  simp [fD,aL]
 |x::ms,y::asl,k+1,m,a,h,h2=>by
  have ih:=oF (f:=f) (ms:=ms) (asl:=asl) (k:=k) (by simpa using h) (by simpa using h2)
  show (f x y++aL f ms asl).Perm (f m a++fD f (x::ms) (y::asl) (k+1))
  have e:fD f (x::ms) (y::asl) (k+1)=f x y++fD f ms asl k:=by simp [fD,aL,List.append_assoc]
  rw [e]
  refine (ih.append_left (f x y)).trans ?_
  rw [← List.append_assoc,← List.append_assoc]
  exact List.perm_append_comm.append_right _
theorem yK {M A:Type} {f:M→A→List aA} {ms:List M} {asl:List A} {k:Nat} {m':M}:fD f (ms.set k m') asl k=fD f ms asl k:=by
 unfold fD
 rw [List.take_set_of_le (Nat.le_refl k),List.drop_set_of_lt (Nat.lt_succ_self k)]
theorem qQ {S:BS} {w0 w:World} {C X Y:List aA} (hp:X.Perm Y) (h:St S w0 (a5 X::C) w):St S w0 (a5 Y::C) w:=by
 have h1:St S w0 (X++C) w:=h.ig
 exact (h1.perm (hp.append_right C)).nM
theorem St.out {M A:Type} {f:M→A→List aA} {S:BS} {w0 w:World} {C:List aA} {ms:List M} {asl:List A} {k:Nat} {m:M} {a:A} {X:aA} (hm:ms[k]? =some m) (ha:asl[k]? =some a) (hf:f m a=[X]) (h:St S w0 (a5 (aL f ms asl)::C) w):St S w0 (X::a5 (fD f ms asl k)::C) w:=by
 have h1:=(qQ (oF hm ha) h).ig
 rw [hf] at h1
 have h2:St S w0 (fD f ms asl k++(X::C)) w:=h1.perm (List.perm_middle (a:=X) (l₁:=fD f ms asl k) (l₂:=C)).symm
 exact h2.nM.perm (List.Perm.swap _ _ _)
theorem St.back {M A:Type} {f:M→A→List aA} {S:BS} {w0 w:World} {C:List aA} {ms:List M} {asl:List A} {k:Nat} {m':M} {a:A} {X:aA} (hk:k<ms.length) (ha:asl[k]? =some a) (hf:f m' a=[X]) (h:St S w0 (X::a5 (fD f ms asl k)::C) w):St S w0 (a5 (aL f (ms.set k m') asl)::C) w:=by
 have h1:St S w0 (a5 (fD f ms asl k)::X::C) w:=h.perm (List.Perm.swap _ _ _)
 have h2:=h1.ig
 have h3:St S w0 ((f m' a++fD f (ms.set k m') asl k)++C) w:=by
  rw [hf,yK]
  exact h2.perm (List.perm_middle (a:=X) (l₁:=fD f ms asl k) (l₂:=C))
 exact qQ (oF (List.getElem?_set_self hk) ha).symm h3.nM
section
variable {E:eI} {ops:Array Oper} {Q:dh} {rest:List Oper} {D:List Deferred} {L:List (Nat×Value)} {C C1:List aA}
variable {M A:Type} {f:M→A→List aA} {ms:List M} {asl:List A} {k:Nat} {m:M} {a:A} {X:aA}
theorem tT {c:Code} (i:Nat) (hm:ms[k]? =some m) (ha:asl[k]? =some a) (hf:f m a=[X]) (hn:decide (i::(List.range C.length).filter fun k=>k != i).Nodup=true) (hC:br C (i::(List.range C.length).filter fun k=>k != i)=a5 (aL f ms asl)::C1)
 (h:WJ E c Q D L (X::a5 (fD f ms asl k)::C1)):WJ E c Q D L C:=fun a w hf' hs=>h a w hf' (St.out hm ha hf (St.br _ hn hC hs))
theorem uA {K:Act→World→Prop} (i j:Nat) (hk:k<ms.length) (ha:asl[k]? =some a) (hf:f m a=[X]) (hn:decide (j::i::(List.range C.length).filter fun k=>k != i&&k != j).Nodup=true) (hC:br C (j::i::(List.range C.length).filter fun k=>k != i&&k != j)=X::a5 (fD f ms asl k)::C1)
 (h:KJ E K D L (a5 (aL f (ms.set k m) asl)::C1)):KJ E K D L C:=fun a w hf' hs=>h a w hf' (St.back hk ha hf (St.br _ hn hC hs))
end
end
section
open Go.RowKit
set_option linter.unusedVariables false
structure Bu (S:BS) (w0:World) (X:aA) (C0:List aA) (w:World) (S':BS):Prop where
 st:St S w0 (X::C0) w
 w_: ∀ b,S'.w b↔ ∃ A∈C0,A.wf b
theorem wQ {A B:aA} (h:wO A B):wO A.ro B:=fun b h1 h2=>⟨fun h=>h,(h b h1 h2).2⟩
theorem wb {E:eI} {c:Code} {Q:dh} {D:List Deferred} {L:List (Nat×Value)} {C C0:List aA} {X:aA} (i:Nat) (hn:decide (i::(List.range C.length).filter fun k=>k != i).Nodup=true) (hC:br C (i::(List.range C.length).filter fun k=>k != i)=X::C0)
 (h: ∀ w S',Bu E.S E.w0 X C0 w S'→WJ ⟨E.P,E.r,E.n,S',w⟩ c Q D L (X.ro::C0)):WJ E c Q D L C:=fun a w hf hs=>by
 have h0:=St.br _ hn hC hs
 obtain ⟨p1,p2⟩:=List.pairwise_cons.1 h0.sep
 refine h w ⟨fun b=> ∃ A∈C0,A.wf b,fun _=>True⟩ ⟨h0,fun b=>Iff.rfl⟩ a w hf ⟨dj.refl _ _,fun A hA=>?_,List.Pairwise.cons (fun B hB=>wQ (p1 B hB)) p2,fun A hA b hb=>?_,fun A hA b hb=> .inr trivial⟩
 ·rcases List.mem_cons.1 hA with rfl|hA
  ·exact h0.holds X (List.mem_cons_self ..)
  ·exact h0.holds A (List.mem_cons_of_mem _ hA)
 ·rcases List.mem_cons.1 hA with rfl|hA
  ·exact hb.elim
  ·exact .inr ⟨A,hA,hb⟩
theorem uQ {E:eI} {S':BS} {w:World} {K:Act→World→Prop} {D:List Deferred} {L:List (Nat×Value)} {C0 C1 C2:List aA} {X:aA} (hz:Bu E.S E.w0 X C0 w S') (is:List Nat) (hn:decide is.Nodup=true) (hC:br C2 is=C1) (hwr:C1.all (·.wr)=true)
 (h:KJ E K D L (X::C1)):KJ ⟨E.P,E.r,E.n,S',w⟩ K D L C2:=fun a w' hf hs=>by
 have h1:=St.br is hn hC hs
 have h0:=hz.st
 obtain ⟨p1,p2⟩:=List.pairwise_cons.1 h0.sep
 have hno: ∀ b,X.ej b→ ¬ S'.w b:=fun b hb hw=>by
  obtain ⟨A,hA,hw⟩:=(hz.w_ b).1 hw
  exact (p1 A hA b hb (A.i_ b hw)).2 hw
 have hown: ∀ b,S'.w b→E.w0.heap.size≤b∨E.S.w b:=fun b hb=>by
  obtain ⟨A,hA,hw⟩:=(hz.w_ b).1 hb
  exact h0.own A (List.mem_cons_of_mem _ hA) b hw
 have hfr: ∀ A∈C1,∀ b,A.ej b→w.heap.size≤b∨S'.w b:=fun A hA b hb=>h1.own A hA b (A.whole (List.all_eq_true.1 hwr A hA) b hb)
 refine h a w' hf ⟨?_,fun A hA=>?_,List.Pairwise.cons (fun B hB b hb hb'=>?_) h1.sep,fun A hA b hb=>?_,fun A hA b hb=>?_⟩
 ·refine ⟨h1.keeps.os.trans h0.keeps.os,h1.keeps.tape.trans h0.keeps.tape,h1.keeps.output.trans h0.keeps.output,Nat.le_trans h0.keeps.size h1.keeps.size,fun k hk hn'=>?_⟩
  refine (h1.keeps.block k (Nat.lt_of_lt_of_le hk h0.keeps.size) fun hw=>?_).trans (h0.keeps.block k hk hn')
  rcases hown k hw with q|q
  ·omega
  ·exact hn' q
 ·rcases List.mem_cons.1 hA with rfl|hA
  ·have hh:=h0.holds A (List.mem_cons_self ..)
   exact A.j2 w w' (fun b hb=>h1.keeps.block b (A.lt w hh b hb) (hno b hb)) hh
  ·exact h1.holds A hA
 ·exfalso
  have hl:=X.lt w (h0.holds X (List.mem_cons_self ..)) b hb
  rcases hfr B hB b hb' with q|q
  ·omega
  ·exact hno b hb q
 ·rcases List.mem_cons.1 hA with rfl|hA
  ·exact h0.own A (List.mem_cons_self ..) b hb
  ·rcases h1.own A hA b hb with q|q
   ·exact .inl (Nat.le_trans h0.keeps.size q)
   ·exact hown b q
 ·rcases List.mem_cons.1 hA with rfl|hA
  ·exact h0.seen A (List.mem_cons_self ..) b hb
  ·rcases hfr A hA b hb with q|q
   ·exact .inl (Nat.le_trans h0.keeps.size q)
   ·obtain ⟨B,hB,hw⟩:=(hz.w_ b).1 q
    exact h0.seen B (List.mem_cons_of_mem _ hB) b (B.i_ b hw)
/-- put back, as it was -/
theorem yB {M A:Type} {f:M→A→List aA} {S:BS} {w0 w:World} {C:List aA} {ms:List M} {asl:List A} {k:Nat} {m:M} {a:A} {X:aA} (hm:ms[k]? =some m) (ha:asl[k]? =some a) (hf:f m a=[X]) (h:St S w0 (X::a5 (fD f ms asl k)::C) w):St S w0 (a5 (aL f ms asl)::C) w:=by
 have h1:St S w0 (a5 (fD f ms asl k)::X::C) w:=h.perm (List.Perm.swap _ _ _)
 have h3:St S w0 ((f m a++fD f ms asl k)++C) w:=by
  rw [hf]
  exact h1.ig.perm (List.perm_middle (a:=X) (l₁:=fD f ms asl k) (l₂:=C))
 exact qQ (oF hm ha).symm h3.nM
theorem BD {E:eI} {K:Act→World→Prop} {D:List Deferred} {L:List (Nat×Value)} {C C1:List aA} {M A:Type} {f:M→A→List aA} {ms:List M} {asl:List A} {k:Nat} {m:M} {a:A} {X:aA} (i j:Nat) (hm:ms[k]? =some m) (ha:asl[k]? =some a) (hf:f m a=[X])
 (hn:decide (j::i::(List.range C.length).filter fun k=>k != i&&k != j).Nodup=true) (hC:br C (j::i::(List.range C.length).filter fun k=>k != i&&k != j)=X::a5 (fD f ms asl k)::C1)
 (h:KJ E K D L (a5 (aL f ms asl)::C1)):KJ E K D L C:=fun a w hf' hs=>h a w hf' (yB hm ha hf (St.br _ hn hC hs))
theorem ub {M A:Type} {f:M→A→List aA} {ms:List M} {asl:List A} {m:M} {a:A} {X:aA} (hl:ms.length=asl.length) (hf:f m a=[X]):aL f ms asl++[X]=aL f (ms++[m]) (asl++[a]):=by
 rw [ko hl,← hf]; simp [aL]
theorem uf {E:eI} {K:Act→World→Prop} {D:List Deferred} {L:List (Nat×Value)} {C C1:List aA} {M A:Type} {f:M→A→List aA} {ms:List M} {asl:List A} {m:M} {a:A} {X:aA} (i j:Nat) (hf:f m a=[X])
 (hn:decide (j::i::(List.range C.length).filter fun k=>k != i&&k != j).Nodup=true) (hC:br C (j::i::(List.range C.length).filter fun k=>k != i&&k != j)=X::a5 (aL f ms asl)::C1)
 (h:KJ E K D L (a5 (aL f (m::ms) (a::asl))::C1)):KJ E K D L C:=fun b w hf' hs=>by
 have h0:=St.br _ hn hC hs
 have h1:St E.S E.w0 (a5 (aL f ms asl)::X::C1) w:=h0.perm (List.Perm.swap _ _ _)
 have h2:St E.S E.w0 (aL f (m::ms) (a::asl)++C1) w:=by
  show St E.S E.w0 ((f m a++aL f ms asl)++C1) w
  rw [hf]
  exact h1.ig.perm (List.perm_middle (a:=X) (l₁:=aL f ms asl) (l₂:=C1))
 exact h b w hf' h2.nM
end
section
open Go.RowKit
set_option linter.unusedVariables false
abbrev gE (r:Nat):aA:=iM r (.deferred (some []))
theorem Cl (rs:List Nat):(a5 (rs.map gE)).wr=true:=by
 show (rs.map gE).all (·.wr)=true
 rw [List.all_eq_true]
 intro X hX
 obtain ⟨r,_,rfl⟩:=List.mem_map.1 hX
 rfl
theorem oj {E:eI} {c:Code} {Q:dh} {D:List Deferred} {L:List (Nat×Value)} {C:List aA} {ι:Type} (Di:ι→List Deferred) (Li:ι→List (Nat×Value)) (Ci:ι→List aA) (μ:ι→Nat) (x0:ι)
 (hD:D=Di x0) (h0:an L (Li x0)) (hC: ∀ w,St E.S E.w0 C w→St E.S E.w0 (Ci x0) w)
 (round: ∀ x (J:Act→World→Prop),(∀ y D' L' C',D'=Di y→μ y<μ x→an L' (Li y)→(∀ w,St E.S E.w0 C' w→St E.S E.w0 (Ci y) w)→KJ E J D' L' C')→WJ E c (Exit.then J Q) (Di x) (Li x) (Ci x)):WJ E (.loop c) Q D L C:=by
 intro a w hf hs
 subst hD
 have hst: ∃ x,Fr E.n (Di x) (Li x) a∧St E.S E.w0 (Ci x) w:=⟨x0,hf.sub h0,hC w hs⟩
 clear hf hs
 have key: ∀ (m:Nat) (a:Act) (w:World),(∃ x,μ x=m∧Fr E.n (Di x) (Li x) a∧St E.S E.w0 (Ci x) w)→(Code.loop c).wpIn (Fw E.r) 0 E.P Q a w:=by
  intro m a w hx
  refine wpIn_loop (fun a w=> ∃ x,Fr E.n (Di x) (Li x) a∧St E.S E.w0 (Ci x) w) (fun a w=>leastOf fun k=> ∃ x,μ x=k∧Fr E.n (Di x) (Li x) a∧St E.S E.w0 (Ci x) w) (by obtain ⟨x,_,h⟩:=hx; exact ⟨x,h⟩) ?_
  intro a w hx
  have hex: ∃ k,∃ x,μ x=k∧Fr E.n (Di x) (Li x) a∧St E.S E.w0 (Ci x) w:=by obtain ⟨x,h⟩:=hx; exact ⟨_,x,rfl,h⟩
  obtain ⟨x,hxm,hxf,hxs⟩:=(leastOf_spec hex).1
  refine round x _ ?_ a w hxf hxs
  intro y D' L' C' hD hlt hsub hcc a' w' hf' hs'
  subst hD
  refine ⟨⟨y,hf'.sub hsub,hcc _ hs'⟩,?_⟩
  rw [← hxm]
  exact Nat.lt_of_le_of_lt ((leastOf_spec ⟨_,y,rfl,hf'.sub hsub,hcc _ hs'⟩).2 _ ⟨y,rfl,hf'.sub hsub,hcc _ hs'⟩) hlt
 obtain ⟨x,h⟩:=hst
 exact key _ a w ⟨x,rfl,h⟩
theorem St.Je {S:BS} {w0 w:World} {C X:List aA} {A:aA} (h:St S w0 (A::a5 X::C) w):St S w0 (a5 (A::X)::C) w:=by
 have h1:St S w0 (a5 X::A::C) w:=h.perm (List.Perm.swap _ _ _)
 have h2:St S w0 ((A::X)++C) w:=h1.ig.perm (List.perm_middle (a:=A) (l₁:=X) (l₂:=C))
 exact h2.nM
theorem sE {E:eI} {K:Act→World→Prop} {D:List Deferred} {L:List (Nat×Value)} {C C1 X:List aA} {A:aA} (i j:Nat) (hn:decide (j::i::(List.range C.length).filter fun k=>k != i&&k != j).Nodup=true) (hC:br C (j::i::(List.range C.length).filter fun k=>k != i&&k != j)=A::a5 X::C1)
 (h:KJ E K D L (a5 (A::X)::C1)):KJ E K D L C:=fun a w hf hs=>h a w hf ((St.br _ hn hC hs).Je)
theorem xw {E:eI} {K:Act→World→Prop} {D:List Deferred} {L:List (Nat×Value)} {C:List aA} (h:KJ E K D L (a5 []::C)):KJ E K D L C:=fun a w hf hs=>h a w hf hs.Ep
theorem Ef {E:eI} {K:Act→World→Prop} {D:List Deferred} {L:List (Nat×Value)} (C1 C2:List aA) (h:KJ E K D L (a5 C1::C2)):KJ E K D L (C1++C2):=fun a w hf hs=>h a w hf (St.nM hs)
theorem Ch {E:eI} {fn:Func} {R:Ending→World→Prop} {D:List Deferred} {L:List (Nat×Value)} {C C1:List aA} {rs:List Nat} (i:Nat) (hn:decide (i::(List.range C.length).filter fun k=>k != i).Nodup=true) (hC:br C (i::(List.range C.length).filter fun k=>k != i)=a5 (rs.map gE)::C1)
 (h:LJ E fn R D L C1):LJ E fn R (rs.map jD++D) L C:=by
 have key: ∀ rs:List Nat,LJ E fn R (rs.map jD++D) L (a5 (rs.map gE)::C1):=by
  intro rs
  induction rs with
  |nil=>exact fun a w hf hs=>h a w hf (hs.take (List.sublist_cons_self _ _))
  |cons r rs ih=>
   have h2:LJ E fn R (jD r::(rs.map jD++D)) L (gE r::a5 (rs.map gE)::C1):=qn 0 rfl rfl (fun a w hf hs=>ih a w hf (hs.take (List.sublist_cons_self _ _)))
   intro a w hf hs
   refine h2 a w hf ?_
   have h3:St E.S E.w0 ((gE r::rs.map gE)++C1) w:=St.ig (C1:=gE r::rs.map gE) hs
   have h4:St E.S E.w0 (rs.map gE++(gE r::C1)) w:=h3.perm (List.perm_middle (a:=gE r) (l₁:=rs.map gE) (l₂:=C1)).symm
   exact h4.nM.perm (List.Perm.swap _ _ _)
 exact fun a w hf hs=>key rs a w hf (St.br _ hn hC hs)
theorem sH {E:eI} {fn:Func} {R:Ending→World→Prop} {L:List (Nat×Value)} {C C1:List aA} {rs:List Nat} (i:Nat) (hn:decide (i::(List.range C.length).filter fun k=>k != i).Nodup=true) (hC:br C (i::(List.range C.length).filter fun k=>k != i)=a5 (rs.map gE)::C1)
 (h:LJ E fn R [] L C1):LJ E fn R (rs.map jD) L C:=by
 have:=Ch (D:=[]) i hn hC h
 rwa [List.append_nil] at this
end
section
open Go.RowKit
set_option linter.unusedVariables false
theorem iF (fs:List FM) (fb:List Nat):(a5 (aL fW fs fb)).wr=true:=by
 show (aL fW fs fb).all (·.wr)=true
 rw [List.all_eq_true]
 intro X hX
 obtain ⟨k,m,a,_,_,h⟩:=nJ hX
 simp only [fW,List.mem_singleton] at h
 subst h; rfl
theorem jg (fs:List TM) (fb:List Nat):(a5 (aL ib fs fb)).wr=true:=by
 show (aL ib fs fb).all (·.wr)=true
 rw [List.all_eq_true]
 intro X hX
 obtain ⟨k,m,a,_,_,h⟩:=nJ hX
 simp only [ib,List.mem_singleton] at h
 subst h; rfl
end
section
set_option linter.unusedVariables false
def bP (ln:aF) (rd:aS) (e:List Int) (tms:List TM):bh:=⟨rd.Start,rd.cI,e,tms,ln.aJ,ln.aV,(rd.ab.n:Int)⟩
def Dl (o:Int×ae):List Value:=[.int .i64 o.1,.agg (ae.cells o.2).toArray]
structure zV (w:bh):Prop where
 n:w.n≤6
 times:w.qX.length=w.n
 now:0≤w.Start∧w.Start≤w.cI∧w.cI≤86400000
 least: ∀ x∈w.oN,1≤x∧x≤500000000
 x8: ∀ t∈w.qX,∀ p∈t,(0≤p.1∧p.1≤10)∧0≤p.2.Lo∧p.2.Lo≤p.2.Hi∧p.2.Hi≤86400000
theorem zV.opt {w:bh} (h:zV w) {b:Nat} {o:Int×ae} (ho:o∈gj w b):(-1≤o.1∧o.1≤10)∧0≤o.2.Lo∧o.2.Lo≤o.2.Hi∧o.2.Hi≤86400000:=by
 unfold gj pU at ho
 rcases List.mem_cons.1 ho with rfl|ho
 ·have:=h.now; simp only; omega
 ·cases ht:w.qX[b]? with
  |none=>simp [ht] at ho
  |some t=>
   rw [ht] at ho
   have:=h.x8 t (List.mem_of_getElem? ht) o ho
   omega
theorem zV.bx {w:bh} (h:zV w) (b:Nat):0≤bx w b∧bx w b≤500000000:=by
 unfold Go.Proofs.YthiigjekcdjkkaaGreat.bx
 cases ht:w.oN[b]? with
 |none=>simp
 |some x=>have:=h.least x (List.mem_of_getElem? ht); simp only [Option.getD_some]; omega
theorem qw (s:Int):(0≤(dQ s).right∧0≤(dQ s).de)∧(dQ s).right+(dQ s).de=1:=by unfold dQ; split<;>simp
theorem Ar {w:bh} (h:zV w): ∀ (b:Nat) p,p∈fwd w b→(0≤p.2∧p.2≤86400000)∧(0≤p.1.right∧0≤p.1.de)∧p.1.right+p.1.de=(b:Int):=by
 intro b
 induction b with
 |zero=>
  intro p hp
  simp only [fwd,List.mem_singleton] at hp
  subst hp
  have:=h.now; simp only; omega
 |succ b ih=>
  intro q hq
  obtain ⟨p,hp,o,ho,e⟩:=eL.1 hq
  have h1:=ih p hp
  have h2:=h.opt ho
  have h3:=h.bx b
  have h4:=h.now
  have h5:=qw o.1
  unfold jB at e
  split at e
  ·simp only [Option.some.injEq] at e
   subst e
   simp only [cO]
   omega
  ·cases e
theorem GR {w:bh} (h:zV w): ∀ (k:Nat) p,p∈bwd w k→(-(500000000*(k:Int))≤p.2∧p.2≤86400000)∧(0≤p.1.right∧0≤p.1.de)∧p.1.right+p.1.de≤(k:Int):=by
 intro k
 induction k with
 |zero=>
  intro p hp
  simp only [bwd,List.mem_singleton] at hp
  subst hp
  have:=h.now; simp only; omega
 |succ k ih=>
  intro q hq
  simp only [bwd,List.mem_cons,List.mem_flatMap,List.mem_filterMap] at hq
  rcases hq with rfl|⟨p,hp,o,ho,e⟩
  ·have:=h.now; simp only; omega
  ·have h1:=ih p hp
   have h2:=h.opt ho
   have h3:=h.bx (w.n-(k+1))
   have h4:=h.now
   have h5:=qw o.1
   unfold lB at e
   split at e
   ·simp only [Option.some.injEq] at e
    subst e
    simp only [cO]
    omega
   ·cases e
theorem AT {w:bh} (h:zV w) {b:Nat} {p:ao×Int} (hp:p∈back w b):(-3000000000≤p.2∧p.2≤86400000)∧(0≤p.1.right∧0≤p.1.de)∧p.1.right+p.1.de≤6:=by
 have:=GR h _ _ hp
 have:=h.n
 omega
theorem sj {w:bh} {b:Nat} {t:TM} (ht:w.qX[b]? =some t) {o:Int×ae}:o∈gj w b↔o=(-1,⟨w.Start,w.cI⟩)∨o∈t:=by
 unfold gj pU; rw [ht]; simp
theorem kb {K β:Type} [DecidableEq K] {l:List (K×β)} {x:K} {y:β} (hn:(l.map (·.1)).Nodup) (hm:(x,y)∈l) {o:K×β} (h:o∈l):o∈cV l x∨o=(x,y):=by
 by_cases e:o.1=x
 ·right
  obtain ⟨k,v⟩:=o
  simp only at e
  subst e
  have h1:=(ks hn).1 h
  have h2:=(ks hn).1 hm
  rw [h1] at h2
  cases h2; rfl
 ·exact .inl (tU.2 ⟨h,e⟩)
theorem zi {K β:Type} [DecidableEq K] {t l ys:List (K×β)} {x:K} {y:β} (hn:(l.map (·.1)).Nodup) (hm:(x,y)∈l) (h: ∀ o∈t,o∈l∨o∈ys): ∀ o∈t,o∈cV l x∨o∈ys++[(x,y)]:=fun o ho=>by
 rcases h o ho with h|h
 ·rcases kb hn hm h with h|h
  ·exact .inl h
  ·exact .inr (by simp [h])
 ·exact .inr (by simp [h])
theorem kB {K β:Type} [DecidableEq K] {t l:List (K×β)} {x:K} (h: ∀ o∈l,o∈t): ∀ o∈cV l x,o∈t:=fun o ho=>h o (tU.1 ho).1
theorem Az {w:bh} {m left:List (ao×Int)} (h: ∀ p∈m,p∈left∨ja w p.1=false) (h0:left=[]):gN w m=false:=by
 unfold gN
 rw [List.any_eq_false]
 intro p hp
 rcases h p hp with q|q
 ·rw [h0] at q; cases q
 ·simp [q]
theorem CF {w:bh} {m:List (ao×Int)} {p:ao×Int} (hp:p∈m) (h:ja w p.1=true):gN w m=true:=List.any_eq_true.2 ⟨p,hp,h⟩
theorem z6 {w:bh} {m left:List (ao×Int)} {t:ao} {v:Int} (hn:(left.map (·.1)).Nodup) (hm:(t,v)∈left) (h: ∀ p∈m,p∈left∨ja w p.1=false) (hf:ja w t=false): ∀ p∈m,p∈cV left t∨ja w p.1=false:=fun p hp=>by
 rcases h p hp with q|q
 ·rcases kb hn hm q with q|q
  ·exact .inl q
  ·right; rw [q]; exact hf
 ·exact .inr q
/-- what the maps of a watch are -/
structure qZ (w:bh) (fs:List (List (ao×Int))):Prop where
 len:fs.length=w.n+1
 min: ∀ (b:Nat) m,fs[b]? =some m→oQ m (fwd w b)
 keys: ∀ (b:Nat) m,fs[b]? =some m→(m.map (·.1)).Nodup
structure oZ (w:bh) (bs:List (List (ao×Int))):Prop where
 len:bs.length=w.n+1
 max: ∀ (b:Nat) m,bs[b]? =some m→pW m (back w b)
 keys: ∀ (b:Nat) m,bs[b]? =some m→(m.map (·.1)).Nodup
theorem qZ.mem {w:bh} {fs:List (List (ao×Int))} (h:qZ w fs) {b:Nat} {m:List (ao×Int)} (hm:fs[b]? =some m) {p:ao×Int} (hp:p∈m):p∈fwd w b:=(h.min b m hm).1 _ _ ((d_ (h.keys b m hm)).1 hp)
theorem oZ.mem {w:bh} {fs:List (List (ao×Int))} (h:oZ w fs) {b:Nat} {m:List (ao×Int)} (hm:fs[b]? =some m) {p:ao×Int} (hp:p∈m):p∈back w b:=(h.max b m hm).1 _ _ ((d_ (h.keys b m hm)).1 hp)
theorem zp {w:bh} {b:Nat} {t l ys:List (Int×ae)} (ht:w.qX[b]? =some t) (h: ∀ o∈t,o∈l∨o∈ys) (h0:l=[]) (hs:(-1,(⟨w.Start,w.cI⟩:ae))∈ys): ∀ o∈gj w b,o∈ys:=fun o ho=>by
 rcases (sj ht).1 ho with rfl|ho
 ·exact hs
 ·rcases h o ho with q|q
  ·rw [h0] at q; cases q
  ·exact q
end
section
set_option linter.unusedVariables false
/-- by these options all is yielded -/
def jV (w:bh) (b:Nat) (mf mb:List (ao×Int)) (os ys:List (Int×ae)):Prop:= ∀ o∈os,∀ p∈mf,∀ u∈mb,∀ q,kE w b p u o=some q→q∈ys
def k8 (w:bh) (b:Nat) (mf mb:List (ao×Int)) (o:Int×ae) (left:List (ao×Int)) (ys:List (Int×ae)):Prop:= ∀ p∈mf,p∈left∨ ∀ u∈mb,∀ q,kE w b p u o=some q→q∈ys
def lp (w:bh) (b:Nat) (mb:List (ao×Int)) (o:Int×ae) (p:ao×Int) (left:List (ao×Int)) (ys:List (Int×ae)):Prop:= ∀ u∈mb,u∈left∨ ∀ q,kE w b p u o=some q→q∈ys
variable {w:bh} {b:Nat} {mf mb left:List (ao×Int)} {o x:Int×ae} {os ys:List (Int×ae)} {p u:ao×Int}
theorem jV.nil:jV w b mf mb [] ys:=fun o ho=>by cases ho
theorem jV.app (h:jV w b mf mb os ys):jV w b mf mb os (ys++[x]):=fun o ho p hp u hu q e=>List.mem_append_left _ (h o ho p hp u hu q e)
theorem k8.app (h:k8 w b mf mb o left ys):k8 w b mf mb o left (ys++[x]):=fun p hp=>(h p hp).imp id fun h u hu q e=>List.mem_append_left _ (h u hu q e)
theorem k8.start:k8 w b mf mb o mf ys:=fun p hp=> .inl hp
theorem lp.start:lp w b mb o p mb ys:=fun p hp=> .inl hp
theorem lp.skip {t:ao} {v:Int} (hn:(left.map (·.1)).Nodup) (hm:(t,v)∈left) (h:lp w b mb o p left ys) (he:kE w b p (t,v) o=none):lp w b mb o p (cV left t) ys:=fun u hu=>by
 rcases h u hu with q|q
 ·rcases kb hn hm q with q|q
  ·exact .inl q
  ·right; intro z hz; rw [q,he] at hz; cases hz
 ·exact .inr q
theorem lp.I_ {t:ao} {v:Int} (hn:(left.map (·.1)).Nodup) (hm:(t,v)∈left) (h:lp w b mb o p left ys) (he:kE w b p (t,v) o=some x):lp w b mb o p (cV left t) (ys++[x]):=fun u hu=>by
 rcases h u hu with q|q
 ·rcases kb hn hm q with q|q
  ·exact .inl q
  ·right; intro z hz; rw [q,he] at hz; cases hz; simp
 ·right; intro z hz; exact List.mem_append_left _ (q z hz)
theorem k8.next {t:ao} {v:Int} {l2:List (ao×Int)} (hn:(left.map (·.1)).Nodup) (hm:(t,v)∈left) (h:k8 w b mf mb o left ys) (hq:lp w b mb o (t,v) l2 ys) (h0:l2=[]):k8 w b mf mb o (cV left t) ys:=fun p hp=>by
 rcases h p hp with q|q
 ·rcases kb hn hm q with q|q
  ·exact .inl q
  ·right; intro u hu z hz; subst q
   rcases hq u hu with q|q
   ·rw [h0] at q; cases q
   ·exact q z hz
 ·exact .inr q
theorem jV.next (h:jV w b mf mb os ys) (hp:k8 w b mf mb o left ys) (h0:left=[]):jV w b mf mb (os++[o]) ys:=fun o' ho p hp' u hu q e=>by
 rcases List.mem_append.1 ho with ho|ho
 ·exact h o' ho p hp' u hu q e
 ·simp only [List.mem_singleton] at ho; subst ho
  rcases hp p hp' with z|z
  ·rw [h0] at z; cases z
  ·exact z u hu q e
theorem jV.fin (h:jV w b mf mb os ys) (ho: ∀ o∈gj w b,o∈os): ∀ q∈kI w b mf mb,q∈ys:=fun q hq=>by
 obtain ⟨o,h1,p,h2,u,h3,e⟩:=gD.1 hq
 exact h o (ho o h1) p h2 u h3 q e
theorem zh (h:max (p.2+bx w b) o.2.Lo≤min u.2 o.2.Hi) (h2:ja w (cO (cO p.1 u.1) (dQ o.1))=true):kE w b p u o=some (o.1,⟨max (p.2+bx w b) o.2.Lo,min u.2 o.2.Hi⟩):=by
 unfold kE iu sS; rw [if_pos ⟨h,h2⟩]
theorem AR (h: ¬ max (p.2+bx w b) o.2.Lo≤min u.2 o.2.Hi):kE w b p u o=none:=by
 unfold kE iu; rw [if_neg (fun q=>h q.1)]
theorem uz (h2:ja w (cO (cO p.1 u.1) (dQ o.1))=false):kE w b p u o=none:=by
 unfold kE sS; rw [if_neg (fun q=>by rw [h2] at q; exact absurd q.2 (by decide))]
theorem ly {v:Int} (h:w.oN[b]? =some v):bx w b=v:=by unfold bx; rw [h]; rfl
theorem v5 {t q:ao} {v z y:Int} (hy:w.oN[b]? =some y) (h:max (v+y) o.2.Lo≤min z o.2.Hi) (h2:ja w (cO (cO t q) (dQ o.1))=true):kE w b (t,v) (q,z) o=some (o.1,⟨max (v+y) o.2.Lo,min z o.2.Hi⟩):=by
 have e:=ly hy
 subst e
 exact zh h h2
theorem ug {t q:ao} {v z y:Int} (hy:w.oN[b]? =some y) (h: ¬ max (v+y) o.2.Lo≤min z o.2.Hi):kE w b (t,v) (q,z) o=none:=by
 have e:=ly hy
 subst e
 exact AR h
theorem lG {m:List (ao×Int)} {k:ao} {y:Int} (h:(m.map (·.1)).Nodup):((dV m k y).map (·.1)).Nodup:=by
 unfold dV
 by_cases hx:(m.lookup k).isSome
 ·rw [if_pos hx,List.map_map]
  have e:m.map ((fun p=>p.1)∘fun p=>if p.1=k then (k,y) else p)=m.map (·.1):=by
   apply List.map_congr_left
   intro p _
   simp only [Function.comp]
   split
   ·rename_i e; exact e.symm
   ·rfl
  rw [e]; exact h
 ·rw [if_neg hx,List.map_append,List.nodup_append]
  refine ⟨h,by simp,?_⟩
  intro a ha c hc
  simp only [List.map_cons,List.map_nil,List.mem_singleton] at hc
  rw [hc]
  obtain ⟨p,hp,rfl⟩:=List.mem_map.1 ha
  have hn:m.lookup k=none:=by cases h0:m.lookup k with
   |none=>rfl
   |some v=>exact absurd (by rw [h0]; rfl) hx
  exact gF.1 hn p hp
theorem vJ {m:List (ao×Int)} {q:ao×Int} (h:(m.map (·.1)).Nodup):((mz m q).map (·.1)).Nodup:=by
 unfold mz; split
 ·exact lG h
 ·split
  ·exact lG h
  ·exact h
theorem vP {m:List (ao×Int)} {q:ao×Int} (h:(m.map (·.1)).Nodup):((l3 m q).map (·.1)).Nodup:=by
 unfold l3; split
 ·exact lG h
 ·split
  ·exact lG h
  ·exact h
/-- a map of the first times, on its way -/
structure rT (w:bh) (b:Nat) (m:List (ao×Int)):Prop where
 snd:q8 m (fwd w (b+1))
 keys:(m.map (·.1)).Nodup
structure rn (w:bh) (b:Nat) (m:List (ao×Int)):Prop where
 snd:q8 m (back w b)
 keys:(m.map (·.1)).Nodup
 zero: ∃ v,m.lookup ⟨0,0⟩=some v∧w.cI≤v
theorem BH (h:max (p.2+bx w b) o.2.Lo≤min o.2.Hi w.cI):jB w b p o=some (cO p.1 (dQ o.1),max (p.2+bx w b) o.2.Lo):=by unfold jB; rw [if_pos h]
theorem C4 (h: ¬ max (p.2+bx w b) o.2.Lo≤min o.2.Hi w.cI):jB w b p o=none:=by unfold jB; rw [if_neg h]
theorem Bm (h:o.2.Lo≤min p.2 o.2.Hi):lB w b p o=some (cO p.1 (dQ o.1),min p.2 o.2.Hi-bx w b):=by unfold lB; rw [if_pos h]
theorem rG (h: ¬ o.2.Lo≤min p.2 o.2.Hi):lB w b p o=none:=by unfold lB; rw [if_neg h]
theorem rT.start:rT w b []:=⟨fun t v h=>by simp at h,List.nodup_nil⟩
theorem rT.add {m:List (ao×Int)} {q:ao×Int} (h:rT w b m) (hp:p∈fwd w b) (ho:o∈gj w b) (he:jB w b p o=some q):rT w b (mz m q):=⟨ze h.snd (eL.2 ⟨p,hp,o,ho,he⟩),vJ h.keys⟩
theorem rn.start (hb:b<w.n):rn w b [(⟨0,0⟩,w.cI)]:=⟨fun t v h=>by
 obtain ⟨rfl,rfl⟩:=mq.1 h
 exact (mj hb).2 (.inl rfl),by simp,w.cI,mq.2 ⟨rfl,rfl⟩,Int.le_refl _⟩
theorem rn.add {m:List (ao×Int)} {q:ao×Int} (hb:b<w.n) (h:rn w b m) (hp:p∈back w (b+1)) (ho:o∈gj w b) (he:lB w b p o=some q):rn w b (l3 m q):=⟨zw h.snd ((mj hb).2 (.inr ⟨p,hp,o,ho,he⟩)),vP h.keys,by
 obtain ⟨v,h1,h2⟩:=h.zero
 obtain ⟨v',h3,h4⟩:=nQ (q:=q) _ _ h1
 exact ⟨v',h3,by omega⟩⟩
theorem gS.none_ {m:List (ao×Int)} (h:gS w b m p os) (he:jB w b p o=none):gS w b m p (os++[o]):=h.add (r8.refl _) fun q hq=>by rw [he] at hq; cases hq
theorem gS.AH {m:List (ao×Int)} {q:ao×Int} (h:gS w b m p os) (he:jB w b p o=some q):gS w b (mz m q) p (os++[o]):=h.add q6 fun q' hq=>by rw [he] at hq; cases hq; exact yM
theorem gU.none_ {m:List (ao×Int)} (h:gU w b m p os) (he:lB w b p o=none):gU w b m p (os++[o]):=h.add (sI.refl _) fun q hq=>by rw [he] at hq; cases hq
theorem gU.AH {m:List (ao×Int)} {q:ao×Int} (h:gU w b m p os) (he:lB w b p o=some q):gU w b (l3 m q) p (os++[o]):=h.add nQ fun q' hq=>by rw [he] at hq; cases hq; exact zE
/-- what of a map of the beam before is used already -/
def iK (w:bh) (b:Nat) (mb m left:List (ao×Int)):Prop:= ∀ p∈mb,p∈left∨gS w b m p (gj w b)
def ij (w:bh) (b:Nat) (mb m left:List (ao×Int)):Prop:= ∀ p∈mb,p∈left∨gU w b m p (gj w b)
theorem iK.start {m:List (ao×Int)}:iK w b mb m mb:=fun p hp=> .inl hp
theorem ij.start {m:List (ao×Int)}:ij w b mb m mb:=fun p hp=> .inl hp
theorem iK.lower {m m':List (ao×Int)} (h:iK w b mb m left) (hl:r8 m m'):iK w b mb m' left:=fun p hp=>(h p hp).imp id fun h=>h.lower hl
theorem ij.upper {m m':List (ao×Int)} (h:ij w b mb m left) (hl:sI m m'):ij w b mb m' left:=fun p hp=>(h p hp).imp id fun h=>h.upper hl
theorem iK.next {m:List (ao×Int)} {t:ao} {v:Int} (hn:(left.map (·.1)).Nodup) (hm:(t,v)∈left) (h:iK w b mb m left) (hd:gS w b m (t,v) os) (ho: ∀ o∈gj w b,o∈os):iK w b mb m (cV left t):=fun p hp=>by
 rcases h p hp with q|q
 ·rcases kb hn hm q with q|q
  ·exact .inl q
  ·right; rw [q]; exact hd.sub ho
 ·exact .inr q
theorem ij.next {m:List (ao×Int)} {t:ao} {v:Int} (hn:(left.map (·.1)).Nodup) (hm:(t,v)∈left) (h:ij w b mb m left) (hd:gU w b m (t,v) os) (ho: ∀ o∈gj w b,o∈os):ij w b mb m (cV left t):=fun p hp=>by
 rcases h p hp with q|q
 ·rcases kb hn hm q with q|q
  ·exact .inl q
  ·right; rw [q]; exact hd.sub ho
 ·exact .inr q
theorem iK.fin {m:List (ao×Int)} (h:iK w b mb m left) (h0:left=[]): ∀ p∈mb,gS w b m p (gj w b):=fun p hp=>by
 rcases h p hp with q|q
 ·rw [h0] at q; cases q
 ·exact q
theorem ij.fin {m:List (ao×Int)} (h:ij w b mb m left) (h0:left=[]): ∀ p∈mb,gU w b m p (gj w b):=fun p hp=>by
 rcases h p hp with q|q
 ·rw [h0] at q; cases q
 ·exact q
end
section
set_option linter.unusedVariables false
def gZ (a b:ae):ae:=⟨a.Lo+b.Lo,a.Hi+b.Hi⟩
def jW:ae:=⟨0,0⟩
def gR (a:ae) (l:List ae):ae:=l.foldl gZ a
def jU (z:ae):Prop:=(-1000000000≤z.Lo∧z.Lo≤1000000000)∧ -1000000000≤z.Hi∧z.Hi≤1000000000
theorem tM {a:ae} {l:List ae} {i:Nat} {z:ae} (h:l[i]? =some z):gR a (l.take (i+1))=gZ (gR a (l.take i)) z:=by
 rw [List.take_add_one,h]; unfold gR; simp
theorem D0 {a:ae} {l:List ae} (ha:jU a) (hl: ∀ z∈l,jU z): ∀ i:Nat,(-1000000000-1000000000*(i:Int)≤(gR a (l.take i)).Lo∧(gR a (l.take i)).Lo≤1000000000+1000000000*(i:Int))∧ -1000000000-1000000000*(i:Int)≤(gR a (l.take i)).Hi∧(gR a (l.take i)).Hi≤1000000000+1000000000*(i:Int):=by
 intro i
 induction i with
 |zero=>unfold jU at ha; simp [gR]; omega
 |succ i ih=>
  cases h:l[i]? with
  |none=>rw [List.take_add_one,h]; simp only [Option.toList_none,List.append_nil]; omega
  |some z=>
   have hz:=hl z (List.mem_of_getElem? h)
   unfold jU at hz
   rw [tM h]
   simp only [gZ]
   omega
theorem Ai {a:ae} {l:List ae} {i:Nat} (h:l.length≤i):gR a (l.take i)=gR a l:=by rw [List.take_of_length_le h]
theorem lg {a z:ae}:Value.agg (ae.cells (gR a [z])).toArray=Value.agg (ae.cells (gZ a z)).toArray:=rfl
theorem vw {a y z:ae}:Value.agg (ae.cells (gR a [y,z])).toArray=Value.agg (ae.cells (gZ (gZ a y) z)).toArray:=rfl
/-- how long the run is from one mark, over so many stretches; by how much it falls -/
def bW (ts:List ah) (f:Nat):Nat→ae
 |0=>jW
 |k+1=>match ts[f+k]? with
  |some x=>gZ (bW ts f k) x.g5
  |none=>bW ts f k
def dK (ts:List ah) (f:Nat):Nat→ae
 |0=>jW
 |k+1=>match ts[f+k]? with
  |some x=>gZ (dK ts f k) x.iA
  |none=>dK ts f k
theorem mE {ts:List ah} {f k:Nat} {x:ah} (h:ts[f+k]? =some x):bW ts f (k+1)=gZ (bW ts f k) x.g5:=by simp [bW,h]
theorem m7 {ts:List ah} {f k:Nat} {x:ah} (h:ts[f+k]? =some x):dK ts f (k+1)=gZ (dK ts f k) x.iA:=by simp [dK,h]
theorem ki {ts:List ah} (ht: ∀ x∈ts,a_ x) (f:Nat): ∀ k:Nat,(0≤(bW ts f k).Lo∧(bW ts f k).Lo≤(bW ts f k).Hi)∧(bW ts f k).Hi≤30000*(k:Int):=by
 intro k
 induction k with
 |zero=>simp [bW,jW]
 |succ k ih=>
  simp only [bW]
  cases h:ts[f+k]? with
  |none=>simp only; omega
  |some x=>
   have hx:=(ht x (List.mem_of_getElem? h)).2.1
   simp only [cT] at hx
   simp only [gZ]
   omega
theorem yp {ts:List ah} (ht: ∀ x∈ts,a_ x) (f:Nat): ∀ k:Nat,(0≤(dK ts f k).Lo∧(dK ts f k).Lo≤(dK ts f k).Hi)∧(dK ts f k).Hi≤5000*(k:Int):=by
 intro k
 induction k with
 |zero=>simp [dK,jW]
 |succ k ih=>
  simp only [dK]
  cases h:ts[f+k]? with
  |none=>simp only; omega
  |some x=>
   have hx:=(ht x (List.mem_of_getElem? h)).2.2.1
   simp only [cT] at hx
   simp only [gZ]
   omega
theorem n_ {ts:List ah} (ht: ∀ x∈ts,a_ x) {f k:Nat} (hk:k≤13):jU (bW ts f k):=by
 have:=ki ht f k; unfold jU; omega
theorem s8 {ts:List ah} (ht: ∀ x∈ts,a_ x) {f k:Nat} (hk:k≤13):jU (dK ts f k):=by
 have:=yp ht f k; unfold jU; omega
theorem qt {x:ah} (h:a_ x):jU x.g5:=by have:=h.2.1; simp only [cT] at this; unfold jU; omega
theorem qO {x:ah} (h:a_ x):jU x.iA:=by have:=h.2.2.1; simp only [cT] at this; unfold jU; omega
theorem g7 {ts:List ah} (h: ¬ (if cj ts=true then (0:Int) else 10)=0):cj ts=false∧(if cj ts=true then (0:Int) else 10)=10:=by
 cases ht:cj ts with
 |true=>rw [ht] at h; exact absurd rfl h
 |false=>exact ⟨rfl,rfl⟩
theorem xJ {ts:List ah} (h:(if cj ts=true then (0:Int) else 10)=0):cj ts=true:=by
 cases ht:cj ts with
 |true=>rfl
 |false=>rw [ht] at h; exact absurd h (by decide)
/-- what the iterator of marks yields -/
def pE (ts:List ah) (f:Nat):List (List Value):=(List.range (ts.length-f+1)).map fun (k:Nat)=>[.agg (bW ts f k).cells.toArray,.agg (dK ts f k).cells.toArray]
theorem p9 {ts:List ah} {f:Nat}:(pE ts f).length=ts.length-f+1:=by simp [pE]
theorem tP {ts:List ah} {f k:Nat} (h:k≤ts.length-f):(pE ts f)[k]? =some [.agg (bW ts f k).cells.toArray,.agg (dK ts f k).cells.toArray]:=by
 simp [pE,List.getElem?_range (show k<ts.length-f+1 by omega)]
theorem zA {ts:List ah} {f k:Nat} {x:List Value} (h:(pE ts f)[k]? =some x):k≤ts.length-f∧x=[.agg (bW ts f k).cells.toArray,.agg (dK ts f k).cells.toArray]:=by
 have hi:k<ts.length-f+1:=by
  have:=(List.getElem?_eq_some_iff.1 h).1
  simpa [pE] using this
 rw [tP (by omega)] at h
 exact ⟨by omega,(Option.some.inj h).symm⟩
theorem w7 {ts:List ah} {f:Nat}: ∀ x∈pE ts f,x.length=2:=fun x hx=>by
 obtain ⟨k,_,rfl⟩:=List.mem_map.1 hx; rfl
end
section
set_option linter.unusedVariables false
def ei (ts:List ah) (s:bS):Prop:=(0≤s.ak∧s.ak<(ts.length:Int))∧ ∃ x,ts[s.ak.toNat]? =some x∧cT s.ek 0 (x.g5.Lo-1)
noncomputable instance (ts:List ah) (s:bS):Decidable (ei ts s):=Classical.propDecidable _
theorem p_ {ts:List ah} {s:bS} {x:ah} (h:0≤s.ak∧s.ak<(ts.length:Int)) (hx:ts[s.ak.toNat]? =some x):ei ts s↔cT s.ek 0 (x.g5.Lo-1):=
 ⟨fun h2=>by obtain ⟨y,hy,h3⟩:=h2.2; rw [hx] at hy; cases hy; exact h3,fun h2=>⟨h,x,hx,h2⟩⟩
theorem pP {ts:List ah} {s:bS} (h: ¬ (0≤s.ak∧s.ak<(ts.length:Int))): ¬ ei ts s:=fun h2=>h h2.1
theorem uG {ts:List ah} {s:bS} (ht: ∀ x∈ts,a_ x) (h:ei ts s):(0≤s.ek.Lo∧s.ek.Lo≤s.ek.Hi)∧s.ek.Hi≤30000:=by
 obtain ⟨x,hx,h2⟩:=h.2
 have:=(ht x (List.mem_of_getElem? hx)).2.1
 simp only [cT] at h2 this
 omega
theorem xI {ts:List ah} {a:bS}:Value.bool (decide (∀ s∈[a],ei ts s))=Value.bool (decide (ei ts a)):=congrArg _ (decide_eq_decide.2 (by simp))
theorem xd {ts:List ah} {a b:bS}:Value.bool (decide (∀ s∈[a,b],ei ts s))=Value.bool (decide (ei ts a∧ei ts b)):=congrArg _ (decide_eq_decide.2 (by simp))
def hZ (z:ae):ae:=⟨-z.Hi,-z.Lo⟩
def zU (ts:List ah) (s:bS):ae:=gZ (bW ts 0 s.ak.toNat) s.ek
noncomputable def sq (ts:List ah) (s:bS):Int:=if cj ts=true then (if ei ts s then 0 else 12) else 10
noncomputable def vc (ts:List ah) (s:bS):ae:=if sq ts s=0 then zU ts s else jW
theorem mY {ts:List ah} {s:bS} (h:cj ts=false):sq ts s=10∧vc ts s=jW:=by
 have e:sq ts s=10:=by unfold sq; rw [h]; rfl
 exact ⟨e,by unfold vc; rw [e]; rfl⟩
theorem nh {ts:List ah} {s:bS} (h:cj ts=true) (h2: ¬ ei ts s):sq ts s=12∧vc ts s=jW:=by
 have e:sq ts s=12:=by unfold sq; rw [if_pos h,if_neg h2]
 exact ⟨e,by unfold vc; rw [e]; rfl⟩
theorem l8 {ts:List ah} {s:bS} (h:cj ts=true) (h2:ei ts s):sq ts s=0∧vc ts s=zU ts s:=by
 have e:sq ts s=0:=by unfold sq; rw [if_pos h,if_pos h2]
 exact ⟨e,if_pos e⟩
theorem rH {ts:List ah} {s:bS} (h:cj ts=true):sq ts s=0↔ei ts s:=by
 unfold sq; rw [if_pos h]; split<;>simp [*]
def nz (ts:List ah) (a b:bS):ae:=bW ts (min a.ak b.ak).toNat (max a.ak b.ak-min a.ak b.ak).toNat
def fX (ts:List ah) (a b:bS):ae:=gZ (gZ (if b.ak<a.ak then hZ (nz ts a b) else nz ts a b) b.ek) (hZ a.ek)
noncomputable def fh (ts:List ah) (a b:bS):Int:=if cj ts=true then (if ei ts a∧ei ts b then 0 else 12) else 10
noncomputable def dJ (ts:List ah) (a b:bS):ae:=if fh ts a b=0 then fX ts a b else jW
theorem fV {ts:List ah} {a b:bS} (h:cj ts=false):fh ts a b=10∧dJ ts a b=jW:=by
 have e:fh ts a b=10:=by unfold fh; rw [h]; rfl
 exact ⟨e,by unfold dJ; rw [e]; rfl⟩
theorem fR {ts:List ah} {a b:bS} (h:cj ts=true) (h2: ¬ (ei ts a∧ei ts b)):fh ts a b=12∧dJ ts a b=jW:=by
 have e:fh ts a b=12:=by unfold fh; rw [if_pos h,if_neg h2]
 exact ⟨e,by unfold dJ; rw [e]; rfl⟩
theorem cw {ts:List ah} {a b:bS} (h:cj ts=true) (h2:ei ts a∧ei ts b):fh ts a b=0∧dJ ts a b=fX ts a b:=by
 have e:fh ts a b=0:=by unfold fh; rw [if_pos h,if_pos h2]
 exact ⟨e,if_pos e⟩
theorem uK {z:ae} (h:jU z):jU (hZ z):=by unfold jU hZ at *; simp only; omega
theorem nX {ts:List ah} {s:bS} (ht: ∀ x∈ts,a_ x) (h:ei ts s):jU s.ek:=by have:=uG ht h; unfold jU; omega
theorem Ee {ts:List ah} {a b:bS} (ht: ∀ x∈ts,a_ x) (hl:ts.length≤12) (ha:ei ts a) (hb:ei ts b):(0≤(nz ts a b).Lo∧(nz ts a b).Lo≤(nz ts a b).Hi)∧(nz ts a b).Hi≤360000:=by
 have h:=ki ht (min a.ak b.ak).toNat (max a.ak b.ak-min a.ak b.ak).toNat
 have h1:=ha.1
 have h2:=hb.1
 unfold nz
 omega
theorem tj {ts:List ah} {a b:bS} (ht: ∀ x∈ts,a_ x) (hl:ts.length≤12) (ha:ei ts a) (hb:ei ts b):(-400000≤(fX ts a b).Lo∧(fX ts a b).Lo≤(fX ts a b).Hi)∧(fX ts a b).Hi≤400000:=by
 have h:=Ee ht hl ha hb
 have h1:=uG ht ha
 have h2:=uG ht hb
 unfold fX gZ hZ
 split<;>simp only <;>omega
theorem Gs {ts:List ah} {s:bS} (ht: ∀ x∈ts,a_ x) (hl:ts.length≤12) (h:ei ts s):(0≤(zU ts s).Lo∧(zU ts s).Lo≤(zU ts s).Hi)∧(zU ts s).Hi≤400000:=by
 have h1:=ki ht 0 s.ak.toNat
 have h2:=uG ht h
 have h3:=h.1
 unfold zU gZ
 simp only; omega
theorem zB {α:Type} {p:Nat→α→Bool} {l:List α}:((l.zipIdx.filter fun q=>p q.2 q.1).map fun q=>(q.2:Int))=[]↔ ∀ (i:Nat) x,l[i]? =some x→p i x=false:=by
 rw [List.map_eq_nil_iff,List.filter_eq_nil_iff]
 constructor
 ·intro h i x hx
  have:=h (x,i) (by rw [List.mem_zipIdx_iff_getElem?]; simpa using hx)
  simpa using this
 ·rintro h ⟨x,i⟩ hm
  rw [List.mem_zipIdx_iff_getElem?] at hm
  simpa using h i x (by simpa using hm)
/-- the places of a list at which something is so -/
def o7 {α:Type} (p:Nat→α→Bool) (l:List α) (n:Nat):List Int:=(((l.take n).zipIdx.filter fun q=>p q.2 q.1).map fun q=>(q.2:Int))
theorem An {α:Type} {p:Nat→α→Bool} {l:List α} {i:Nat} {x:α} (hx:l[i]? =some x) (h:p i x=true):o7 p l (i+1)=o7 p l i++[(i:Int)]:=by
 have hi:=(List.getElem?_eq_some_iff.1 hx).1
 unfold o7
 rw [List.take_add_one,hx,List.zipIdx_append,List.filter_append,List.map_append]
 simp [Nat.min_eq_left (Nat.le_of_lt hi),h]
theorem B4 {α:Type} {p:Nat→α→Bool} {l:List α} {i:Nat} {x:α} (hx:l[i]? =some x) (h:p i x=false):o7 p l (i+1)=o7 p l i:=by
 have hi:=(List.getElem?_eq_some_iff.1 hx).1
 unfold o7
 rw [List.take_add_one,hx,List.zipIdx_append,List.filter_append,List.map_append]
 simp [Nat.min_eq_left (Nat.le_of_lt hi),h]
theorem vn {α:Type} {p:Nat→α→Bool} {l:List α} {n:Nat}:(o7 p l n).length≤n:=by
 unfold o7
 rw [List.length_map]
 refine Nat.le_trans (List.length_filter_le _ _) ?_
 rw [List.length_zipIdx,List.length_take]; omega
def yz {α:Type} (p:Nat→α→Bool) (l:List α):List Int:=o7 p l l.length
theorem CO {α:Type} {p:Nat→α→Bool} {l:List α} {n:Nat} (h:n=l.length):o7 p l n=yz p l:=by rw [h]; rfl
theorem yP {α:Type} {p:Nat→α→Bool} {l:List α}:(yz p l).length=0↔ ∀ (i:Nat) x,l[i]? =some x→p i x=false:=by
 unfold yz o7
 rw [List.length_eq_zero_iff,List.take_length]
 exact zB
end
section
set_option linter.unusedVariables false
theorem tW (p:Int→Bool) (n:Nat): ∃ r:Int,r=((List.range n).findIdx fun (k:Nat)=>p (k:Int):Nat):=⟨_,rfl⟩
noncomputable def dN (p:Int→Bool) (n:Nat):Int:=Classical.choose (tW p n)
theorem o_ (p:Int→Bool) (n:Nat):dN p n=((List.range n).findIdx fun (k:Nat)=>p (k:Int):Nat):=Classical.choose_spec (tW p n)
theorem gI {p:Int→Bool} {n:Nat}:0≤dN p n∧dN p n≤n:=by
 rw [o_]
 have:=List.findIdx_le_length (xs:=List.range n) (p:=fun (k:Nat)=>p (k:Int))
 rw [List.length_range] at this
 omega
theorem ua {p:Int→Bool} {n:Nat} {x:Int} (h0:0≤x) (h:x<dN p n):p x=false:=by
 have hb:=gI (p:=p) (n:=n)
 rw [o_] at h
 have h1:x.toNat<(List.range n).findIdx fun (k:Nat)=>p (k:Int):=by omega
 have h2:=List.not_of_lt_findIdx h1
 simp only [List.getElem_range] at h2
 rw [show ((x.toNat:Nat):Int)=x by omega] at h2
 simpa using h2
theorem zd {p:Int→Bool} {n:Nat} (h:dN p n<n):p (dN p n)=true:=by
 rw [o_] at h ⊢
 have h1:((List.range n).findIdx fun (k:Nat)=>p (k:Int))<(List.range n).length:=by rw [List.length_range]; omega
 have:=List.findIdx_getElem (w:=h1)
 simpa using this
end
section
set_option linter.unusedVariables false
def kW (n by_:Int):Int:=(n+by_-1)/by_
/-- by how much a sync may be off -/
def oW (c:aj) (at_:Int) (x:bD):Int:=kW (c.bJ*max (at_-x.At) (x.At-at_)) 1000000
def j1 (c:aj) (at_:Int) (s:ae) (x:bD):ae:=⟨max s.Lo (x.bQ.Lo-oW c at_ x),min s.Hi (x.bQ.Hi+oW c at_ x)⟩
def eg (c:aj) (at_:Int) (k:Nat):ae:=(c.aB.take k).foldl (j1 c at_) ⟨-1099511627776,1099511627776⟩
def fx (c:aj) (at_:Int):ae:=c.aB.foldl (j1 c at_) ⟨-1099511627776,1099511627776⟩
theorem iy {c:aj} {at_:Int} {k:Nat} {x:bD} (h:c.aB[k]? =some x):eg c at_ (k+1)=j1 c at_ (eg c at_ k) x:=by
 unfold eg; rw [List.take_add_one,h,List.foldl_append]; rfl
theorem k7 {c:aj} {at_:Int} {k:Nat} (h:c.aB.length≤k):eg c at_ k=fx c at_:=by unfold eg fx; rw [List.take_of_length_le h]
def il (c:aj) (i:Nat):Int:=if i=0 then-1 else ((c.aB[i-1]?).map (·.At)).getD 0
def dx (c:aj) (i:Nat) (x:bD):Prop:=(il c i<x.At∧x.At≤86400000)∧ -10000≤x.bQ.Lo∧x.bQ.Lo≤x.bQ.Hi∧x.bQ.Hi≤10000
def gJ (c:aj) (x o:bD):Prop:=x.bQ.Lo-o.bQ.Hi≤kW (c.bJ*(x.At-o.At)) 1000000∧o.bQ.Lo-x.bQ.Hi≤kW (c.bJ*(x.At-o.At)) 1000000
structure dP (c:aj):Prop where
 g9:0≤c.bJ∧c.bJ≤1000
 len:1≤c.aB.length∧c.aB.length≤5
 sync: ∀ (i:Nat) x,c.aB[i]? =some x→dx c i x
 pair: ∀ (i k:Nat) x o,c.aB[i]? =some x→k<i→c.aB[k]? =some o→gJ c x o
noncomputable instance (c:aj):Decidable (dP c):=Classical.propDecidable _
theorem db {c:aj} {i:Nat} (h:i=0):il c i= -1:=if_pos h
theorem dZ {c:aj} {i:Nat} {y:bD} (h:0<i) (hy:c.aB[i-1]? =some y):il c i=y.At:=by unfold il; rw [if_neg (by omega),hy]; rfl
theorem lT {c:aj} {i:Nat} {y:bD} (hy:c.aB[i]? =some y):il c (i+1)=y.At:=by unfold il; rw [if_neg (by omega),Nat.add_sub_cancel,hy]; rfl
/-- the times of the syncs -/
theorem CW {c:aj} (h: ∀ (i:Nat) x,c.aB[i]? =some x→dx c i x): ∀ (i:Nat) x,c.aB[i]? =some x→0≤x.At∧ ∀ (k:Nat) o,k<i→c.aB[k]? =some o→o.At<x.At:=by
 intro i
 induction i with
 |zero=>
  intro x hx
  have:=(h 0 x hx).1.1
  rw [db rfl] at this
  exact ⟨by omega,fun k o hk=>by omega⟩
 |succ i ih=>
  intro x hx
  have hi:=(List.getElem?_eq_some_iff.1 hx).1
  have hy:c.aB[i]? =some (c.aB[i]'(by omega)):=List.getElem?_eq_getElem (by omega)
  have h1:=ih _ hy
  have h2:=(h (i+1) x hx).1.1
  rw [lT hy] at h2
  refine ⟨by omega,fun k o hk ho=>?_⟩
  by_cases e:k=i
  ·subst e; rw [hy] at ho; cases ho; exact h2
  ·have:=h1.2 k o (by omega) ho; omega
theorem dP.qj {c:aj} (h:dP c) {i:Nat} {x:bD} (hx:c.aB[i]? =some x):(0≤x.At∧x.At≤86400000)∧ -10000≤x.bQ.Lo∧x.bQ.Lo≤x.bQ.Hi∧x.bQ.Hi≤10000:=by
 have h1:=h.sync i x hx
 exact ⟨⟨(CW h.sync i x hx).1,h1.1.2⟩,h1.2⟩
theorem x4 {d a b:Int} (hd:0≤d∧d≤1000) (ha:0≤a∧a≤90000000) (hb:0≤b∧b≤90000000):0≤d*max (a-b) (b-a)∧d*max (a-b) (b-a)≤90000000000:=by
 have:=EM (a:=d) (b:=max (a-b) (b-a)) (A:=1000) (B:=90000000) hd.1 hd.2 (by omega) (by omega)
 omega
theorem qp {c:aj} {at_:Int} {x:bD} (hd:0≤c.bJ∧c.bJ≤1000) (ha:0≤at_∧at_≤90000000) (hx:0≤x.At∧x.At≤86400000):0≤oW c at_ x∧oW c at_ x≤90001:=by
 have h:=x4 hd ha (show 0≤x.At∧x.At≤90000000 by omega)
 unfold oW kW; omega
theorem vx {c:aj} {at_:Int} (h:dP c) (ha:0≤at_∧at_≤90000000): ∀ k:Nat,(-1099511627776≤(eg c at_ k).Lo∧(eg c at_ k).Lo≤10000)∧ -10000≤(eg c at_ k).Hi∧(eg c at_ k).Hi≤1099511627776:=by
 intro k
 induction k with
 |zero=>simp [eg]
 |succ k ih=>
  cases hx:c.aB[k]? with
  |none=>unfold eg at ih ⊢; rw [List.take_add_one,hx]; simpa using ih
  |some x=>
   have hb:=h.qj hx
   have ho:=qp h.g9 ha hb.1
   rw [iy hx]
   unfold j1
   simp only
   omega
theorem nE {c:aj} {at_:Int} (h:dP c) (ha:0≤at_∧at_≤90000000):(-110000≤(fx c at_).Lo∧(fx c at_).Lo≤10000)∧ -10000≤(fx c at_).Hi∧(fx c at_).Hi≤110000:=by
 obtain ⟨n,hn⟩: ∃ n,c.aB.length=n+1:=⟨c.aB.length-1,by have:=h.len; omega⟩
 have hx:c.aB[n]? =some (c.aB[n]'(by omega)):=List.getElem?_eq_getElem (by omega)
 have hb:=h.qj hx
 have ho:=qp h.g9 ha hb.1
 have h1:=vx h ha n
 rw [← k7 (k:=n+1) (by omega),iy hx]
 unfold j1
 simp only
 omega
/-- as time goes on, time and what a clock may be ahead, together, never go back -/
theorem xx {c:aj} (h:dP c) {a b:Int} (ha:0≤a) (hab:a≤b) (hb:b≤90000000): ∀ k:Nat,(a+(eg c a k).Lo≤b+(eg c b k).Lo∨(eg c a k).Lo= -1099511627776)∧a+(eg c a k).Hi≤b+(eg c b k).Hi:=by
 have step: ∀ (x:bD),0≤x.At∧x.At≤86400000→ ∀ a b:Int,0≤a→a≤b→b≤90000000→oW c a x≤oW c b x+(b-a)∧oW c b x≤oW c a x+(b-a):=by
  intro x hx a b ha hab hb
  have hd:=h.g9
  have e: ∀ u v:Int,u≤v+1000000*(b-a)→kW u 1000000≤kW v 1000000+(b-a):=by intro u v huv; unfold kW; omega
  have m: ∀ p q:Int,p≤q+(b-a)→c.bJ*p≤c.bJ*q+1000000*(b-a):=by
   intro p q hpq
   have h1:c.bJ*p≤c.bJ*(q+(b-a)):=Int.mul_le_mul_of_nonneg_left hpq hd.1
   have h2:c.bJ*(q+(b-a))=c.bJ*q+c.bJ*(b-a):=Int.mul_add _ _ _
   have h3:c.bJ*(b-a)≤1000*(b-a):=Int.mul_le_mul_of_nonneg_right hd.2 (by omega)
   omega
  exact ⟨e _ _ (m _ _ (by omega)),e _ _ (m _ _ (by omega))⟩
 intro k
 induction k with
 |zero=>simp [eg]; omega
 |succ k ih=>
  cases hx:c.aB[k]? with
  |none=>
   have e: ∀ t,eg c t (k+1)=eg c t k:=fun t=>by unfold eg; rw [List.take_add_one,hx]; simp
   rw [e,e]; exact ih
  |some x=>
   have hs:=h.qj hx
   have:=step x hs.1 a b ha hab hb
   have hoa:=qp (at_:=a) h.g9 ⟨ha,by omega⟩ hs.1
   rw [iy hx,iy hx]
   unfold j1
   simp only
   omega
theorem rj {c:aj} (h:dP c) {a b:Int} (ha:0≤a) (hab:a≤b) (hb:b≤90000000):a+(fx c a).Lo≤b+(fx c b).Lo∧a+(fx c a).Hi≤b+(fx c b).Hi:=by
 have h1:=xx h ha hab hb c.aB.length
 have h2:=nE h (at_:=a) ⟨ha,by omega⟩
 rw [k7 (Nat.le_refl _),k7 (Nat.le_refl _)] at h1
 omega
noncomputable def kg (l:aU) (i:Nat):Int:=match l.aa[i]? with
 |some b=>if i=0 then (zU l.al b.hU).Lo else (match l.aa[i-1]? with
  |some a=>(fX l.al a.hU b.hU).Lo
  |none=>0)
 |none=>0
theorem oc {l:aU} {b:aY} (h:l.aa[0]? =some b):kg l 0=(zU l.al b.hU).Lo:=by unfold kg; rw [h]; rfl
theorem pt {l:aU} {i:Nat} {a b:aY} (hi:0<i) (h:l.aa[i]? =some b) (ha:l.aa[i-1]? =some a):kg l i=(fX l.al a.hU b.hU).Lo:=by unfold kg; rw [h,ha]; simp only; rw [if_neg (by omega)]
def ic (l:aU) (b:aY):Prop:=ei l.al b.hU∧0≤b.gk∧b.gk<(l.ag.length:Int)
def cS (l:aU):Prop:=(1≤l.bw∧l.bw≤5000)∧(1≤(l.ag.length:Int)∧(l.ag.length:Int)≤4)∧(1≤(l.aa.length:Int)∧(l.aa.length:Int)≤6)∧(0≤l.aD∧l.aD≤(l.aa.length:Int)-1)∧(0≤l.aV∧l.aV≤3)∧0≤l.aJ∧l.aJ≤3
structure kd (l:aU):Prop where
 head:cS l
 clock: ∀ c∈l.ag,dP c
 jT: ∀ b∈l.aa,ic l b
 tx: ∀ i,i<l.aa.length→1≤kg l i
noncomputable instance (l:aU):Decidable (kd l):=Classical.propDecidable _
noncomputable def dk (l:aU):Int:=if cj l.al=true then (if kd l then 0 else 50) else 10
theorem iR {l:aU} (h:cj l.al=false):dk l=10:=by unfold dk; rw [h]; rfl
theorem dA {l:aU} (h:cj l.al=true) (h2: ¬ kd l):dk l=50:=by unfold dk; rw [if_pos h,if_neg h2]
theorem jP {l:aU} (h:cj l.al=true) (h2:kd l):dk l=0:=by unfold dk; rw [if_pos h,if_pos h2]
theorem di {l:aU} (h:dk l=0):cj l.al=true∧kd l:=by
 unfold dk at h
 split at h
 ·split at h
  ·exact ⟨by assumption,by assumption⟩
  ·omega
 ·omega
theorem vH {l:aU} (ht:cj l.al=true) (hb: ∀ b∈l.aa,ic l b) (i:Nat): -400000≤kg l i∧kg l i≤400000:=by
 have hst:=iI ht
 have hl:=jt ht
 unfold kg
 cases h:l.aa[i]? with
 |none=>simp
 |some b=>
  have h1:=(hb b (List.mem_of_getElem? h)).1
  simp only
  split
  ·have:=Gs hst hl h1; omega
  ·cases h2:l.aa[i-1]? with
   |none=>simp
   |some a=>
    have h3:=(hb a (List.mem_of_getElem? h2)).1
    have:=tj hst hl h3 h1
    simp only; omega
def ni (l:aU) (s:aw):aj:=((l.aa[s.cU.toNat]?).bind fun b=>l.ag[b.gk.toNat]?).getD ⟨0,[]⟩
def eT (c:aj) (r t:Int):Bool:=decide (r≤t+(fx c t).Hi)
def eQ (c:aj) (r t:Int):Bool:=decide (r<t+(fx c t).Lo)
noncomputable def vv (c:aj) (r:Int):ae:=⟨dN (eT c r) 86400001,dN (eQ c r) 86400001-1⟩
noncomputable def bT (l:aU) (s:aw):ae:=vv (ni l s) s.Read
noncomputable def df (l:aU) (i:Nat):Int:=kW (1000*kg l i) l.bw
end
section
open Go.RowKit
set_option linter.unusedVariables false
def vd (n:Int):Int:=IntKind.i64.wrap n
theorem uS {n:Int} (h:nD n):vd n=n:=lM h
theorem Fp (n:Int): -9223372036854775808≤vd n∧vd n≤9223372036854775807:=by
 unfold vd
 rw [IntKind.wrap_i64]
 omega
section
variable {P:Program} {t:TypeId} {x y:Operand} {a b:Int}
theorem EI:fz P .add t x y (.int .i64 a) (.int .i64 b) (.int .i64 (vd (a+b))):=fun w=>by simp [eqGuard_add,binOp_add,Op.intArith,vd]
theorem Bt:fz P .sub t x y (.int .i64 a) (.int .i64 b) (.int .i64 (vd (a-b))):=fun w=>by simp [eqGuard_sub,binOp_sub,Op.intArith,vd]
theorem DP:fz P .mul t x y (.int .i64 a) (.int .i64 b) (.int .i64 (vd (a*b))):=fun w=>by simp [eqGuard_mul,binOp_mul,Op.intArith,vd]
end
/-- divided, and rounded up, as it comes out -/
def F0 (n by_:Int):Int:=(vd (vd (n+by_)-1)).tdiv by_
theorem EF {a b:Int} (ha: -9223372036854775808≤a∧a≤9223372036854775807) (hb:2≤b):nD (a.tdiv b):=by
 have h1:a.tdiv b=a/b+if a % b≠0∧a<0 then 1 else 0:=by
  rcases Int.lt_or_le a 0 with h|h
  ·rw [Int.tdiv_eq_ediv]
   have:b.sign=1:=Int.sign_eq_one_of_pos (by omega)
   rw [this]
   by_cases hd:b∣a
   ·have:a % b=0:=Int.emod_eq_zero_of_dvd hd
    simp [hd,this]
   ·have:a % b≠0:=fun e=>hd (Int.dvd_of_emod_eq_zero e)
    have hn: ¬ 0≤a:=by omega
    simp [hd,this,h,hn]
  ·rw [Int.tdiv_eq_ediv_of_nonneg h]
   have: ¬ a<0:=by omega
   simp [this]
 have h2:a/b*b+a % b=a:=by rw [Int.mul_comm]; exact Int.mul_ediv_add_emod a b
 have h3:0≤a % b:=Int.emod_nonneg _ (by omega)
 have h4:a % b<b:=Int.emod_lt_of_pos _ (by omega)
 have h5: -9223372036854775808≤a/b∧a/b≤4611686018427387904:=by
  constructor
  ·refine Int.le_ediv_of_mul_le (by omega) ?_
   have:(-9223372036854775808:Int)*b≤ -9223372036854775808*1:=Int.mul_le_mul_of_nonpos_left (by omega) (by omega)
   omega
  ·refine Int.ediv_le_of_le_mul (by omega) ?_
   have:(4611686018427387904:Int)*2≤4611686018427387904*b:=Int.mul_le_mul_of_nonneg_left hb (by omega)
   omega
 rw [h1]
 unfold nD
 split<;>omega
theorem D_ {n by_:Int} (h0:0≤n) (h1:n≤1000000000000000000) (hb:1≤by_∧by_≤1000000000000):F0 n by_=(n+by_-1)/by_:=by
 unfold F0
 rw [uS (show nD (n+by_) from ⟨by omega,by omega⟩),uS (show nD (n+by_-1) from ⟨by omega,by omega⟩),Int.tdiv_eq_ediv_of_nonneg (by omega)]
end
section
set_option linter.unusedVariables false
def kl (c:aj) (i:Nat) (x:bD) (k:Nat):Prop:=dx c i x∧ ∀ (j:Nat) o,j<k→c.aB[j]? =some o→gJ c x o
def oX (c:aj) (n:Nat):Prop:= ∀ (i:Nat) x,i<n→c.aB[i]? =some x→kl c i x i
noncomputable instance (c:aj) (i:Nat) (x:bD) (k:Nat):Decidable (kl c i x k):=Classical.propDecidable _
instance (c:aj) (i:Nat) (x:bD):Decidable (dx c i x):=by unfold dx; infer_instance
theorem xz {c:aj} {i:Nat} {x:bD}:kl c i x 0↔dx c i x:=⟨fun h=>h.1,fun h=>⟨h,fun j o hj=>by omega⟩⟩
theorem hP {c:aj} {i k:Nat} {x o:bD} (h:c.aB[k]? =some o):kl c i x (k+1)↔kl c i x k∧gJ c x o:=by
 constructor
 ·intro hr
  exact ⟨⟨hr.1,fun j o' hj ho=>hr.2 j o' (by omega) ho⟩,hr.2 k o (by omega) h⟩
 ·rintro ⟨hr,hp⟩
  refine ⟨hr.1,fun j o' hj ho=>?_⟩
  by_cases e:j=k
  ·subst e; rw [h] at ho; cases ho; exact hp
  ·exact hr.2 j o' (by omega) ho
theorem zQ {c:aj}:oX c 0:=fun i x hi=>by omega
theorem zn {c:aj} {i:Nat} {x:bD} (h:oX c i) (hx:c.aB[i]? =some x) (hr:kl c i x i):oX c (i+1):=fun j y hj hy=>by
 by_cases e:j=i
 ·subst e; rw [hx] at hy; cases hy; exact hr
 ·exact h j y (by omega) hy
theorem pn {c:aj} {i:Nat} {x:bD} (hx:c.aB[i]? =some x) (h: ¬ kl c i x i): ¬ dP c:=fun hc=>h ⟨hc.sync i x hx,fun j o hj ho=>hc.pair i j x o hx hj ho⟩
theorem ot {c:aj} (h1:0≤c.bJ∧c.bJ≤1000) (h2:1≤c.aB.length∧c.aB.length≤5) (h:oX c c.aB.length):dP c:=
 ⟨h1,h2,fun i x hx=>(h i x (List.getElem?_eq_some_iff.1 hx).1 hx).1,fun i k x o hx hk ho=>(h i x (List.getElem?_eq_some_iff.1 hx).1 hx).2 k o hk ho⟩
/-- syncs so far -/
theorem qP {c:aj} {n:Nat} (h: ∀ (i:Nat) x,i<n→c.aB[i]? =some x→dx c i x): ∀ (i:Nat) x,i<n→c.aB[i]? =some x→0≤x.At∧ ∀ (k:Nat) o,k<i→c.aB[k]? =some o→o.At<x.At:=by
 intro i
 induction i with
 |zero=>
  intro x hn hx
  have:=(h 0 x hn hx).1.1
  rw [db rfl] at this
  exact ⟨by omega,fun k o hk=>by omega⟩
 |succ i ih=>
  intro x hn hx
  have hi:=(List.getElem?_eq_some_iff.1 hx).1
  have hy:c.aB[i]? =some (c.aB[i]'(by omega)):=List.getElem?_eq_getElem (by omega)
  have h1:=ih _ (by omega) hy
  have h2:=(h (i+1) x hn hx).1.1
  rw [lT hy] at h2
  refine ⟨by omega,fun k o hk ho=>?_⟩
  by_cases e:k=i
  ·subst e; rw [hy] at ho; cases ho; exact h2
  ·have:=h1.2 k o (by omega) ho; omega
theorem zY {c:aj} {i:Nat} (hi:i≤c.aB.length) (h: ∀ (j:Nat) y,j<i→c.aB[j]? =some y→dx c j y): -1≤il c i∧il c i≤86400000:=by
 cases i with
 |zero=>rw [db rfl]; omega
 |succ i=>
  have hy:c.aB[i]? =some (c.aB[i]'(by omega)):=List.getElem?_eq_getElem (by omega)
  have h1:=(qP (n:=i+1) h i _ (by omega) hy).1
  have h2:=(h i _ (by omega) hy).1.2
  rw [lT hy]; omega
theorem EP {c:aj} {i:Nat} (hi:i≤c.aB.length) (h:oX c i): -1≤il c i∧il c i≤86400000:=zY hi fun j y hj hy=>(h j y hj hy).1
theorem qI {c:aj} {i k:Nat} {x o:bD} (hs: ∀ (j:Nat) y,j<i→c.aB[j]? =some y→dx c j y) (hx:c.aB[i]? =some x) (hok:dx c i x) (hk:k<i) (ho:c.aB[k]? =some o):
 (0≤o.At∧o.At<x.At∧x.At≤86400000)∧(-10000≤x.bQ.Lo∧x.bQ.Lo≤x.bQ.Hi∧x.bQ.Hi≤10000)∧ -10000≤o.bQ.Lo∧o.bQ.Lo≤o.bQ.Hi∧o.bQ.Hi≤10000:=by
 have h: ∀ (j:Nat) y,j<i+1→c.aB[j]? =some y→dx c j y:=fun j y hj hy=>by
  by_cases e:j=i
  ·subst e; rw [hx] at hy; cases hy; exact hok
  ·exact hs j y (by omega) hy
 have h1:=(qP h i x (by omega) hx).2 k o hk ho
 have h2:=(qP h k o (by omega) ho).1
 exact ⟨⟨h2,h1,hok.1.2⟩,hok.2,(h k o (by omega) ho).2⟩
theorem C8 {d a b:Int} (hd:0≤d∧d≤1000) (h:0≤b∧b<a∧a≤86400000):F0 (vd (d*vd (a-b))) 1000000=kW (d*(a-b)) 1000000:=by
 have h1:0≤d*(a-b)∧d*(a-b)≤90000000000:=by
  have:=EM (a:=d) (b:=a-b) (A:=1000) (B:=90000000) hd.1 hd.2 (by omega) (by omega)
  omega
 rw [uS (show nD (a-b) from ⟨by omega,by omega⟩),uS (show nD (d*(a-b)) from ⟨by omega,by omega⟩),D_ h1.1 (by omega) (by omega)]
 rfl
/-- what is asked of a line, however wrong it is -/
structure dC (l:aU) (asl:List RA):Prop where
 nm:l.al.length≤1000000
 side: ∀ x∈l.al,0≤x.gi∧x.gi≤255
 nv:l.ag.length≤1000000
 m_:asl.length=l.ag.length
 nd:l.aa.length≤1000000
 Fs: ∀ (k:Nat) m (a:RA),l.ag[k]? =some m→asl[k]? =some a→m.aB.length≤a.2∧m.aB.length≤1000000
noncomputable instance (l:aU):Decidable (cS l):=by unfold cS; infer_instance
noncomputable instance (l:aU) (b:aY):Decidable (ic l b):=Classical.propDecidable _
theorem eG {l:aU} (h:cS l) (h2: ∀ c∈l.ag,dP c) (h3: ∀ b∈l.aa,ic l b) (h4: ∀ i,i<l.aa.length→1≤kg l i):kd l:=⟨h,h2,h3,h4⟩
theorem xC {l:aU}:((!(l.ag.any fun m=> !decide (dP m)))=true)↔ ∀ c∈l.ag,dP c:=by simp
theorem zc {l:aU}:((!(l.aa.any fun b=> !decide (ic l b)))=true)↔ ∀ b∈l.aa,ic l b:=by simp
theorem jz {c:aj} (h:dP c) {r x:Int} (h0:0≤x) (h1:x<86400001):
 (x<dN (eT c r) 86400001→eT c r x=false)∧(dN (eT c r) 86400001≤x→eT c r x=true)∧(x<dN (eQ c r) 86400001→eQ c r x=false)∧(dN (eQ c r) 86400001≤x→eQ c r x=true):=by
 have up: ∀ (q:Int→Bool),(∀ a b,0≤a→a≤b→b<86400001→q a=true→q b=true)→dN q 86400001≤x→q x=true:=fun q hq hx=>by
  have hb:=gI (p:=q) (n:=86400001)
  exact hq _ _ hb.1 hx h1 (zd (by omega))
 refine ⟨ua h0,up _ fun a b ha hab hb hq=>?_,ua h0,up _ fun a b ha hab hb hq=>?_⟩
 ·have:=rj h ha hab (by omega)
  simp only [eT,decide_eq_true_eq] at hq ⊢; omega
 ·have:=rj h ha hab (by omega)
  simp only [eQ,decide_eq_true_eq] at hq ⊢; omega
theorem sY {l:aU} {s:aw} {b:aY} {c:aj} (hb:l.aa[s.cU.toNat]? =some b) (hc:l.ag[b.gk.toNat]? =some c):ni l s=c:=by
 unfold ni; rw [hb]; simp only [Option.bind_some]; rw [hc]; rfl
end
section
set_option linter.unusedVariables false
def ir (sg:List aw) (i:Nat):aw:=if i=0 then ⟨-1,0⟩ else (sg[i-1]?).getD ⟨-1,0⟩
theorem iD {sg:List aw} {i:Nat} {s:aw} (h:sg[i]? =some s):ir sg (i+1)=s:=by unfold ir; rw [if_neg (by omega),Nat.add_sub_cancel,h]; rfl
def eN (l:aU) (s:aw):Prop:=(0≤s.cU∧s.cU≤(l.aa.length:Int)-1)∧0≤s.Read∧s.Read≤86400000
def eA (l:aU) (sg:List aw) (i:Nat) (s:aw):Prop:=eN l s∧ ¬ s.cU<(ir sg i).cU∧ ¬ (s.cU=(ir sg i).cU∧s.Read≤(ir sg i).Read)
def lW (l:aU) (sg:List aw) (i:Nat):Prop:= ∀ (j:Nat) s,j<i→sg[j]? =some s→eA l sg j s
structure cN (l:aU) (r:bK):Prop where
 time:0≤r.Start∧r.Start≤r.cI∧r.cI≤86400000
 len:r.ab.length≤10
 sig: ∀ (i:Nat) s,r.ab[i]? =some s→eA l r.ab i s
noncomputable instance (l:aU) (r:bK):Decidable (cN l r):=Classical.propDecidable _
theorem qd {l:aU} {sg:List aw}:lW l sg 0:=fun j s hj=>absurd hj (Nat.not_lt_zero _)
theorem gO {l:aU} {sg:List aw} {i:Nat} {s:aw} (h:lW l sg i) (hs:sg[i]? =some s) (ho:eA l sg i s):lW l sg (i+1):=fun j z hj hz=>by
 rcases Nat.lt_or_ge j i with q|q
 ·exact h j z q hz
 ·obtain rfl:j=i:=by omega
  rw [hs] at hz; cases hz; exact ho
theorem jd {l:aU} {r:bK} {i:Nat} (h1:0≤r.Start∧r.Start≤r.cI∧r.cI≤86400000) (h2:r.ab.length≤10) (h:lW l r.ab i) (hi:r.ab.length≤i):cN l r:=
 ⟨h1,h2,fun j s hs=>h j s (by have:=(List.getElem?_eq_some_iff.1 hs).1; omega) hs⟩
noncomputable def pz (l:aU) (sg:List aw) (b k:Nat):Option (Int×ae):=(sg[k]?).bind fun s=>if s.cU=(b:Int)∧(bT l s).Lo≤(bT l s).Hi then some ((k:Int),bT l s) else none
noncomputable def lX (l:aU) (sg:List aw) (i b:Nat):TM:=(List.range i).filterMap (pz l sg b)
noncomputable def bo (l:aU) (sg:List aw) (i:Nat):List TM:=(List.range l.aa.length).map (lX l sg i)
noncomputable def aR (l:aU) (n:Nat):List Int:=(List.range n).map (df l)
theorem nW {l:aU} {n:Nat}:aR l (n+1)=aR l n++[df l n]:=by simp [aR,List.range_succ]
theorem bI {l:aU} {n:Nat}:(aR l n).length=n:=by simp [aR]
theorem en {l:aU} {sg:List aw} {i:Nat}:(bo l sg i).length=l.aa.length:=by simp [bo]
theorem mn {l:aU} {sg:List aw} {i b:Nat} (h:b<l.aa.length):(bo l sg i)[b]? =some (lX l sg i b):=by simp [bo,h]
theorem mD {l:aU} {sg:List aw} {b k:Nat} {q:Int×ae}:pz l sg b k=some q↔ ∃ s,sg[k]? =some s∧(s.cU=(b:Int)∧(bT l s).Lo≤(bT l s).Hi)∧q=((k:Int),bT l s):=by
 unfold pz
 cases h:sg[k]? with
 |none=>simp
 |some s=>
  simp only [Option.bind_some,Option.some.injEq]
  by_cases e:s.cU=(b:Int)∧(bT l s).Lo≤(bT l s).Hi
  ·rw [if_pos e]
   constructor
   ·intro h; cases h; exact ⟨s,rfl,e,rfl⟩
   ·rintro ⟨s',rfl,_,rfl⟩; rfl
  ·rw [if_neg e]
   constructor
   ·intro h; cases h
   ·rintro ⟨s',rfl,e',_⟩; exact absurd e' e
theorem o3 {l:aU} {sg:List aw} {i b:Nat} {q:Int×ae}:q∈lX l sg i b↔ ∃ k,k<i∧ ∃ s,sg[k]? =some s∧(s.cU=(b:Int)∧(bT l s).Lo≤(bT l s).Hi)∧q=((k:Int),bT l s):=by
 unfold lX
 simp only [List.mem_filterMap,List.mem_range,mD]
theorem nI {l:aU} {sg:List aw} {i b:Nat}:lX l sg (i+1) b=lX l sg i b++(pz l sg b i).toList:=by
 unfold lX
 rw [List.range_succ,List.filterMap_append]
 congr 1
theorem sd {l:aU} {sg:List aw}:bo l sg 0=List.replicate l.aa.length []:=by
 unfold bo
 rw [List.eq_replicate_iff]
 refine ⟨by simp,fun t ht=>?_⟩
 obtain ⟨b,_,rfl⟩:=List.mem_map.1 ht
 rfl
theorem mR {l:aU} {sg:List aw} {i:Nat} {s:aw} (hs:sg[i]? =some s) (h: ¬ (bT l s).Lo≤(bT l s).Hi):bo l sg (i+1)=bo l sg i:=by
 unfold bo
 apply List.map_congr_left
 intro b _
 rw [nI]
 have:pz l sg b i=none:=by
  cases e:pz l sg b i with
  |none=>rfl
  |some q=>obtain ⟨s',h1,⟨_,h2⟩,_⟩:=mD.1 e; rw [hs] at h1; cases h1; exact absurd h2 h
 rw [this]; simp
theorem oq {l:aU} {sg:List aw} {i:Nat} {s:aw} (hs:sg[i]? =some s) (hb:0≤s.cU∧s.cU≤(l.aa.length:Int)-1) (h:(bT l s).Lo≤(bT l s).Hi) {x:TM} (hx:(bo l sg i)[s.cU.toNat]? =some x):
 (bo l sg i).set s.cU.toNat (dV x (i:Int) (bT l s))=bo l sg (i+1):=by
 have hbl:s.cU.toNat<l.aa.length:=by omega
 rw [mn hbl] at hx
 cases hx
 have hnew:dV (lX l sg i s.cU.toNat) (i:Int) (bT l s)=lX l sg (i+1) s.cU.toNat:=by
  have hn:(lX l sg i s.cU.toNat).lookup (i:Int)=none:=gF.2 fun p hp e=>by
   obtain ⟨k,hk,_,_,_,rfl⟩:=o3.1 hp
   simp only at e; omega
  have ho:pz l sg s.cU.toNat i=some ((i:Int),bT l s):=mD.2 ⟨s,hs,⟨by omega,h⟩,rfl⟩
  rw [nI,ho]
  unfold dV; rw [hn]; rfl
 rw [hnew]
 apply List.ext_getElem?
 intro b
 rw [List.getElem?_set]
 by_cases e:s.cU.toNat=b
 ·rw [if_pos e,en,← e,if_pos hbl,mn hbl]
 ·rw [if_neg e]
  by_cases hb':b<l.aa.length
  ·rw [mn hb',mn hb',nI]
   have:pz l sg b i=none:=by
    cases e2:pz l sg b i with
    |none=>rfl
    |some q=>obtain ⟨s',h1,⟨h2,_⟩,_⟩:=mD.1 e2; rw [hs] at h1; cases h1; exact absurd (by omega) e
   rw [this]; simp
  ·rw [List.getElem?_eq_none (by rw [en]; omega),List.getElem?_eq_none (by rw [en]; omega)]
noncomputable def aW (l:aU) (r:bK):bh:=⟨r.Start,r.cI,aR l l.aa.length,bo l r.ab r.ab.length,l.aJ,l.aV,(r.ab.length:Int)⟩
theorem A9 {l:aU} (ht:cj l.al=true) (h:kd l) {i:Nat} (hi:i<l.aa.length):1≤df l i∧df l i≤500000000:=by
 have h1:=vH ht h.jT i
 have h2:=h.tx i hi
 have h3:=h.head.1
 unfold df kW
 refine ⟨(Int.le_ediv_iff_mul_le (by omega)).2 (by omega),?_⟩
 have:(1000*kg l i+l.bw-1)/l.bw≤1000*kg l i+l.bw-1:=Int.ediv_le_self _ (by omega)
 omega
theorem Cw (l:aU) (s:aw):0≤(bT l s).Lo∧(bT l s).Hi≤86400000:=by
 have h1:=gI (p:=eT (ni l s) s.Read) (n:=86400001)
 have h2:=gI (p:=eQ (ni l s) s.Read) (n:=86400001)
 unfold bT vv
 simp only
 omega
theorem jf {l:aU} {r:bK} (ht:cj l.al=true) (h:kd l) (hr:cN l r):zV (aW l r):=by
 have hh:=h.head
 unfold cS at hh
 refine ⟨?_,by simp [aW,en,bh.n,bI],hr.time,fun x hx=>?_,fun t htm p hp=>?_⟩
 ·show (aR l l.aa.length).length≤6
  rw [bI]; omega
 ·obtain ⟨i,hi,rfl⟩:=List.mem_map.1 hx
  exact A9 ht h (List.mem_range.1 hi)
 ·obtain ⟨b,hb,rfl⟩:=List.mem_map.1 htm
  obtain ⟨k,hk,s,hs,⟨_,h2⟩,rfl⟩:=o3.1 hp
  have h3:=Cw l s
  have h4:=hr.len
  simp only
  omega
noncomputable def cr (l:aU) (r:bK) (me:Int):Int:=if dk l=0 then (if cN l r then (if me=0 then (if eb (aW l r)=[] then 8 else 0) else me) else 51) else dk l
theorem bZ {l:aU} {r:bK} {me:Int} (h: ¬ dk l=0):cr l r me=dk l:=if_neg h
theorem bk {l:aU} {r:bK} {me:Int} (h:dk l=0) (h2: ¬ cN l r):cr l r me=51:=by unfold cr; rw [if_pos h,if_neg h2]
theorem dE {l:aU} {r:bK} {me:Int} (h:dk l=0) (h2:cN l r) (h3: ¬ me=0):cr l r me=me:=by unfold cr; rw [if_pos h,if_pos h2,if_neg h3]
theorem c_ {l:aU} {r:bK} {me:Int} (h:dk l=0) (h2:cN l r) (h3:me=0) (h4:eb (aW l r)=[]):cr l r me=8:=by unfold cr; rw [if_pos h,if_pos h2,if_pos h3,if_pos h4]
theorem ke {l:aU} {r:bK} {me:Int} (h:dk l=0) (h2:cN l r) (h3:me=0) (h4: ¬ eb (aW l r)=[]):cr l r me=0:=by unfold cr; rw [if_pos h,if_pos h2,if_pos h3,if_neg h4]
theorem dW {l:aU} {r:bK} {me:Int} (h:cr l r me=0):dk l=0∧cN l r∧me=0∧ ¬ eb (aW l r)=[]:=by
 unfold cr at h
 split at h
 ·split at h
  ·split at h
   ·split at h
    ·omega
    ·exact ⟨by assumption,by assumption,by assumption,by assumption⟩
   ·omega
  ·omega
 ·omega
end
section
set_option linter.unusedVariables false
def iT (l:List Int):Int:=(l.drop 1).foldl min (l.headD 0)
def nc (l:List Int):Int:=(l.drop 1).foldl max (l.headD 0)
theorem Bc {l:List Int} {i:Nat} {x:Int} (h:l[i]? =some x) (hi:1≤i):iT (l.take (i+1))=min (iT (l.take i)) x:=by
 have e:l.take (i+1)=l.take i++[x]:=by rw [List.take_add_one,h]; rfl
 have hl:1≤(l.take i).length:=by have:=(List.getElem?_eq_some_iff.1 h).1; rw [List.length_take]; omega
 rw [e]
 cases ht:l.take i with
 |nil=>rw [ht] at hl; simp at hl
 |cons y ys=>simp [iT,List.foldl_append]
theorem Bl {l:List Int} {i:Nat} {x:Int} (h:l[i]? =some x) (hi:1≤i):nc (l.take (i+1))=max (nc (l.take i)) x:=by
 have e:l.take (i+1)=l.take i++[x]:=by rw [List.take_add_one,h]; rfl
 have hl:1≤(l.take i).length:=by have:=(List.getElem?_eq_some_iff.1 h).1; rw [List.length_take]; omega
 rw [e]
 cases ht:l.take i with
 |nil=>rw [ht] at hl; simp at hl
 |cons y ys=>simp [nc,List.foldl_append]
theorem yV {l:List Int} {x:Int} (h:l[0]? =some x):iT (l.take 1)=x:=by
 cases l with
 |nil=>simp at h
 |cons y ys=>simp at h; subst h; simp [iT]
theorem yE {l:List Int} {x:Int} (h:l[0]? =some x):nc (l.take 1)=x:=by
 cases l with
 |nil=>simp at h
 |cons y ys=>simp at h; subst h; simp [nc]
theorem vL: ∀ (l:List Int) (a:Int),(l.foldl min a=a∨l.foldl min a∈l)∧l.foldl min a≤a∧ ∀ x∈l,l.foldl min a≤x
 |[],a=>⟨.inl rfl,by simp,by simp⟩
 |y::l,a=>by
  obtain ⟨h1,h2,h3⟩:=vL l (min a y)
  simp only [List.foldl_cons]
  refine ⟨?_,by omega,?_⟩
  ·rcases h1 with h1|h1
   ·rw [h1]
    rcases Int.le_total a y with q|q
    ·left; omega
    ·right; rw [show min a y=y by omega]; simp
   ·right; exact List.mem_cons_of_mem _ h1
  ·intro x hx
   rcases List.mem_cons.1 hx with rfl|hx
   ·omega
   ·exact h3 x hx
theorem wF: ∀ (l:List Int) (a:Int),(l.foldl max a=a∨l.foldl max a∈l)∧a≤l.foldl max a∧ ∀ x∈l,x≤l.foldl max a
 |[],a=>⟨.inl rfl,by simp,by simp⟩
 |y::l,a=>by
  obtain ⟨h1,h2,h3⟩:=wF l (max a y)
  simp only [List.foldl_cons]
  refine ⟨?_,by omega,?_⟩
  ·rcases h1 with h1|h1
   ·rw [h1]
    rcases Int.le_total a y with q|q
    ·right; rw [show max a y=y by omega]; simp
    ·left; omega
   ·right; exact List.mem_cons_of_mem _ h1
  ·intro x hx
   rcases List.mem_cons.1 hx with rfl|hx
   ·omega
   ·exact h3 x hx
theorem va {l:List Int} (h:l≠[]):iT l∈l∧ ∀ x∈l,iT l≤x:=by
 cases l with
 |nil=>exact absurd rfl h
 |cons y ys=>
  obtain ⟨h1,h2,h3⟩:=vL ys y
  refine ⟨?_,fun x hx=>?_⟩
  ·rcases h1 with h1|h1
   ·simp [iT,h1]
   ·exact List.mem_cons_of_mem _ (by simpa [iT] using h1)
  ·rcases List.mem_cons.1 hx with rfl|hx
   ·simpa [iT] using h2
   ·simpa [iT] using h3 x hx
theorem Dc {l:List Int} (h:l≠[]):nc l∈l∧ ∀ x∈l,x≤nc l:=by
 cases l with
 |nil=>exact absurd rfl h
 |cons y ys=>
  obtain ⟨h1,h2,h3⟩:=wF ys y
  refine ⟨?_,fun x hx=>?_⟩
  ·rcases h1 with h1|h1
   ·simp [nc,h1]
   ·exact List.mem_cons_of_mem _ (by simpa [nc] using h1)
  ·rcases List.mem_cons.1 hx with rfl|hx
   ·simpa [nc] using h2
   ·simpa [nc] using h3 x hx
noncomputable def bR (l:aU) (r:bK):List Int:=if cr l r 0=0 then eb (aW l r) else []
theorem fT {l:aU} {r:bK} (h:cr l r 0=0):bR l r=eb (aW l r):=if_pos h
theorem iS {l:aU} {r:bK} (h: ¬ cr l r 0=0):bR l r=[]:=if_neg h
theorem oy {l:aU} {r:bK} (h:cr l r 0=0):bR l r≠[]:=by rw [fT h]; exact (dW h).2.2.2
theorem mN {l:aU} {r:bK} (h:cr l r 0=0):1≤(bR l r).length:=List.length_pos_iff.2 (oy h)
theorem kf {l:aU} {r:bK}:(bR l r).length≤100:=by
 unfold bR
 split
 ·rename_i h
  obtain ⟨h1,h2,_⟩:=dW h
  obtain ⟨ht,ho⟩:=di h1
  have:=(jf ht ho h2).n
  have h3:=lz (w:=aW l r) (k:=(aW l r).n+1)
  unfold eb; omega
 ·simp
noncomputable def cH (l:aU) (r:bK):Int:=if cr l r 0=0 then (if l.aD<iT (bR l r) then 2 else if nc (bR l r)≤l.aD then 0 else 1) else 0
noncomputable def dU (l:aU) (b:Int):Int:=if 0≤b∧b≤(l.aa.length:Int)-1 then 0 else 2
theorem k4 {l:aU} {b:Int} (h:0≤b∧b≤(l.aa.length:Int)-1):dU l b=0:=if_pos h
theorem xH {l:aU} {b:Int} (h:dU l b=0):0≤b∧b≤(l.aa.length:Int)-1:=by
 unfold dU at h
 split at h
 ·assumption
 ·omega
noncomputable def l6 (l:aU) (r:bK) (b:Nat):ae:=sD (jN (aW l r) b)
noncomputable def dg (l:aU) (r:bK) (b:Int):Int:=if cr l r (dU l b)=0 then (if l6 l r b.toNat=k9 then 6 else 0) else cr l r (dU l b)
noncomputable def ct (l:aU) (r:bK) (b:Int):ae:=if dg l r b=0 then l6 l r b.toNat else jW
theorem cR {l:aU} {r:bK} {b:Int} (h: ¬ cr l r (dU l b)=0):dg l r b=cr l r (dU l b)∧ct l r b=jW:=by
 have e:dg l r b=cr l r (dU l b):=if_neg h
 exact ⟨e,by unfold ct; rw [if_neg (by rw [e]; exact h)]⟩
theorem kz {l:aU} {r:bK} {b:Nat} (h:cr l r (dU l b)=0) (h2:l6 l r b=k9):dg l r b=6∧ct l r b=jW:=by
 have e:dg l r b=6:=by unfold dg; rw [if_pos h,Int.toNat_natCast,if_pos h2]
 exact ⟨e,by unfold ct; rw [if_neg (by rw [e]; omega)]⟩
theorem kx {l:aU} {r:bK} {b:Nat} (h:cr l r (dU l b)=0) (h2: ¬ l6 l r b=k9):dg l r b=0∧ct l r b=l6 l r b:=by
 have e:dg l r b=0:=by unfold dg; rw [if_pos h,Int.toNat_natCast,if_neg h2]
 exact ⟨e,by unfold ct; rw [if_pos e,Int.toNat_natCast]⟩
theorem AM {w:bh} (h:zV w) {b:Nat} {q:Int×ae} (hq:q∈jN w b):0≤q.2.Lo∧q.2.Lo≤q.2.Hi∧q.2.Hi≤86400000:=by
 have h1:=kN hq
 obtain ⟨o,ho,p,hp,u,hu,e⟩:=gD.1 hq
 obtain ⟨_,_,rfl⟩:=iz.1 e
 have h2:=h.opt ho
 simp only [iu] at h1 ⊢
 omega
theorem wi {l:aU} {r:bK} {b:Int} (h:dg l r b=0):0≤(ct l r b).Lo∧(ct l r b).Lo≤(ct l r b).Hi∧(ct l r b).Hi≤86400000:=by
 have ho:cr l r (dU l b)=0:=by
  by_cases e:cr l r (dU l b)=0
  ·exact e
  ·rw [(cR e).1] at h; exact absurd h e
 obtain ⟨h1,h2,_⟩:=dW ho
 obtain ⟨ht,hok⟩:=di h1
 have hw:=jf ht hok h2
 have hv:ct l r b=l6 l r b.toNat:=by unfold ct; rw [if_pos h]
 have hn:l6 l r b.toNat≠k9:=fun e=>by unfold dg at h; rw [if_pos ho,if_pos e] at h; omega
 have hh:=r_ (l:=jN (aW l r) b.toNat) fun q hq=>kN hq
 rw [hv]
 unfold l6 at hn ⊢
 rcases hh with ⟨_,e⟩|hh
 ·exact absurd e hn
 ·obtain ⟨x,hx,ex⟩:=hh.lo
  obtain ⟨y,hy,ey⟩:=hh.hi
  have:=AM hw hx
  have:=AM hw hy
  have:=hh.le
  omega
noncomputable def tp (l:aU) (r:bK):ae:=if dg l r l.aD=0 then ⟨(ct l r l.aD).Lo-r.Start,(ct l r l.aD).Hi-r.Start⟩ else jW
theorem sX {l:aU} {r:bK} (h:dg l r l.aD=0):tp l r=⟨(ct l r l.aD).Lo-r.Start,(ct l r l.aD).Hi-r.Start⟩:=if_pos h
theorem nR {l:aU} {r:bK} (h: ¬ dg l r l.aD=0):tp l r=jW:=if_neg h
theorem v3 {l:aU} {r:bK} {b:Int} (h:dg l r b=0):cN l r:=by
 by_cases e:cr l r (dU l b)=0
 ·exact (dW e).2.1
 ·rw [(cR e).1] at h; exact absurd h e
theorem uw {k:List (Int×ae)} {h:ae} {q:Int×ae} {z:ae} (hh:iW k h) (hq:q.2.Lo≤q.2.Hi) (hz:ky h q.2=z):iW (k++[q]) z:=by subst hz; exact qN hh hq
end
section
set_option linter.unusedVariables false
def cg (bl:List Nat) (n:Nat):List (Option Nat):=bl.map some++List.replicate (n-bl.length) none
def eX (bl:List Nat) (n:Nat):List (Option Nat):=List.replicate (n-bl.length) none++bl.map some
theorem kS {bl:List Nat} {n:Nat} (h:bl.length≤n):(cg bl n).length=n:=by simp [cg]; omega
theorem uv {bl:List Nat} {n:Nat} (h:bl.length≤n):(eX bl n).length=n:=by simp [eX]; omega
theorem qe {n:Nat}:List.replicate n none=cg [] n:=by simp [cg]
theorem zu {n:Nat}:List.replicate n none=eX [] n:=by simp [eX]
theorem tR {bl:List Nat} {n:Nat} (h:bl.length=n):cg bl n=bl.map some:=by simp [cg,h]
theorem yF {bl:List Nat} {n:Nat} (h:bl.length=n):eX bl n=bl.map some:=by simp [eX,h]
theorem kr {bl:List Nat} {n k g:Nat} (h:bl[k]? =some g):(cg bl n)[k]? =some (some g):=by
 have hk:=(List.getElem?_eq_some_iff.1 h).1
 unfold cg
 rw [List.getElem?_append_left (by simpa using hk),List.getElem?_map,h]; rfl
theorem p8 {bl:List Nat} {n k i g:Nat} (h:bl[i]? =some g) (hk:k=n-bl.length+i):(eX bl n)[k]? =some (some g):=by
 subst hk
 unfold eX
 rw [List.getElem?_append_right (by simp),List.getElem?_map,List.length_replicate,Nat.add_sub_cancel_left,h]; rfl
theorem oG {bl:List Nat} {n k g:Nat} (hk:k=bl.length) (h:bl.length<n):(cg bl n).set k (some g)=cg (bl++[g]) n:=by
 subst hk
 unfold cg
 rw [List.set_append_right _ _ (by simp)]
 have e:n-bl.length=(n-(bl++[g]).length)+1:=by simp; omega
 rw [e,List.replicate_succ]
 simp
theorem zl {bl:List Nat} {n k g:Nat} (hk:k+1+bl.length=n):(eX bl n).set k (some g)=eX (g::bl) n:=by
 unfold eX
 have e:n-bl.length=k+1:=by omega
 have e2:n-(g::bl).length=k:=by simp; omega
 rw [e,e2,List.set_append_left _ _ (by simp),List.replicate_succ',List.set_append_right _ _ (by simp)]
 simp
theorem nu {l:List (Option Nat)} {k g:Nat} (h:l[k]? =some (some g)):(l.map oC)[k]? =some (oC (some g)):=by rw [List.getElem?_map,h]; rfl
theorem uZ {α:Type} {l:List α} {x:α} {k:Nat} (h:k=l.length):(l++[x])[k]? =some x:=by subst h; simp
theorem Bh {α:Type} {l:List α} {x y:α} {k:Nat} (h:l[k]? =some y):(l++[x])[k]? =some y:=by rw [List.getElem?_append_left (List.getElem?_eq_some_iff.1 h).1]; exact h
structure nj (w:bh) (fs:List FM):Prop where
 all: ∀ (b:Nat) m,fs[b]? =some m→oQ m (fwd w b)∧(m.map (·.1)).Nodup
structure fc (w:bh) (k:Nat) (bs:List FM):Prop where
 all: ∀ (i:Nat) m,bs[i]? =some m→pW m (back w (k+i))∧(m.map (·.1)).Nodup
variable {w:bh} {b:Nat} {mb m left:List (ao×Int)} {o:Int×ae} {os:List (Int×ae)} {p:ao×Int}
theorem nj.first:nj w [[(⟨0,0⟩,w.Start)]]:=⟨fun b m h=>by
 match b with
 |0=>simp at h; subst h; exact ⟨yH,by simp⟩
 |n+1=>simp at h⟩
theorem nj.add {fs:List FM} (h:nj w fs) (hl:fs.length=b+1) (hmb:fs[b]? =some mb) (hm:rT w b m) (hd:iK w b mb m left) (h0:left=[]):nj w (fs++[m]):=⟨fun i x hx=>by
 rcases Nat.lt_or_ge i fs.length with q|q
 ·rw [List.getElem?_append_left q] at hx; exact h.all i x hx
 ·rw [List.getElem?_append_right q] at hx
  have hi:i-fs.length=0:=by
   rcases Nat.eq_zero_or_pos (i-fs.length) with z|z
   ·exact z
   ·rw [List.getElem?_eq_none (by simp; omega)] at hx; cases hx
  rw [hi] at hx
  simp at hx; subst hx
  obtain rfl:i=b+1:=by omega
  have h1:=h.all b mb hmb
  exact ⟨AP h1.2 h1.1 hm.snd (hd.fin h0),hm.keys⟩⟩
theorem nj.ok {fs:List FM} (h:nj w fs) (hl:fs.length=w.n+1):qZ w fs:=⟨hl,fun b m hm=>(h.all b m hm).1,fun b m hm=>(h.all b m hm).2⟩
theorem fc.none_:fc w b []:=⟨fun i m h=>by simp at h⟩
theorem fc.last (hb:w.n≤b):fc w b [[(⟨0,0⟩,w.cI)]]:=⟨fun i m h=>by
 match i with
 |0=>simp at h; subst h; exact ⟨Ba (by omega),by simp⟩
 |n+1=>simp at h⟩
theorem fc.add {bs:List FM} (h:fc w (b+1) bs) (hb:b<w.n) (hmb:bs[0]? =some mb) (hm:rn w b m) (hd:ij w b mb m left) (h0:left=[]):fc w b (m::bs):=⟨fun i x hx=>by
 match i with
 |0=>
  simp at hx; subst hx
  have h1:=h.all 0 mb hmb
  exact ⟨Ay hb h1.2 h1.1 hm.snd hm.zero (hd.fin h0),hm.keys⟩
 |n+1=>
  have:=h.all n x (by simpa using hx)
  rw [show b+1+n=b+(n+1) by omega] at this
  exact this⟩
theorem fc.ok {bs:List FM} (h:fc w 0 bs) (hl:bs.length=w.n+1):oZ w bs:=⟨hl,fun b m hm=>by have:=(h.all b m hm).1; rwa [Nat.zero_add] at this,fun b m hm=>(h.all b m hm).2⟩
/-- on the way through one entry's options -/
structure kZ (w:bh) (b:Nat) (mb left m:List (ao×Int)) (p:ao×Int) (os:List (Int×ae)):Prop where
 on:rT w b m
 ph:iK w b mb m left
 done:gS w b m p os
structure ld (w:bh) (b:Nat) (mb left m:List (ao×Int)) (p:ao×Int) (os:List (Int×ae)):Prop where
 on:rn w b m
 ph:ij w b mb m left
 done:gU w b m p os
theorem kZ.start (h:rT w b m) (h2:iK w b mb m left):kZ w b mb left m p []:=⟨h,h2,fun o ho=>by cases ho⟩
theorem ld.start (h:rn w b m) (h2:ij w b mb m left):ld w b mb left m p []:=⟨h,h2,fun o ho=>by cases ho⟩
theorem zz {q:ao×Int} (h:(m.lookup q.1).isSome=false∨q.2<(m.lookup q.1).getD 0):mz m q=dV m q.1 q.2:=by
 unfold mz
 cases e:m.lookup q.1 with
 |none=>rfl
 |some v=>rw [e] at h; simp at h; simp only; rw [if_pos h]
theorem w5 {q:ao×Int} (h:(m.lookup q.1).isSome=true) (h2: ¬ q.2<(m.lookup q.1).getD 0):mz m q=m:=by
 unfold mz
 cases e:m.lookup q.1 with
 |none=>rw [e] at h; cases h
 |some v=>rw [e] at h2; simp only [Option.getD_some] at h2; simp only; rw [if_neg h2]
theorem yR {q:ao×Int} (h:(m.lookup q.1).isSome=false∨(m.lookup q.1).getD 0<q.2):l3 m q=dV m q.1 q.2:=by
 unfold l3
 cases e:m.lookup q.1 with
 |none=>rfl
 |some v=>rw [e] at h; simp at h; simp only; rw [if_pos h]
theorem xo {q:ao×Int} (h:(m.lookup q.1).isSome=true) (h2: ¬ (m.lookup q.1).getD 0<q.2):l3 m q=m:=by
 unfold l3
 cases e:m.lookup q.1 with
 |none=>rw [e] at h; cases h
 |some v=>rw [e] at h2; simp only [Option.getD_some] at h2; simp only; rw [if_neg h2]
theorem ji {t:ao} {v y:Int} (hy:w.oN[b]? =some y) (h:max (v+y) o.2.Lo≤min o.2.Hi w.cI):jB w b (t,v) o=some (cO t (dQ o.1),max (v+y) o.2.Lo):=by
 have e:=ly hy
 subst e
 exact BH h
theorem pK {t:ao} {v y:Int} (hy:w.oN[b]? =some y) (h: ¬ max (v+y) o.2.Lo≤min o.2.Hi w.cI):jB w b (t,v) o=none:=by
 have e:=ly hy
 subst e
 exact C4 h
theorem jk {t:ao} {v y:Int} (hy:w.oN[b]? =some y) (h:o.2.Lo≤min v o.2.Hi):lB w b (t,v) o=some (cO t (dQ o.1),min v o.2.Hi-y):=by
 have e:=ly hy
 subst e
 exact Bm h
theorem kZ.set {q:ao×Int} (h:kZ w b mb left m p os) (hp:p∈fwd w b) (ho:o∈gj w b) (he:jB w b p o=some q) (hs:(m.lookup q.1).isSome=false∨q.2<(m.lookup q.1).getD 0):kZ w b mb left (dV m q.1 q.2) p (os++[o]):=by
 rw [← zz hs]
 exact ⟨h.on.add hp ho he,h.ph.lower q6,h.done.AH he⟩
theorem kZ.j2 {q:ao×Int} (h:kZ w b mb left m p os) (he:jB w b p o=some q) (hs:(m.lookup q.1).isSome=true) (h2: ¬ q.2<(m.lookup q.1).getD 0):kZ w b mb left m p (os++[o]):=by
 have:=h.done.AH he
 rw [w5 hs h2] at this
 exact ⟨h.on,h.ph,this⟩
theorem kZ.skip (h:kZ w b mb left m p os) (he:jB w b p o=none):kZ w b mb left m p (os++[o]):=⟨h.on,h.ph,h.done.none_ he⟩
theorem ld.set {q:ao×Int} (hb:b<w.n) (h:ld w b mb left m p os) (hp:p∈back w (b+1)) (ho:o∈gj w b) (he:lB w b p o=some q) (hs:(m.lookup q.1).isSome=false∨(m.lookup q.1).getD 0<q.2):ld w b mb left (dV m q.1 q.2) p (os++[o]):=by
 rw [← yR hs]
 exact ⟨h.on.add hb hp ho he,h.ph.upper nQ,h.done.AH he⟩
theorem ld.j2 {q:ao×Int} (h:ld w b mb left m p os) (he:lB w b p o=some q) (hs:(m.lookup q.1).isSome=true) (h2: ¬ (m.lookup q.1).getD 0<q.2):ld w b mb left m p (os++[o]):=by
 have:=h.done.AH he
 rw [xo hs h2] at this
 exact ⟨h.on,h.ph,this⟩
theorem ld.skip (h:ld w b mb left m p os) (he:lB w b p o=none):ld w b mb left m p (os++[o]):=⟨h.on,h.ph,h.done.none_ he⟩
theorem kZ.next {t:ao} {v:Int} (hn:(left.map (·.1)).Nodup) (hm:(t,v)∈left) (h:kZ w b mb left m (t,v) os) (ho: ∀ o∈gj w b,o∈os):iK w b mb m (cV left t):=h.ph.next hn hm h.done ho
theorem ld.next {t:ao} {v:Int} (hn:(left.map (·.1)).Nodup) (hm:(t,v)∈left) (h:ld w b mb left m (t,v) os) (ho: ∀ o∈gj w b,o∈os):ij w b mb m (cV left t):=h.ph.next hn hm h.done ho
theorem nj.mem {fs:List FM} (h:nj w fs) (hm:fs[b]? =some mb) (hp:p∈mb):p∈fwd w b:=(h.all b mb hm).1.1 _ _ ((d_ (h.all b mb hm).2).1 hp)
theorem fc.IB {bs:List FM} {k:Nat} (h:fc w k bs) (hk:k=b+1) (hm:bs[0]? =some mb) (hp:p∈mb):p∈back w (b+1):=by
 subst hk
 exact (h.all 0 mb hm).1.1 _ _ ((d_ (h.all 0 mb hm).2).1 hp)
theorem fc.end_ {bs:List FM} {k j:Nat} (h:fc w k bs) (hj:bs.length=0) (hk:j=b) (hb:w.n≤b):fc w j ([(⟨0,0⟩,w.cI)]::bs):=by
 subst hk
 rw [List.eq_nil_of_length_eq_zero hj]
 exact fc.last hb
theorem fc.more {bs:List FM} {k j:Nat} (h:fc w k bs) (hk:k=b+1) (hj:j=b) (hb:b<w.n) (hmb:bs[0]? =some mb) (hm:rn w b m) (hd:ij w b mb m left) (h0:left=[]):fc w j (m::bs):=by
 subst hk hj
 exact h.add hb hmb hm hd h0
end
section
open Go.RowKit
set_option linter.unusedVariables false
theorem eh {a:Option Addr} {c e sz n:Nat} {es:List (List Value)} (h:es.length=n):BU (own a c e sz es) (rd a n sz es):=by subst h; exact B8
theorem iE {L:List aA}:BU (a5 L) (cZ L):=⟨fun w h=>h.1,fun b h=>h⟩
theorem yr {b:Nat} {fb:List Nat} {g:Nat} (h:fb.length=b):aL ib (List.replicate b ([]:TM)) fb++[kD iV g (bG lS [])]=aL ib (List.replicate (b+1) ([]:TM)) (fb++[g]):=by
 rw [List.replicate_succ']
 exact ub (by rw [List.length_replicate]; exact h.symm) rfl
theorem FQ {α:Type} {ms:List α} {fb:List Nat} {n:Nat} (h:fb.length=n) (h2:ms.length=n):List.map oC (cg fb n)=List.zipWith cl ms fb:=by
 rw [tR h]; exact (uL (by omega)).symm
theorem fG {l:aU} {r:bK} {i:Nat} {x:aw} (hx:r.ab[i]? =some x) (h: ¬ eA l r.ab i x): ¬ cN l r:=fun q=>h (q.sig i x hx)
end
section
set_option linter.unusedVariables false
def lj (l:aU):Prop:=(20<(l.al.length:Int)∨8<(l.ag.length:Int)∨10<(l.aa.length:Int))∨ ∃ c∈l.ag,10<(c.aB.length:Int)
noncomputable instance (l:aU):Decidable (lj l):=Classical.propDecidable _
/-- what is asked of a line that comes in -/
structure pw (l:aU) (az:List RA):Prop where
 nm:l.al.length≤9223372036854775807
 side: ∀ x∈l.al,0≤x.gi∧x.gi≤255
 nv:l.ag.length≤9223372036854775807
 m_:az.length=l.ag.length
 nd:l.aa.length≤9223372036854775807
 Fs: ∀ (k:Nat) m (a:RA),l.ag[k]? =some m→az[k]? =some a→m.aB.length≤a.2∧m.aB.length≤9223372036854775807
def uY (l:aU) (i:Nat):Prop:= ∀ (j:Nat) c,j<i→l.ag[j]? =some c→(c.aB.length:Int)≤10
theorem nP {l:aU} {i:Nat} (h: ¬ (20<(l.al.length:Int))∧ ¬ (8<(l.ag.length:Int))∧ ¬ (10<(l.aa.length:Int))) (hi:l.ag.length≤i) (hs:uY l i): ¬ lj l:=by
 rintro (h1|⟨c,hc,h2⟩)
 ·omega
 ·obtain ⟨k,hk⟩:=List.getElem?_of_mem hc
  have:=hs k c (by have:=(List.getElem?_eq_some_iff.1 hk).1; omega) hk
  omega
theorem nF {l:aU} {i:Nat} {c:aj} (hc:l.ag[i]? =some c) (h:10<(c.aB.length:Int)):lj l:= .inr ⟨c,List.mem_of_getElem? hc,h⟩
theorem jw {α:Type} {l:List α} {P:Nat→α→Prop} {i:Nat} {x:α} (h: ∀ (j:Nat) y,j<i→l[j]? =some y→P j y) (hx:l[i]? =some x) (hp:P i x): ∀ (j:Nat) y,j<i+1→l[j]? =some y→P j y:=fun j y hj hy=>by
 by_cases e:j=i
 ·subst e; rw [hx] at hy; cases hy; exact hp
 ·exact h j y (by omega) hy
theorem fg {α:Type} {l:List α} {P:Nat→α→Prop} {i:Nat} (hi:l.length≤i) (h: ∀ (j:Nat) y,j<i→l[j]? =some y→P j y): ∀ (j:Nat) y,l[j]? =some y→P j y:=fun j y hy=>h j y (by have:=(List.getElem?_eq_some_iff.1 hy).1; omega) hy
theorem dL {α:Type} {l:List α} {P:α→Prop} {i:Nat} (hi:l.length≤i) (h: ∀ (j:Nat) y,j<i→l[j]? =some y→P y): ∀ y∈l,P y:=fun y hy=>by
 obtain ⟨k,hk⟩:=List.getElem?_of_mem hy
 exact fg (P:=fun _ y=>P y) hi h k y hk
theorem pY {l:aU} (h: ¬ lj l):(l.al.length:Int)≤20∧(l.ag.length:Int)≤8∧(l.aa.length:Int)≤10∧ ∀ c∈l.ag,(c.aB.length:Int)≤10:=by
 unfold lj at h
 rw [not_or] at h
 refine ⟨by omega,by omega,by omega,fun c hc=>?_⟩
 have:=h.2
 rcases Int.lt_or_le 10 (c.aB.length:Int) with q|q
 ·exact absurd ⟨c,hc,q⟩ this
 ·exact q
theorem pw.small {l:aU} {az:List RA} (h:pw l az) (hg: ¬ lj l):dC l az:=by
 have h1:=pY hg
 exact ⟨by omega,h.side,by omega,h.m_,by omega,fun k m a hm ha=>⟨(h.Fs k m a hm ha).1,by have:=h1.2.2.2 m (List.mem_of_getElem? hm); omega⟩⟩
def xZ (c:aj) (x:bD) (k:Nat):Prop:= ∀ (j:Nat) o,j<k→c.aB[j]? =some o→gJ c x o
def p7 (c:aj) (m:Nat):Prop:= ∀ (i:Nat) x,i<m→c.aB[i]? =some x→xZ c x i
theorem fZ {c:aj} {m:Nat} (h1:0≤c.bJ∧c.bJ≤1000) (h2:1≤c.aB.length∧c.aB.length≤5) (hs: ∀ (i:Nat) x,c.aB[i]? =some x→dx c i x) (hm:c.aB.length≤m) (hp:p7 c m):dP c:=
 ⟨h1,h2,hs,fun i k x o hx hk ho=>hp i x (by have:=(List.getElem?_eq_some_iff.1 hx).1; omega) hx k o hk ho⟩
theorem wW {c:aj} {m k:Nat} (h:p7 c m) (hk: ∀ y,c.aB[m]? =some y→xZ c y k) (e:k=m):p7 c (m+1):=by
 subst e
 intro i x hi hx
 by_cases e:i=k
 ·subst e; exact hk x hx
 ·exact h i x (by omega) hx
noncomputable def g4 (c:aj) (at_:Int) (i:Nat):ae:=if i=0 then jW else eg c at_ i
theorem wU {c:aj} {at_:Int} {i:Nat} (h:dP c) (hi:c.aB.length≤i):g4 c at_ i=fx c at_:=by
 have:=h.len
 unfold g4; rw [if_neg (by omega),k7 hi]
theorem pO {c:aj} {at_:Int} {i:Nat} {x:bD} (h:dP c) (ha:0≤at_∧at_≤90000000) (hx:c.aB[i]? =some x) (hi:i=0):
 g4 c at_ (i+1)=⟨max (x.bQ.Lo-oW c at_ x) (x.bQ.Lo-oW c at_ x),min (x.bQ.Hi+oW c at_ x) (x.bQ.Hi+oW c at_ x)⟩:=by
 subst hi
 have hb:=h.qj hx
 have ho:=qp h.g9 ha hb.1
 unfold g4
 rw [if_neg (by omega),iy hx]
 unfold j1 eg
 simp only [List.take_zero,List.foldl_nil,ae.mk.injEq]
 omega
theorem q7 {c:aj} {at_:Int} {i:Nat} {x:bD} (hx:c.aB[i]? =some x) (hi: ¬ i=0):g4 c at_ (i+1)=⟨max (g4 c at_ i).Lo (x.bQ.Lo-oW c at_ x),min (g4 c at_ i).Hi (x.bQ.Hi+oW c at_ x)⟩:=by
 unfold g4
 rw [if_neg (by omega),if_neg hi,iy hx]; rfl
def eB (ts:List ah) (n:Nat):List ae:=(List.range n).map fun k=>bW ts 0 k
theorem vh {ts:List ah} {n:Nat}:eB ts (n+1)=eB ts n++[bW ts 0 n]:=by simp [eB,List.range_succ]
theorem l0 {ts:List ah} {n:Nat}:(eB ts n).length=n:=by simp [eB]
theorem m8 {ts:List ah} {n k:Nat} {x:ae} (h:(eB ts n)[k]? =some x):x=bW ts 0 k:=by
 unfold eB at h
 rw [List.getElem?_map] at h
 cases hk:(List.range n)[k]? with
 |none=>simp [hk] at h
 |some v=>
  have:=List.getElem?_eq_some_iff.1 hk
  simp at this
  simp [hk] at h
  rw [← h,← this.2]
theorem hH {ts:List ah} {a b:bS} (h:b.ak<a.ak):fX ts a b=hZ (fX ts b a):=by
 unfold fX
 rw [if_pos h,if_neg (by omega)]
 unfold nz
 rw [Int.min_comm b.ak a.ak,Int.max_comm b.ak a.ak]
 unfold hZ gZ
 simp only [ae.mk.injEq]
 omega
theorem eK {ts:List ah} {a b:bS} (h: ¬ b.ak<a.ak):fX ts a b=gZ (gZ (bW ts a.ak.toNat (b.ak-a.ak).toNat) b.ek) (hZ a.ek):=by
 unfold fX nz
 rw [if_neg h,Int.min_eq_left (by omega),Int.max_eq_right (by omega)]
end
section
set_option linter.unusedVariables false
structure xq (w w':bh):Prop where
 start:w'.Start=w.Start
 now:w.cI≤w'.cI
 n:w'.n=w.n
 least: ∀ b,bx w' b≤bx w b
 times:w'.qX=w.qX
 ER:w.aJ≤w'.aJ
 Gm:w.aV≤w'.aV
 sigs:w'.El=w.El
variable {w w':bh}
theorem xq.opt (h:xq w w') {b:Nat} {o:Int×ae} (ho:o∈gj w b): ∃ o'∈gj w' b,o'.1=o.1∧o'.2.Lo≤o.2.Lo∧o.2.Hi≤o'.2.Hi:=by
 unfold gj at ho
 rcases List.mem_cons.1 ho with rfl|ho
 ·exact ⟨(-1,⟨w'.Start,w'.cI⟩),List.mem_cons_self ..,rfl,by simp only [h.start]; omega,h.now⟩
 ·refine ⟨o,List.mem_cons_of_mem _ ?_,rfl,Int.le_refl _,Int.le_refl _⟩
  unfold pU at ho ⊢; rw [h.times]; exact ho
theorem xq.may (h:xq w w') {t:ao} (ht:ja w t=true):ja w' t=true:=by
 unfold ja at ht ⊢
 have:=of_decide_eq_true ht
 have h1:=h.ER
 have h2:=h.Gm
 have h3:=h.sigs
 exact decide_eq_true (by omega)
theorem xq.fwd (h:xq w w'): ∀ (b:Nat) (p:ao×Int),p∈fwd w b→ ∃ p'∈Go.Proofs.YthiigjekcdjkkaaGreat.fwd w' b,p'.1=p.1∧p'.2≤p.2:=by
 intro b
 induction b with
 |zero=>
  intro p hp
  simp only [Go.Proofs.YthiigjekcdjkkaaGreat.fwd,List.mem_singleton] at hp ⊢
  subst hp
  exact ⟨_,rfl,rfl,by simp only [h.start]; omega⟩
 |succ b ih=>
  intro q hq
  obtain ⟨p,hp,o,ho,e⟩:=eL.1 hq
  obtain ⟨p',hp',h1,h2⟩:=ih p hp
  obtain ⟨o',ho',h3,h4,h5⟩:=h.opt ho
  have hl:=h.least b
  have hn:=h.now
  unfold jB at e
  split at e
  ·rename_i hle
   simp only [Option.some.injEq] at e
   subst e
   refine ⟨(cO p'.1 (dQ o'.1),max (p'.2+bx w' b) o'.2.Lo),eL.2 ⟨p',hp',o',ho',by unfold jB; rw [if_pos (by omega)]⟩,by simp only [h1,h3],by simp only; omega⟩
  ·cases e
theorem xq.bwd (h:xq w w'): ∀ (k:Nat) (p:ao×Int),p∈bwd w k→ ∃ p'∈Go.Proofs.YthiigjekcdjkkaaGreat.bwd w' k,p'.1=p.1∧p.2≤p'.2:=by
 intro k
 induction k with
 |zero=>
  intro p hp
  simp only [Go.Proofs.YthiigjekcdjkkaaGreat.bwd,List.mem_singleton] at hp ⊢
  subst hp
  exact ⟨_,rfl,rfl,h.now⟩
 |succ k ih=>
  intro q hq
  simp only [Go.Proofs.YthiigjekcdjkkaaGreat.bwd,List.mem_cons,List.mem_flatMap,List.mem_filterMap] at hq ⊢
  rcases hq with rfl|⟨p,hp,o,ho,e⟩
  ·exact ⟨_,.inl rfl,rfl,h.now⟩
  ·obtain ⟨p',hp',h1,h2⟩:=ih p hp
   obtain ⟨o',ho',h3,h4,h5⟩:=h.opt ho
   have hl:=h.least (w.n-(k+1))
   rw [h.n]
   unfold lB at e
   split at e
   ·rename_i hle
    simp only [Option.some.injEq] at e
    subst e
    exact ⟨(cO p'.1 (dQ o'.1),min p'.2 o'.2.Hi-bx w' (w.n-(k+1))),.inr ⟨p',hp',o',ho',by unfold lB; rw [if_pos (by omega)]⟩,by simp only [h1,h3],by simp only; omega⟩
   ·cases e
theorem xq.back (h:xq w w') {b:Nat} {p:ao×Int} (hp:p∈back w b): ∃ p'∈Go.Proofs.YthiigjekcdjkkaaGreat.back w' b,p'.1=p.1∧p.2≤p'.2:=by
 unfold Go.Proofs.YthiigjekcdjkkaaGreat.back at hp ⊢
 rw [h.n]
 exact h.bwd _ p hp
theorem xq.pass (h:xq w w') {b:Nat} {q:Int×ae} (hq:q∈jN w b): ∃ q'∈jN w' b,q'.1=q.1∧q'.2.Lo≤q.2.Lo∧q.2.Hi≤q'.2.Hi:=by
 obtain ⟨o,ho,p,hp,u,hu,e⟩:=gD.1 hq
 obtain ⟨h1,h2,rfl⟩:=iz.1 e
 obtain ⟨o',ho',a1,a2,a3⟩:=h.opt ho
 obtain ⟨p',hp',b1,b2⟩:=h.fwd _ p hp
 obtain ⟨u',hu',c1,c2⟩:=h.back hu
 have hl:=h.least b
 simp only [iu] at h1
 refine ⟨(o'.1,iu w' b p' u' o'),gD.2 ⟨o',ho',p',hp',u',hu',iz.2 ⟨?_,?_,rfl⟩⟩,a1,?_,?_⟩
 ·simp only [iu]; omega
 ·have:=h.may h2
  unfold sS at this ⊢
  rw [a1,b1,c1]; exact this
 ·simp only [iu]; omega
 ·simp only [iu]; omega
theorem kp {k:Int}:k∈eb w↔ ∃ i:Nat,k=(i:Int)∧i≤w.n∧gN w (fwd w i)=true:=by
 unfold eb eJ
 simp only [List.mem_map,List.mem_filter,List.mem_range]
 constructor
 ·rintro ⟨i,⟨h1,h2⟩,rfl⟩; exact ⟨i,rfl,by omega,h2⟩
 ·rintro ⟨i,rfl,h1,h2⟩; exact ⟨i,⟨by omega,h2⟩,rfl⟩
theorem xq.zM (h:xq w w') {k:Int} (hk:k∈eb w):k∈eb w':=by
 obtain ⟨i,rfl,h1,h2⟩:=kp.1 hk
 refine kp.2 ⟨i,rfl,by rw [h.n]; exact h1,?_⟩
 unfold gN at h2 ⊢
 obtain ⟨p,hp,h3⟩:=List.any_eq_true.1 h2
 obtain ⟨p',hp',b1,_⟩:=h.fwd _ p hp
 exact List.any_eq_true.2 ⟨p',hp',by rw [b1]; exact h.may h3⟩
/-- two rides, of two lines, of which one allows more -/
structure Hc (l:aU) (r:bK) (l':aU) (r':bK):Prop where
 line:dk l=0
 line':dk l'=0
 tJ:cN l r
 ride':cN l' r'
 w:xq (aW l r) (aW l' r')
 DD:l'.aa.length=l.aa.length
variable {l l':aU} {r r':bK}
theorem Hc.ok (h:Hc l r l' r') (he:cr l r 0=0):cr l' r' 0=0:=by
 refine ke h.line' h.ride' rfl fun e=>?_
 obtain ⟨k,hk⟩:=List.exists_mem_of_ne_nil _ (dW he).2.2.2
 have:=h.w.zM hk
 rw [e] at this; cases this
theorem Hc.xe (h:Hc l r l' r') {k:Int} (hk:k∈bR l r):k∈bR l' r':=by
 by_cases he:cr l r 0=0
 ·rw [fT he] at hk
  rw [fT (h.ok he)]
  exact h.w.zM hk
 ·rw [iS he] at hk; cases hk
theorem zO {b:Nat} (hb:b<l.aa.length):cr l r (dU l b)=cr l r 0:=by rw [k4 (by omega)]
theorem uy {b:Nat}:bx (aW l r) b=if b<l.aa.length then df l b else 0:=by
 unfold bx aW aR
 split
 ·rename_i h
  simp [h]
 ·rename_i h
  simp [h]
theorem qD {sg:List aw} {i:Nat} (h:i=0):ir sg i=⟨-1,0⟩:=by subst h; rfl
theorem gP {sg:List aw} {i:Nat} {y:aw} (h:0<i) (hy:sg[i-1]? =some y):ir sg i=y:=by unfold ir; rw [if_neg (by omega),hy]; rfl
def DS (l:aU):Prop:= ¬ lj l∧dk l=0
noncomputable instance (l:aU):Decidable (DS l):=Classical.propDecidable _
end
section
set_option linter.unusedVariables false
/-- where a sled may be after k beams more -/
def eC (w:bh):Nat→Nat→ao×Int→List (ao×Int)
 |0,_,p=>[p]
 |k+1,b,p=>(gj w b).flatMap fun o=>match jB w b p o with
  |some q=>eC w k (b+1) q
  |none=>[]
variable {w:bh}
theorem fQ {k b:Nat} {p q:ao×Int}:q∈eC w (k+1) b p↔ ∃ o∈gj w b,∃ p',jB w b p o=some p'∧q∈eC w k (b+1) p':=by
 simp only [eC,List.mem_flatMap]
 constructor
 ·rintro ⟨o,ho,h⟩
  cases e:jB w b p o with
  |none=>rw [e] at h; cases h
  |some p'=>rw [e] at h; exact ⟨o,ho,p',e,h⟩
 ·rintro ⟨o,ho,p',e,h⟩
  exact ⟨o,ho,by rw [e]; exact h⟩
theorem oK: ∀ (k b:Nat) (q:ao×Int),q∈fwd w (b+k)↔ ∃ p∈fwd w b,q∈eC w k b p:=by
 intro k
 induction k with
 |zero=>
  intro b q
  simp only [Nat.add_zero,eC,List.mem_singleton]
  exact ⟨fun h=>⟨q,h,rfl⟩,fun ⟨p,hp,e⟩=>e▸hp⟩
 |succ k ih=>
  intro b q
  rw [show b+(k+1)=(b+1)+k by omega,ih]
  constructor
  ·rintro ⟨p',hp',h⟩
   obtain ⟨p,hp,o,ho,e⟩:=eL.1 hp'
   exact ⟨p,hp,fQ.2 ⟨o,ho,p',e,h⟩⟩
  ·rintro ⟨p,hp,h⟩
   obtain ⟨o,ho,p',e,h'⟩:=fQ.1 h
   exact ⟨p',eL.2 ⟨p,hp,o,ho,e⟩,h'⟩
theorem eZ {b:Nat} {p q:ao×Int} {o:Int×ae}:jB w b p o=some q↔max (p.2+bx w b) o.2.Lo≤min o.2.Hi w.cI∧q=(cO p.1 (dQ o.1),max (p.2+bx w b) o.2.Lo):=by
 unfold jB
 split
 ·rename_i h
  constructor
  ·intro e; cases e; exact ⟨h,rfl⟩
  ·rintro ⟨_,rfl⟩; rfl
 ·rename_i h
  constructor
  ·intro e; cases e
  ·rintro ⟨h',_⟩; exact absurd h' h
theorem qC {b:Nat} {p q:ao×Int} {o:Int×ae}:lB w b p o=some q↔o.2.Lo≤min p.2 o.2.Hi∧q=(cO p.1 (dQ o.1),min p.2 o.2.Hi-bx w b):=by
 unfold lB
 split
 ·rename_i h
  constructor
  ·intro e; cases e; exact ⟨h,rfl⟩
  ·rintro ⟨_,rfl⟩; rfl
 ·rename_i h
  constructor
  ·intro e; cases e
  ·rintro ⟨h',_⟩; exact absurd h' h
theorem zt {b:Nat} (hb:b≤w.n):((⟨0,0⟩:ao),w.cI)∈back w b:=by
 rcases Nat.lt_or_ge b w.n with h|h
 ·exact (mj h).2 (.inl rfl)
 ·rw [qJ h]; simp
theorem kQ (t:ao):cO t ⟨0,0⟩=t:=by cases t; simp [cO]
theorem tO (a o u:ao):cO (cO a o) u=cO a (cO u o):=by simp only [cO,ao.mk.injEq]; omega
theorem xT (hl: ∀ b,0≤bx w b): ∀ (k:Nat) (u:ao×Int),u∈bwd w k→u.2≤w.cI:=by
 intro k
 induction k with
 |zero=>intro u hu; simp only [bwd,List.mem_singleton] at hu; subst hu; exact Int.le_refl _
 |succ k ih=>
  intro u hu
  simp only [bwd,List.mem_cons,List.mem_flatMap,List.mem_filterMap] at hu
  rcases hu with rfl|⟨p,hp,o,ho,e⟩
  ·exact Int.le_refl _
  ·obtain ⟨_,rfl⟩:=qC.1 e
   have:=ih p hp
   have:=hl (w.n-(k+1))
   simp only; omega
/-- what follows a passing is told by the way back -/
theorem CU: ∀ (k b:Nat) (p q:ao×Int),b+k≤w.n→p.2≤w.cI→q∈eC w k b p→ ∃ u∈back w b,p.2≤u.2∧q.1=cO p.1 u.1:=by
 intro k
 induction k with
 |zero=>
  intro b p q hb hp hq
  simp only [eC,List.mem_singleton] at hq
  subst hq
  exact ⟨_,zt (by omega),hp,(kQ _).symm⟩
 |succ k ih=>
  intro b p q hb hp hq
  obtain ⟨o,ho,p',e,h⟩:=fQ.1 hq
  obtain ⟨h1,rfl⟩:=eZ.1 e
  obtain ⟨u',hu',h2,h3⟩:=ih (b+1) _ q (by omega) (by simp only; omega) h
  simp only at h2 h3
  refine ⟨(cO u'.1 (dQ o.1),min u'.2 o.2.Hi-bx w b),(mj (by omega)).2 (.inr ⟨u',hu',o,ho,qC.2 ⟨by omega,rfl⟩⟩),by simp only; omega,?_⟩
  rw [h3,tO]
theorem AA (hl: ∀ b,0≤bx w b): ∀ (d b:Nat) (p u:ao×Int),w.n=b+d→p.2≤u.2→u∈back w b→ ∃ k,b+k≤w.n∧ ∃ q∈eC w k b p,q.1=cO p.1 u.1:=by
 intro d
 induction d with
 |zero=>
  intro b p u hd hp hu
  rw [qJ (by omega)] at hu
  simp only [List.mem_singleton] at hu
  subst hu
  exact ⟨0,by omega,p,by simp [eC],(kQ _).symm⟩
 |succ d ih=>
  intro b p u hd hp hu
  rcases (mj (by omega)).1 hu with rfl|⟨u',hu',o,ho,e⟩
  ·exact ⟨0,by omega,p,by simp [eC],(kQ _).symm⟩
  ·obtain ⟨h1,rfl⟩:=qC.1 e
   have hn:u'.2≤w.cI:=xT hl _ _ hu'
   simp only at hp
   obtain ⟨k,hk,q,hq,h3⟩:=ih (b+1) (cO p.1 (dQ o.1),max (p.2+bx w b) o.2.Lo) u' (by omega) (by simp only; omega) hu'
   refine ⟨k+1,by omega,q,fQ.2 ⟨o,ho,_,eZ.2 ⟨by omega,rfl⟩,hq⟩,?_⟩
   rw [h3]; simp only; rw [tO]
end
section
set_option linter.unusedVariables false
section
variable {l:aU} {r:bK} {one at_:Int} {d:Nat} {f g m:Int} {rec:Int→Int→Int→Bool} {i:Int}
end
theorem oa {l:aU} {r:bK} {d:Nat} (hd:d<l.aa.length) {o:Int×ae}:o∈gj (aW l r) d↔o=(-1,⟨r.Start,r.cI⟩)∨ ∃ k,k<r.ab.length∧ ∃ s,r.ab[k]? =some s∧(s.cU=(d:Int)∧(bT l s).Lo≤(bT l s).Hi)∧o=((k:Int),bT l s):=by
 unfold gj pU
 show o∈(-1,(⟨r.Start,r.cI⟩:ae))::((bo l r.ab r.ab.length)[d]?).getD []↔_
 rw [mn hd,Option.getD_some,List.mem_cons,o3]
theorem mJ {l:aU} {r:bK} {d:Nat} (hd:d<l.aa.length):bx (aW l r) d=df l d:=by rw [uy,if_pos hd]
theorem vr {w:bh} {k:Nat}:(eJ w k).Pairwise (· < ·):=by
 unfold eJ
 rw [List.pairwise_map]
 exact List.Pairwise.imp (fun h=>by omega) (List.Pairwise.filter _ List.pairwise_lt_range)
theorem vK {l:List Int} (h:l.Pairwise (· < ·)) (hn:l≠[]):l[0]? =some (iT l)∧l[l.length-1]? =some (nc l):=by
 have h1:=va hn
 have h2:=Dc hn
 have hp:0<l.length:=List.length_pos_iff.2 hn
 obtain ⟨i,hi⟩:=List.getElem?_of_mem h1.1
 obtain ⟨k,hk⟩:=List.getElem?_of_mem h2.1
 have hi':=List.getElem?_eq_some_iff.1 hi
 have hk':=List.getElem?_eq_some_iff.1 hk
 obtain ⟨hi1,hi2⟩:=hi'
 obtain ⟨hk1,hk2⟩:=hk'
 constructor
 ·rcases Nat.eq_zero_or_pos i with e|e
  ·subst e; exact hi
  ·have h3:=List.pairwise_iff_getElem.1 h 0 i hp hi1 e
   have h4:=h1.2 _ (List.getElem_mem hp)
   omega
 ·rcases Nat.lt_or_ge k (l.length-1) with e|e
  ·have h3:=List.pairwise_iff_getElem.1 h k (l.length-1) hk1 (by omega) e
   have h4:=h2.2 _ (List.getElem_mem (show l.length-1<l.length by omega))
   omega
  ·rw [show l.length-1=k by omega]; exact hk
theorem xQ {l:aU} {r:bK} (he:cr l r 0=0):(bR l r)[0]? =some (iT (bR l r))∧(bR l r)[(bR l r).length-1]? =some (nc (bR l r)):=by
 refine vK ?_ (oy he)
 rw [fT he]; exact vr
theorem qm {l:aU} {n d:Nat} {y:Int} (h:(aR l n)[d]? =some y):y=df l d:=by
 unfold aR at h
 rw [List.getElem?_map] at h
 have hd:d<n:=by
  rcases Nat.lt_or_ge d n with q|q
  ·exact q
  ·rw [List.getElem?_eq_none (by simpa using q)] at h; cases h
 rw [List.getElem?_range hd] at h
 exact (Option.some.inj h).symm
end
section
set_option linter.unusedVariables false
def k5 (w:bh) (b:Nat) (i:Int):Prop:= ∃ b',b'<b∧ ∃ q∈jN w b',q.1=i
noncomputable instance (w:bh) (b:Nat) (i:Int):Decidable (k5 w b i):=Classical.propDecidable _
noncomputable def kH (w:bh) (n:Nat):List Int:=((List.range n).map fun (k:Nat)=>(k:Int)).filter fun i=> !decide (k5 w w.n i)
noncomputable def ik (l:aU) (r:bK):List Int:=if cr l r 0=0 then kH (aW l r) r.ab.length else []
theorem ql {l:aU} {r:bK} (h:cr l r 0=0):ik l r=kH (aW l r) r.ab.length:=if_pos h
theorem jY {l:aU} {r:bK} (h: ¬ cr l r 0=0):ik l r=[]:=if_neg h
def kj (w:bh) (b:Nat):Bool:=(jN w b).any fun q=>decide (0≤q.1)
def e8 (w:bh) (k:Nat):List Int:=((List.range k).filter fun b=> !kj w b).map fun (b:Nat)=>(b:Int)
noncomputable def fr (l:aU) (r:bK):List Int:=if cr l r 0=0 then e8 (aW l r) (iT (bR l r)).toNat else []
theorem lu {l:aU} {r:bK} (h:cr l r 0=0):fr l r=e8 (aW l r) (iT (bR l r)).toNat:=if_pos h
theorem hG {l:aU} {r:bK} (h: ¬ cr l r 0=0):fr l r=[]:=if_neg h
theorem xN {w:bh} {k:Nat} (h:kj w k=false):e8 w (k+1)=e8 w k++[(k:Int)]:=by simp [e8,List.range_succ,h]
theorem yS {w:bh} {k:Nat} (h:kj w k=true):e8 w (k+1)=e8 w k:=by simp [e8,List.range_succ,h]
theorem mS {w:bh} {k:Nat}:(e8 w k).length≤k:=by
 unfold e8
 rw [List.length_map]
 exact Nat.le_trans (List.length_filter_le _ _) (by simp)
abbrev BM:=List (Int×Bool)
def iY (n:Nat):BM:=(List.range n).map fun (k:Nat)=>((k:Int),true)
theorem vS {n:Nat}:dV (iY n) (n:Int) true=iY (n+1):=by
 have hn:(iY n).lookup (n:Int)=none:=gF.2 fun p hp e=>by
  unfold iY at hp
  obtain ⟨k,hk,rfl⟩:=List.mem_map.1 hp
  have:=List.mem_range.1 hk
  simp only at e; omega
 unfold dV
 rw [hn]
 simp [iY,List.range_succ]
/-- what is left: each key once, those that are not seen -/
structure lU (n:Nat) (m:BM) (P:Int→Prop):Prop where
 nodup:(m.map (·.1)).Nodup
 mem: ∀ i:Int,i∈m.map (·.1)↔(0≤i∧i<(n:Int))∧ ¬ P i
theorem xS {n:Nat}:lU n (iY n) (fun _=>False):=by
 have e:(iY n).map (·.1)=(List.range n).map fun (k:Nat)=>(k:Int):=by simp [iY]
 refine ⟨by rw [e]; exact List.Pairwise.map _ (fun a b (h:a≠b)=>by show (a:Int)≠(b:Int); omega) List.nodup_range,fun i=>?_⟩
 rw [e,List.mem_map]
 constructor
 ·rintro ⟨k,hk,rfl⟩
  have:=List.mem_range.1 hk
  exact ⟨by omega,fun h=>h⟩
 ·rintro ⟨h,_⟩
  exact ⟨i.toNat,List.mem_range.2 (by omega),by omega⟩
theorem BL {n:Nat} {m:BM} {P:Int→Prop} {x:Int} (h:lU n m P):lU n (cV m x) (fun i=>P i∨i=x):=by
 have e:(cV m x).map (·.1)=(m.map (·.1)).filter fun i=> !decide (i=x):=by
  unfold cV; rw [List.filter_map]; rfl
 refine ⟨by rw [e]; exact h.nodup.filter _,fun i=>?_⟩
 rw [e,List.mem_filter,h.mem]
 simp only [Bool.not_eq_true',decide_eq_false_iff_not]
 constructor
 ·rintro ⟨⟨h1,h2⟩,h3⟩; exact ⟨h1,fun q=>q.elim h2 h3⟩
 ·rintro ⟨h1,h2⟩; exact ⟨⟨h1,fun q=>h2 (.inl q)⟩,fun q=>h2 (.inr q)⟩
theorem nA {n:Nat} {m:BM} {P R:Int→Prop} (h:lU n m P) (he: ∀ i,P i↔R i):lU n m R:=⟨h.nodup,fun i=>by rw [h.mem,he]⟩
theorem qW {x:Int}: ∀ {l:List Int},l.Nodup→x∈l→l.count x=1
 |[],_,h=>by cases h
 |y::l,hn,hx=>by
  rw [List.nodup_cons] at hn
  by_cases e:y=x
  ·subst e
   rw [List.count_cons_self,List.count_eq_zero.2 hn.1]
  ·rw [List.count_cons_of_ne e]
   rcases List.mem_cons.1 hx with q|q
   ·exact absurd q.symm e
   ·exact qW hn.2 q
theorem sG {a b:List Int} (ha:a.Nodup) (hb:b.Nodup) (h: ∀ x,x∈a↔x∈b):a.Perm b:=by
 rw [List.perm_iff_count]
 intro x
 have c: ∀ l:List Int,l.Nodup→l.count x=if x∈l then 1 else 0:=fun l hl=>by
  split
  ·rename_i hx; exact qW hl hx
  ·rename_i hx; exact List.count_eq_zero.2 hx
 rw [c a ha,c b hb]
 simp only [h x]
theorem tF (w:bh) (n:Nat):(kH w n).Pairwise (· ≤ ·):=by
 unfold kH
 refine List.Pairwise.filter _ (List.Pairwise.map _ (fun a b (h:a<b)=>by show (a:Int)≤(b:Int); omega) List.pairwise_lt_range)
theorem u7 (w:bh) (n:Nat):(kH w n).Nodup:=by
 unfold kH
 exact List.Pairwise.filter _ (List.Pairwise.map _ (fun a b (h:a≠b)=>by show (a:Int)≠(b:Int); omega) List.nodup_range)
theorem xb {w:bh} {n:Nat} {i:Int}:i∈kH w n↔(0≤i∧i<(n:Int))∧ ¬ k5 w w.n i:=by
 unfold kH
 rw [List.mem_filter,List.mem_map]
 simp only [Bool.not_eq_true',decide_eq_false_iff_not]
 constructor
 ·rintro ⟨⟨k,hk,rfl⟩,h2⟩
  have:=List.mem_range.1 hk
  exact ⟨by omega,h2⟩
 ·rintro ⟨h1,h2⟩
  exact ⟨⟨i.toNat,List.mem_range.2 (by omega),by omega⟩,h2⟩
theorem wP {w:bh} {n:Nat} {m:BM} {l s:List Int} (h:lU n m (k5 w w.n)) (hl:l.Perm (m.map (·.1))) (hs:s.Perm l) (ho:s.Pairwise (· ≤ ·)):s=kH w n:=
 tH ((hs.trans hl).trans (sG h.nodup (u7 w n) fun x=>by rw [h.mem,xb])) ho (tF w n)
/-- one more key is taken -/
theorem AX {m l:BM} {ys:List Int} {x:Int} {y:Bool} (hn:(l.map (·.1)).Nodup) (hm:(x,y)∈l) (h:(ys++l.map (·.1)).Perm (m.map (·.1))):((ys++[x])++(cV l x).map (·.1)).Perm (m.map (·.1)):=by
 refine List.Perm.trans ?_ h
 rw [List.append_assoc]
 refine List.Perm.append_left ys ?_
 have e:(cV l x).map (·.1)=(l.map (·.1)).filter fun i=> !decide (i=x):=by
  unfold cV; rw [List.filter_map]; rfl
 rw [e]
 refine sG (List.nodup_cons.2 ⟨by simp,hn.filter _⟩) hn fun z=>?_
 simp only [List.singleton_append,List.mem_cons,List.mem_filter,Bool.not_eq_true',decide_eq_false_iff_not]
 constructor
 ·rintro (rfl|⟨h1,_⟩)
  ·exact List.mem_map.2 ⟨(z,y),hm,rfl⟩
  ·exact h1
 ·intro hz
  by_cases e:z=x
  ·exact .inl e
  ·exact .inr ⟨hz,e⟩
theorem uj {w:bh} {b:Nat} {mf mb:List (ao×Int)} (hf:oQ mf (fwd w b)) (hb:pW mb (back w (b+1))) (nf:(mf.map (·.1)).Nodup) (nb:(mb.map (·.1)).Nodup) {k:List (Int×ae)} (h1: ∀ q∈k,q∈kI w b mf mb) (h2: ∀ q∈kI w b mf mb,q∈k) (P:Int→Prop):
 (∃ q∈k,P q.1)↔ ∃ q∈jN w b,P q.1:=by
 constructor
 ·rintro ⟨q,hq,hp⟩; exact ⟨q,yg hf hb nf nb (h1 q hq),hp⟩
 ·rintro ⟨q,hq,hp⟩
  obtain ⟨q',hq',e,_⟩:=vo hf hb nf nb hq
  exact ⟨q',h2 q' hq',by rw [e]; exact hp⟩
theorem yA {w:bh} {b:Nat} {i:Int}:k5 w (b+1) i↔k5 w b i∨ ∃ q∈jN w b,q.1=i:=by
 unfold k5
 constructor
 ·rintro ⟨b',hb,h⟩
  rcases Nat.lt_or_ge b' b with q|q
  ·exact .inl ⟨b',q,h⟩
  ·obtain rfl:b'=b:=by omega
   exact .inr h
 ·rintro (⟨b',hb,h⟩|h)
  ·exact ⟨b',by omega,h⟩
  ·exact ⟨b,by omega,h⟩
theorem za {A:Prop} {k:List (Int×ae)} {q:Int×ae} {i:Int}:((A∨ ∃ z∈k,z.1=i)∨i=q.1)↔(A∨ ∃ z∈k++[q],z.1=i):=by
 constructor
 ·rintro ((h|⟨z,hz,h⟩)|h)
  ·exact .inl h
  ·exact .inr ⟨z,List.mem_append_left _ hz,h⟩
  ·exact .inr ⟨q,by simp,h.symm⟩
 ·rintro (h|⟨z,hz,h⟩)
  ·exact .inl (.inl h)
  ·rcases List.mem_append.1 hz with hz|hz
   ·exact .inl (.inr ⟨z,hz,h⟩)
   ·rw [List.mem_singleton.1 hz] at h; exact .inr h.symm
theorem BF {sb:Bool} {k:List (Int×ae)} {q:Int×ae} (h:sb=true↔ ∃ z∈k,0≤z.1) (hs:sb=true):(true=true)↔ ∃ z∈k++[q],0≤z.1:=⟨fun _=>by
 obtain ⟨z,hz,h0⟩:=h.1 hs
 exact ⟨z,List.mem_append_left _ hz,h0⟩,fun _=>rfl⟩
theorem Dk {sb:Bool} {k:List (Int×ae)} {q:Int×ae} (h:sb=true↔ ∃ z∈k,0≤z.1) (hs:sb=false):(decide (0≤q.1)=true)↔ ∃ z∈k++[q],0≤z.1:=by
 rw [decide_eq_true_eq]
 constructor
 ·intro h0; exact ⟨q,by simp,h0⟩
 ·rintro ⟨z,hz,h0⟩
  rcases List.mem_append.1 hz with hz|hz
  ·have:=h.2 ⟨z,hz,h0⟩; rw [hs] at this; cases this
  ·rw [List.mem_singleton.1 hz] at h0; exact h0
theorem EL:(false=true)↔ ∃ z∈([]:List (Int×ae)),0≤z.1:=by simp
theorem Bs {w:bh} {b:Nat} {sb:Bool} {k:List (Int×ae)} (h:(∃ q∈k,0≤q.1)↔ ∃ q∈jN w b,0≤q.1) (hs:sb=true↔ ∃ q∈k,0≤q.1):kj w b=sb:=by
 rw [Bool.eq_iff_iff,hs,h]
 unfold kj
 simp [List.any_eq_true]
theorem sN {n:Nat} {m:BM} {P:Int→Prop} (h:lU n m P):m.length≤n:=by
 have hp:(m.map (·.1)).Perm (((List.range n).map fun (k:Nat)=>(k:Int)).filter fun i=>decide (i∈m.map (·.1))):=sG h.nodup (List.Pairwise.filter _ (List.Pairwise.map _ (fun a b (h:a≠b)=>by show (a:Int)≠(b:Int); omega) List.nodup_range)) fun x=>by
  rw [List.mem_filter]
  constructor
  ·intro hx
   have:=(h.mem x).1 hx
   exact ⟨List.mem_map.2 ⟨x.toNat,List.mem_range.2 (by omega),by omega⟩,decide_eq_true hx⟩
  ·exact fun hx=>of_decide_eq_true hx.2
 have h1:=hp.length_eq
 have h2:=List.length_filter_le (fun i=>decide (i∈m.map (·.1))) ((List.range n).map fun (k:Nat)=>(k:Int))
 rw [List.length_map] at h1
 rw [List.length_map,List.length_range] at h2
 omega
theorem yc {l:aU} {r:bK} (h:cr l r 0=0):0≤iT (bR l r)∧iT (bR l r)≤(l.aa.length:Int):=by
 have h1:=(va (oy h)).1
 rw [fT h] at h1 ⊢
 obtain ⟨i,e,hi,_⟩:=kp.1 h1
 have hn:(aW l r).n=l.aa.length:=bI
 omega
theorem zq {w:bh} {i:Int}: ¬ k5 w 0 i:=fun ⟨b,hb,_⟩=>absurd hb (Nat.not_lt_zero _)
end
section
set_option linter.unusedVariables false
/-- a truth goes on from here -/
def o5 (w:bh) (b:Nat) (p:ao×Int):Prop:= ∃ k,b+k≤w.n∧ ∃ q∈eC w k b p,ja w q.1=true
/-- a truth may have come here, or earlier -/
def wI (w:bh) (b:Nat) (p:ao×Int):Prop:= ∃ v,(p.1,v)∈fwd w b∧v≤p.2
def Ao (n:Int) (p:ao×Int):ao×Int:=(p.1,p.2+n)
section
variable {w:bh}
theorem zy: ∀ (k j b:Nat) (p q z:ao×Int),q∈eC w k b p→z∈eC w j (b+k) q→z∈eC w (k+j) b p:=by
 intro k
 induction k with
 |zero=>
  intro j b p q z h1 h2
  simp only [eC,List.mem_singleton] at h1
  subst h1
  rw [Nat.zero_add]; exact h2
 |succ k ih=>
  intro j b p q z h1 h2
  obtain ⟨o,ho,p',e,h⟩:=fQ.1 h1
  rw [show k+1+j=(k+j)+1 by omega]
  exact fQ.2 ⟨o,ho,p',e,ih j (b+1) p' q z h (by rw [show b+1+k=b+(k+1) by omega]; exact h2)⟩
theorem wE: ∀ (k b:Nat) (t:ao) (x y:Int) (q:ao×Int),y≤x→q∈eC w k b (t,x)→ ∃ q'∈eC w k b (t,y),q'.1=q.1∧q'.2≤q.2:=by
 intro k
 induction k with
 |zero=>
  intro b t x y q hxy hq
  simp only [eC,List.mem_singleton] at hq ⊢
  subst hq
  exact ⟨_,rfl,rfl,hxy⟩
 |succ k ih=>
  intro b t x y q hxy hq
  obtain ⟨o,ho,p',e,h⟩:=fQ.1 hq
  obtain ⟨h1,rfl⟩:=eZ.1 e
  simp only at h1 h
  obtain ⟨q',hq',h2,h3⟩:=ih (b+1) _ _ (max (y+bx w b) o.2.Lo) q (by omega) h
  exact ⟨q',fQ.2 ⟨o,ho,_,eZ.2 ⟨by simp only; omega,rfl⟩,hq'⟩,h2,h3⟩
theorem sT {b:Nat} {t:ao} {x y:Int} (h:o5 w b (t,x)) (hy:y≤x):o5 w b (t,y):=by
 obtain ⟨k,hk,q,hq,hm⟩:=h
 obtain ⟨q',hq',e,_⟩:=wE k b t x y q hy hq
 exact ⟨k,hk,q',hq',by rw [e]; exact hm⟩
theorem qG {k b:Nat} {p q:ao×Int} (h:q∈eC w k b p) (hv:o5 w (b+k) q):o5 w b p:=by
 obtain ⟨j,hj,z,hz,hm⟩:=hv
 exact ⟨k+j,by omega,z,zy k j b p q z h hz,hm⟩
theorem zH {b:Nat} {p q:ao×Int} {o:Int×ae} (h:wI w b p) (ho:o∈gj w b) (e:jB w b p o=some q):wI w (b+1) q:=by
 obtain ⟨v,hv,hle⟩:=h
 obtain ⟨h1,rfl⟩:=eZ.1 e
 exact ⟨max (v+bx w b) o.2.Lo,eL.2 ⟨_,hv,o,ho,eZ.2 ⟨by simp only; omega,rfl⟩⟩,by simp only; omega⟩
theorem vk {b:Nat} {p:ao×Int} (h:p∈fwd w b):wI w b p:=⟨p.2,h,Int.le_refl _⟩
theorem uo (hl: ∀ b,0≤bx w b): ∀ (b:Nat) (p:ao×Int),p∈fwd w b→w.Start≤p.2:=by
 intro b
 induction b with
 |zero=>intro p hp; simp only [fwd,List.mem_singleton] at hp; subst hp; exact Int.le_refl _
 |succ b ih=>
  intro q hq
  obtain ⟨p,hp,o,ho,e⟩:=eL.1 hq
  obtain ⟨_,rfl⟩:=eZ.1 e
  have:=ih p hp
  have:=hl b
  simp only; omega
/-- a beam is passed at a time, by a signal -/
def tg (w:bh) (b:Nat) (s t:Int):Prop:= ∃ p∈fwd w b,∃ o∈gj w b,o.1=s∧(max (p.2+bx w b) o.2.Lo≤t∧t≤min o.2.Hi w.cI)∧o5 w (b+1) (cO p.1 (dQ o.1),t)
theorem uC (hl: ∀ b,0≤bx w b) {b:Nat} (hb:b<w.n) {s t:Int}:(∃ q∈jN w b,q.1=s∧q.2.Lo≤t∧t≤q.2.Hi)↔tg w b s t:=by
 constructor
 ·rintro ⟨q,hq,hs,h1,h2⟩
  obtain ⟨o,ho,p,hp,u,hu,e⟩:=gD.1 hq
  obtain ⟨h3,h4,rfl⟩:=iz.1 e
  simp only [iu] at h1 h2 h3
  have hn:u.2≤w.cI:=xT hl _ _ hu
  obtain ⟨k,hk,q,hq',h5⟩:=AA hl (w.n-(b+1)) (b+1) (cO p.1 (dQ o.1),t) u (by omega) (by simp only; omega) hu
  refine ⟨p,hp,o,ho,hs,⟨by omega,by omega⟩,k,hk,q,hq',?_⟩
  rw [h5]
  unfold sS at h4
  rw [show cO (cO p.1 (dQ o.1)) u.1=cO (cO p.1 u.1) (dQ o.1) by simp only [cO,ao.mk.injEq]; omega]
  exact h4
 ·rintro ⟨p,hp,o,ho,hs,⟨h1,h2⟩,k,hk,q,hq,hm⟩
  obtain ⟨u,hu,h3,h4⟩:=CU k (b+1) _ q hk (by simp only; omega) hq
  simp only at h3 h4
  refine ⟨(o.1,iu w b p u o),gD.2 ⟨o,ho,p,hp,u,hu,iz.2 ⟨by simp only [iu]; omega,?_,rfl⟩⟩,hs,by simp only [iu]; omega,by simp only [iu]; omega⟩
  unfold sS
  rw [h4] at hm
  rw [show cO (cO p.1 u.1) (dQ o.1)=cO (cO p.1 (dQ o.1)) u.1 by simp only [cO,ao.mk.injEq]; omega]
  exact hm
end
structure tD (w w':bh) (n:Int) (f:Int→Int):Prop where
 start:w'.Start=w.Start+n
 now:w'.cI=w.cI+n
 wn:w'.n=w.n
 low: ∀ b,0≤bx w b
 least: ∀ b,bx w' b=bx w b
 may: ∀ t,ja w t=true→ja w' t=true
 Iz: ∀ s,0≤f s↔0≤s
 opt: ∀ (b:Nat) (p:ao×Int) (o:Int×ae),b<w.n→w.Start≤p.2→wI w b p→o∈gj w b→max (p.2+bx w b) o.2.Lo≤min o.2.Hi w.cI→o5 w (b+1) (cO p.1 (dQ o.1),max (p.2+bx w b) o.2.Lo)→
  ∃ o'∈gj w' b,o'.1=f o.1∧ ∀ t,w.Start≤t→t≤w.cI→((o.2.Lo≤t∧t≤o.2.Hi)↔(o'.2.Lo≤t+n∧t+n≤o'.2.Hi))
section
variable {w w':bh} {n:Int} {f g:Int→Int}
theorem tD.one (h:tD w w' n f) (s:Int):dQ (f s)=dQ s:=by
 unfold dQ
 have:=h.Iz s
 by_cases q:s<0
 ·rw [if_pos q,if_pos (by omega)]
 ·rw [if_neg q,if_neg (by omega)]
theorem tD.step (h:tD w w' n f) {b:Nat} {p q:ao×Int} {o:Int×ae} (hb:b<w.n) (hs:w.Start≤p.2) (hl:wI w b p) (ho:o∈gj w b) (e:jB w b p o=some q) (hv:o5 w (b+1) q):
 ∃ o'∈gj w' b,jB w' b (Ao n p) o'=some (Ao n q):=by
 obtain ⟨h1,rfl⟩:=eZ.1 e
 obtain ⟨o',ho',e1,h2⟩:=h.opt b p o hb hs hl ho h1 hv
 have hlo:=h.low b
 have c1:=h2 (max (p.2+bx w b) o.2.Lo) (by omega) (by omega)
 have c2:=h2 (max (p.2+n+bx w b) o'.2.Lo-n) (by omega)
 refine ⟨o',ho',eZ.2 ?_⟩
 simp only [Ao,h.least,h.now]
 rw [e1,h.one]
 have d1:=c1.1 (by omega)
 have d2:=(c2 (by omega)).2 (by omega)
 refine ⟨by omega,?_⟩
 simp only [Prod.mk.injEq,true_and]
 omega
theorem tD.reach (h:tD w w' n f): ∀ (k b:Nat) (p q:ao×Int),b+k≤w.n→w.Start≤p.2→wI w b p→q∈eC w k b p→o5 w (b+k) q→Ao n q∈eC w' k b (Ao n p):=by
 intro k
 induction k with
 |zero=>
  intro b p q _ _ _ hq _
  simp only [eC,List.mem_singleton] at hq ⊢
  rw [hq]
 |succ k ih=>
  intro b p q hb hs hl hq hv
  obtain ⟨o,ho,p',e,hq'⟩:=fQ.1 hq
  have hv':o5 w (b+1) p':=qG hq' (by rw [show b+1+k=b+(k+1) by omega]; exact hv)
  obtain ⟨o',ho',e'⟩:=h.step (by omega) hs hl ho e hv'
  have h1:=eZ.1 e
  have h2:=h.low b
  exact fQ.2 ⟨o',ho',_,e',ih (b+1) p' q (by omega) (by rw [h1.2]; simp only; omega) (zH hl ho e) hq' (by rw [show b+1+k=b+(k+1) by omega]; exact hv)⟩
theorem tD.EO (h:tD w w' n f) {b:Nat} {p:ao×Int} (hs:w.Start≤p.2) (hl:wI w b p) (hv:o5 w b p):o5 w' b (Ao n p):=by
 obtain ⟨k,hk,q,hq,hm⟩:=hv
 exact ⟨k,by rw [h.wn]; exact hk,_,h.reach k b p q hk hs hl hq ⟨0,by omega,q,by simp [eC],hm⟩,h.may _ hm⟩
theorem tD.fwd (h:tD w w' n f) {b:Nat} {q:ao×Int} (hb:b≤w.n) (hq:q∈fwd w b) (hv:o5 w b q):Ao n q∈Go.Proofs.YthiigjekcdjkkaaGreat.fwd w' b:=by
 obtain ⟨p,hp,hr⟩:=(oK b 0 q).1 (by rw [Nat.zero_add]; exact hq)
 have hr':=h.reach b 0 p q (by omega) (uo h.low 0 p hp) (vk hp) hr (by rw [Nat.zero_add]; exact hv)
 have:Ao n p∈Go.Proofs.YthiigjekcdjkkaaGreat.fwd w' 0:=by
  simp only [Go.Proofs.YthiigjekcdjkkaaGreat.fwd,List.mem_singleton] at hp ⊢
  subst hp
  rw [h.start]; rfl
 have h2:=(oK b 0 (Ao n q)).2 ⟨_,this,hr'⟩
 rwa [Nat.zero_add] at h2
theorem tD.any (h:tD w w' n f) {b:Nat} (hb:b≤w.n) (hm:gN w (Go.Proofs.YthiigjekcdjkkaaGreat.fwd w b)=true):gN w' (Go.Proofs.YthiigjekcdjkkaaGreat.fwd w' b)=true:=by
 unfold gN at hm ⊢
 obtain ⟨p,hp,h1⟩:=List.any_eq_true.1 hm
 exact List.any_eq_true.2 ⟨_,h.fwd hb hp ⟨0,by omega,p,by simp [eC],h1⟩,h.may _ h1⟩
theorem tD.pass (h:tD w w' n f) {b:Nat} (hb:b<w.n) {s t:Int} (hp:tg w b s t):tg w' b (f s) (t+n):=by
 obtain ⟨p,hp,o,ho,rfl,⟨h1,h2⟩,hv⟩:=hp
 have hs:=uo h.low b p hp
 have hl:=h.low b
 have hv1:o5 w (b+1) (cO p.1 (dQ o.1),max (p.2+bx w b) o.2.Lo):=sT hv h1
 have e:jB w b p o=some (cO p.1 (dQ o.1),max (p.2+bx w b) o.2.Lo):=eZ.2 ⟨by omega,rfl⟩
 have hvp:o5 w b p:=qG (k:=1) (fQ.2 ⟨o,ho,_,e,by simp [eC]⟩) hv1
 obtain ⟨o',ho',e1,h3⟩:=h.opt b p o hb hs (vk hp) ho (by omega) hv1
 have c:=(h3 t (by omega) (by omega)).1 (by omega)
 refine ⟨Ao n p,h.fwd (by omega) hp hvp,o',ho',e1,?_,?_⟩
 ·simp only [Ao,h.least,h.now]; omega
 ·have h4:=h.EO (b:=b+1) (p:=(cO p.1 (dQ o.1),t)) (by simp only; omega) ⟨_,eL.2 ⟨p,hp,o,ho,e⟩,h1⟩ hv
  rw [e1,h.one]; exact h4
theorem AS (h:tD w w' n f) (h':tD w' w (-n) g):eb w'=eb w:=by
 unfold eb
 rw [h.wn]
 unfold eJ
 congr 1
 refine List.filter_congr fun b hb=>?_
 have hb:=List.mem_range.1 hb
 rw [Bool.eq_iff_iff]
 exact ⟨h'.any (by rw [h.wn]; omega),h.any (by omega)⟩
theorem wH (h:tD w w' n f) (hl': ∀ b,0≤bx w' b) {b:Nat} (hb:b<w.n) {s:Int} (hq: ∃ q∈jN w b,q.1=s): ∃ q∈jN w' b,q.1=f s:=by
 obtain ⟨q,hq,e⟩:=hq
 have hle:q.2.Lo≤q.2.Hi:=kN hq
 obtain ⟨q',hq',e',_⟩:=(uC hl' (by rw [h.wn]; exact hb)).2 (h.pass hb ((uC h.low hb).1 ⟨q,hq,e,Int.le_refl _,hle⟩))
 exact ⟨q',hq',e'⟩
theorem zx (h:tD w w' n f) (h':tD w' w (-n) g) {b:Nat} (hb:b<w.n):kj w' b=kj w b:=by
 rw [Bool.eq_iff_iff]
 unfold kj
 simp only [List.any_eq_true,decide_eq_true_eq]
 constructor
 ·rintro ⟨q,hq,h0⟩
  obtain ⟨q',hq',e⟩:=wH h' h.low (by rw [h.wn]; exact hb) ⟨q,hq,rfl⟩
  exact ⟨q',hq',by rw [e]; exact (h'.Iz _).2 h0⟩
 ·rintro ⟨q,hq,h0⟩
  obtain ⟨q',hq',e⟩:=wH h h'.low hb ⟨q,hq,rfl⟩
  exact ⟨q',hq',by rw [e]; exact (h.Iz _).2 h0⟩
end
section
variable {l l':aU} {r r':bK} {n:Int} {f g:Int→Int}
structure rk (l:aU) (r:bK) (l':aU) (r':bK) (n:Int) (f g:Int→Int):Prop where
 line:dk l=0
 line':dk l'=0
 tJ:cN l r
 ride':cN l' r'
 DD:l'.aa.length=l.aa.length
 to:tD (aW l r) (aW l' r') n f
 Ju:tD (aW l' r') (aW l r) (-n) g
theorem rk.zM (h:rk l r l' r' n f g):eb (aW l' r')=eb (aW l r):=AS h.to h.Ju
theorem rk.e (h:rk l r l' r' n f g) {me:Int}:cr l' r' me=cr l r me:=by
 by_cases hm:me=0
 ·by_cases q:eb (aW l r)=[]
  ·rw [c_ h.line h.tJ hm q,c_ h.line' h.ride' hm (h.zM.trans q)]
  ·rw [ke h.line h.tJ hm q,ke h.line' h.ride' hm (by rw [h.zM]; exact q)]
 ·rw [dE h.line h.tJ hm,dE h.line' h.ride' hm]
theorem rk.xe (h:rk l r l' r' n f g):bR l' r'=bR l r:=by
 by_cases q:cr l r 0=0
 ·rw [fT q,fT (h.e.trans q),h.zM]
 ·rw [iS q,iS (by rw [h.e]; exact q)]
theorem rk.jT (h:rk l r l' r' n f g) {b:Int}:dU l' b=dU l b:=by unfold dU; rw [h.DD]
theorem rk.bn (h:rk l r l' r' n f g):(aW l r).n=l.aa.length:=bI
theorem rk.de (h:rk l r l' r' n f g):fr l' r'=fr l r:=by
 by_cases q:cr l r 0=0
 ·rw [lu q,lu (h.e.trans q),h.xe]
  have hb:=yc q
  unfold e8
  congr 1
  refine List.filter_congr fun b hb2=>?_
  have hb2:=List.mem_range.1 hb2
  rw [zx h.to h.Ju (by rw [h.bn]; omega)]
 ·rw [hG q,hG (by rw [h.e]; exact q)]
end
theorem s_ {l:aU} {r:bK}:(ik l r).length≤r.ab.length:=by
 by_cases h:cr l r 0=0
 ·rw [ql h]
  unfold kH
  exact Nat.le_trans (List.length_filter_le _ _) (by simp)
 ·rw [jY h]; exact Nat.zero_le _
theorem qV {l:aU} {r:bK}:(fr l r).length≤100:=by
 by_cases h:cr l r 0=0
 ·rw [lu h]
  have h1:=yc h
  have h2:=(di (dW h).1).2.head
  unfold cS at h2
  have h3:=mS (w:=aW l r) (k:=(iT (bR l r)).toNat)
  omega
 ·rw [hG h]; simp
end
section
set_option linter.unusedVariables false
theorem kR {l:aU} (ht:cj l.al=true) (h:kd l) {i:Nat} (hi:i<l.aa.length):1≤df l i∧df l i≤500000000:=by
 have h2:=h.tx i hi
 have h3:=vH ht h.jT i
 have hf:=h.head.1
 unfold df kW
 refine ⟨(Int.le_ediv_iff_mul_le (by omega)).2 (by omega),?_⟩
 have:(1000*kg l i+l.bw-1)/l.bw≤1000*kg l i+l.bw-1:=Int.ediv_le_self _ (by omega)
 omega
end
section
set_option linter.unusedVariables false
def cJ (good:List Int):ao:=good.foldl (fun t g=>cO t (dQ g)) ⟨0,0⟩
theorem iB {l:List Int} {g:Int}:cJ (l++[g])=cO (cJ l) (dQ g):=by unfold cJ; rw [List.foldl_append]; rfl
def pL (r:bK) (times:List Int) (b:Nat):Int:=if b=0 then r.Start else (times[b-1]?).getD 0
theorem mG {r:bK} {times:List Int} {b:Nat} {t:Int} (h:times[b]? =some t):pL r times (b+1)=t:=by unfold pL; rw [if_neg (by omega),Nat.add_sub_cancel,h]; rfl
structure gQ (l:aU) (r:bK) (times good:List Int):Prop where
 tJ:cN l r
 len:good.length=times.length
 le:times.length≤l.aa.length
 step: ∀ (b:Nat) t,times[b]? =some t→pL r times b+df l b≤t∧t≤r.cI
 sig: ∀ (b:Nat) t g,times[b]? =some t→good[b]? =some g→g= -1∨ ∃ (k:Nat) (s:aw),g=(k:Int)∧r.ab[k]? =some s∧s.cU=(b:Int)∧(bT l s).Lo≤t∧t≤(bT l s).Hi
 Bo:(cJ good).de≤l.aJ
 GL:(r.ab.length:Int)-(cJ good).right≤l.aV
section
variable {l:aU} {r:bK} {times good:List Int}
theorem gQ.low (h:gQ l r times good) (hl:dk l=0): ∀ b,0≤bx (aW l r) b:=fun b=>by
 obtain ⟨ht,hok⟩:=di hl
 exact ((jf ht hok h.tJ).bx b).1
theorem gQ.least (h:gQ l r times good) {b:Nat} (hb:b<times.length):bx (aW l r) b=df l b:=by
 have:=h.le
 rw [uy,if_pos (by omega)]
theorem gQ.from_ (h:gQ l r times good) (hl:dk l=0): ∀ b:Nat,b≤times.length→r.Start≤pL r times b∧pL r times b≤r.cI:=by
 intro b
 induction b with
 |zero=>intro _; have:=h.tJ.time; unfold pL; rw [if_pos rfl]; omega
 |succ b ih=>
  intro hb
  have ht:times[b]? =some (times[b]'(by omega)):=List.getElem?_eq_getElem _
  have h1:=ih (by omega)
  have h2:=h.step b _ ht
  have h3:=h.low hl b
  rw [h.least (by omega)] at h3
  rw [mG ht]
  omega
/-- what comes next, in the truth -/
theorem gQ.opt (h:gQ l r times good) (hl:dk l=0) {b:Nat} {t g:Int} (ht:times[b]? =some t) (hg:good[b]? =some g): ∃ o∈gj (aW l r) b,o.1=g∧o.2.Lo≤t∧t≤o.2.Hi:=by
 have hb:=(List.getElem?_eq_some_iff.1 ht).1
 have h1:=h.le
 have h2:=h.step b t ht
 have h3:=h.from_ hl b (by omega)
 have h4:=h.low hl b
 rw [h.least hb] at h4
 rcases h.sig b t g ht hg with rfl|⟨k,s,rfl,hs,hbm,h5,h6⟩
 ·exact ⟨(-1,⟨r.Start,r.cI⟩),(oa (by omega)).2 (.inl rfl),rfl,by simp only; omega,by simp only; omega⟩
 ·exact ⟨((k:Int),bT l s),(oa (by omega)).2 (.inr ⟨k,(List.getElem?_eq_some_iff.1 hs).1,s,hs,⟨hbm,by omega⟩,rfl⟩),rfl,h5,h6⟩
theorem du {α:Type} {l:List α} {b:Nat} {x:α} (h:l[b]? =some x):l.take (b+1)=l.take b++[x]:=by rw [List.take_add_one,h]; rfl
theorem gQ.live (h:gQ l r times good) (hl:dk l=0): ∀ b:Nat,b≤times.length→wI (aW l r) b (cJ (good.take b),pL r times b):=by
 intro b
 induction b with
 |zero=>intro _; exact ⟨r.Start,by simp [fwd,cJ]; rfl,by unfold pL; rw [if_pos rfl]; exact Int.le_refl _⟩
 |succ b ih=>
  intro hb
  have h0:=h.len
  have ht:times[b]? =some (times[b]'(by omega)):=List.getElem?_eq_getElem _
  have hg:good[b]? =some (good[b]'(by omega)):=List.getElem?_eq_getElem _
  obtain ⟨v,hv,hle⟩:=ih (by omega)
  obtain ⟨o,ho,e,h1,h2⟩:=h.opt hl ht hg
  have h3:=h.step b _ ht
  have h4:=h.least (b:=b) (by omega)
  simp only at hle hv
  rw [mG ht,du hg,iB,← e]
  refine ⟨max (v+bx (aW l r) b) o.2.Lo,eL.2 ⟨_,hv,o,ho,eZ.2 ⟨?_,rfl⟩⟩,?_⟩
  ·have h5:(aW l r).cI=r.cI:=rfl
   simp only; omega
  ·simp only; omega
theorem gQ.EO (h:gQ l r times good) (hl:dk l=0): ∀ (d b:Nat),b+d=times.length→o5 (aW l r) b (cJ (good.take b),pL r times b):=by
 intro d
 induction d with
 |zero=>
  intro b hb
  have hn:(aW l r).n=l.aa.length:=bI
  have h0:=h.len
  have h1:=h.le
  refine ⟨0,by omega,_,by simp [eC]; rfl,?_⟩
  rw [List.take_of_length_le (by omega)]
  unfold ja
  have h2:=h.Bo
  have h3:=h.GL
  exact decide_eq_true ⟨h2,h3⟩
 |succ d ih=>
  intro b hb
  have h0:=h.len
  have ht:times[b]? =some (times[b]'(by omega)):=List.getElem?_eq_getElem _
  have hg:good[b]? =some (good[b]'(by omega)):=List.getElem?_eq_getElem _
  obtain ⟨o,ho,e,h1,h2⟩:=h.opt hl ht hg
  have h3:=h.step b _ ht
  have h4:=h.least (b:=b) (by omega)
  have h5:(aW l r).cI=r.cI:=rfl
  have hv:=ih (b+1) (by omega)
  rw [mG ht,du hg,iB,← e] at hv
  exact qG (k:=1) (fQ.2 ⟨o,ho,_,eZ.2 ⟨by first|omega|(simp only; omega),rfl⟩,by simp [eC]; rfl⟩) (sT hv (by first|omega|(simp only; omega)))
theorem gQ.pass (h:gQ l r times good) (hl:dk l=0) {b:Nat} {t g:Int} (ht:times[b]? =some t) (hg:good[b]? =some g):tg (aW l r) b g t:=by
 have hb:=(List.getElem?_eq_some_iff.1 ht).1
 obtain ⟨v,hv,hle⟩:=h.live hl b (by omega)
 obtain ⟨o,ho,e,h1,h2⟩:=h.opt hl ht hg
 have h3:=h.step b _ ht
 have h4:=h.least (b:=b) hb
 have h5:(aW l r).cI=r.cI:=rfl
 have hw:=h.EO hl (times.length-(b+1)) (b+1) (by omega)
 rw [mG ht,du hg,iB,← e] at hw
 simp only at hle
 exact ⟨_,hv,o,ho,e,⟨by simp only; omega,by omega⟩,hw⟩
theorem gQ.num (h:gQ l r times good) (hl:dk l=0):(times.length:Int)∈eb (aW l r):=by
 obtain ⟨v,hv,_⟩:=h.live hl times.length (Nat.le_refl _)
 have hn:(aW l r).n=l.aa.length:=bI
 have h1:=h.le
 refine kp.2 ⟨times.length,rfl,by omega,?_⟩
 unfold gN
 refine List.any_eq_true.2 ⟨_,hv,?_⟩
 have h0:=h.len
 rw [List.take_of_length_le (by omega)]
 unfold ja
 exact decide_eq_true ⟨h.Bo,h.GL⟩
theorem gQ.e (h:gQ l r times good) (hl:dk l=0):cr l r 0=0:=ke hl h.tJ rfl fun e=>by have:=h.num hl; rw [e] at this; cases this
theorem gQ.xe (h:gQ l r times good) (hl:dk l=0):(times.length:Int)∈bR l r:=by rw [fT (h.e hl)]; exact h.num hl
end
end
end Go.Proofs.YthiigjekcdjkkaaGreat
