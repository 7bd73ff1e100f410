/-
 The statement raceRide_said, part 4 of 7: Short, Grow, Global, RunA, Tab, Run, Comp, Ret, LoopK, MapK, Watch, Passes, Keys, MapR, RangeG, Nest, WMaps, WBounds, PassG, Drop, Spot, First, Line, Wrap, Goes, OpenW, Wheres, ExL6, LineR, Race, RaceS, Vals, RaceO, Ord, Rev, RaceV.
 Conditions: none.
-/
import Derived.Test.YtlajhejcfcoddaaGreatDoorTz1
import Derived.Test.YtlajhejcfcoddaaGreatDoorTz2
import Derived.Test.YtlajhejcfcoddaaGreatDoorTz3
import Derived.Test.YtlajhejcfcoddaaGreatDoorProg
import Derived.KernelRfl
import Derived.WideKeyRuns
namespace Go.Proofs.YtlajhejcfcoddaaGreatDoor
set_option maxRecDepth 100000
set_option maxHeartbeats 4000000
set_option linter.unusedVariables false
section
open Go.RowKit
/-- an operation that hands v to its slot d -/
structure SE (E:eD) (ops:Array Oper) (o:Oper) (D:gj) (L:cY) (C:List aq) (v:Value) (d:Nat):Prop where
 h:SD E ops o D L C v
 o:o.dst=some d
 n:Nat.blt d E.n=true
theorem rS {E:eD} {ops:Array Oper} {Q:cP} {o:Oper} {rest:List Oper} {D:gj} {L:cY} {C:List aq} {v:Value} {d:Nat}
 (h:SE E ops o D L C v d) (k:RJ E ops Q rest D ((d,v)::L) C):RJ E ops Q (o::rest) D L C:=ME h.h h.o h.n k
theorem dS {E:eD} {ops:Array Oper} {F:cY→Prop} {o:Oper} {rest:List Oper} {D:gj} {L:cY} {C:List aq} {v:Value} {d:Nat}
 (h:SE E ops o D L C v d) (k:DJ E ops D C F rest ((d,v)::L)):DJ E ops D C F (o::rest) L:=NN h.h h.o h.n k
theorem eS {E:eD} {ops:Array Oper} {D:gj} {C' C1:List aq} {F:cY→Prop} {bs:List Bool} {o:Oper} {l rest:List Oper} {L:cY} {v:Value} {d:Nat}
 (hl:l=o::rest) (h:SE E ops o D L C' v d) (k:oh E ops D C' C1 F bs rest ((d,v)::L)):oh E ops D C' C1 F (false::bs) l L:=M1 h.h hl h.o h.n k
theorem fS {E:eD} {ops:Array Oper} {D:gj} {C' C1:List aq} {F:cY→Prop} {bs:List Bool} {o:Oper} {l rest:List Oper} {L:cY} {v:Value} {d:Nat}
 (hl:l=o::rest) (h:SE E ops o D L C1 v d) (k:oh E ops D C' C1 F bs rest ((d,v)::L)):oh E ops D C' C1 F (true::bs) l L:=Mn h.h hl h.o h.n k
def gB (n:Nat) (ops:Array Oper) (L:cY) (d:Nat) (g:Option (Nat×Bool)):Bool:=iK ops L g&&Nat.blt d n
theorem Km {n:Nat} {ops:Array Oper} {L:cY} {d:Nat} {g:Option (Nat×Bool)} (h:gB n ops L d g=true):iK ops L g=true:=by
 unfold gB at h; rw [dL] at h; exact h.1
theorem Ke {n:Nat} {ops:Array Oper} {L:cY} {d:Nat} {g:Option (Nat×Bool)} (h:gB n ops L d g=true):Nat.blt d n=true:=by
 unfold gB at h; rw [dL] at h; exact h.2
def vF (n:Nat) (ops:Array Oper) (L:cY) (d:Nat) (g:Option (Nat×Bool)) (x:Operand):Option Value:=match gB n ops L d g with
 |true=>ev L x
 |false=>none
def bF (n:Nat) (ops:Array Oper) (L:cY) (d:Nat) (g:Option (Nat×Bool)) (x y:Operand):Option (Value×Value):=match gB n ops L d g with
 |true=>match ev L x,ev L y with
  |some u,some v=>some (u,v)
  |_,_=>none
 |false=>none
def pF (n:Nat) (ops:Array Oper) (L:cY) (d:Nat) (g:Option (Nat×Bool)) (c x y:Operand):Option Value:=match gB n ops L d g with
 |true=>match ev L c with
  |some (.bool true)=>ev L x
  |some (.bool false)=>ev L y
  |_=>none
 |false=>none
def xF (n:Nat) (ops:Array Oper) (L:cY) (d:Nat) (g:Option (Nat×Bool)) (x:Operand) (i:Nat):Option Value:=match vF n ops L d g x with
 |some (.tuple vs)=>vs.toList[i]?
 |_=>none
def uF (n:Nat) (ops:Array Oper) (L:cY) (d:Nat) (g:Option (Nat×Bool)) (xs ys:List Operand):Option (List Value×List Value):=match gB n ops L d g with
 |true=>match evs L xs,evs L ys with
  |some u,some v=>some (u,v)
  |_,_=>none
 |false=>none
def cF (n:Nat) (ops:Array Oper) (L:cY) (d:Nat) (g:Option (Nat×Bool)) (fop:Operand) (xs:List Operand):Option (FuncId×List Value):=match gB n ops L d g with
 |true=>match ev L fop,evs L xs with
  |some (.func (.func f) fi ca),some vs=>some (f,fi.toList++vs++ca.toList)
  |_,_=>none
 |false=>none
theorem ib {n:Nat} {ops:Array Oper} {L:cY} {d:Nat} {g:Option (Nat×Bool)} {x:Operand} {v:Value} (h:vF n ops L d g x=some v):iK ops L g=true∧Nat.blt d n=true∧ev L x=some v:=by
 unfold vF at h
 split at h
 ·rename_i hb; exact ⟨Km hb,Ke hb,h⟩
 ·cases h
theorem oB {n:Nat} {ops:Array Oper} {L:cY} {d:Nat} {g:Option (Nat×Bool)} {x y:Operand} {u v:Value} (h:bF n ops L d g x y=some (u,v)):iK ops L g=true∧Nat.blt d n=true∧ev L x=some u∧ev L y=some v:=by
 unfold bF at h
 split at h
 ·rename_i hb
  split at h
  ·rename_i hx hy; cases h; exact ⟨Km hb,Ke hb,hx,hy⟩
  ·cases h
 ·cases h
theorem LA {n:Nat} {ops:Array Oper} {L:cY} {d:Nat} {g:Option (Nat×Bool)} {x y:List Operand} {u v:List Value} (h:uF n ops L d g x y=some (u,v)):iK ops L g=true∧Nat.blt d n=true∧evs L x=some u∧evs L y=some v:=by
 unfold uF at h
 split at h
 ·rename_i hb
  split at h
  ·rename_i hx hy; cases h; exact ⟨Km hb,Ke hb,hx,hy⟩
  ·cases h
 ·cases h
section
variable {E:eD} {ops:Array Oper} {Q:cP} {rest:List Oper} {D:List Deferred} {L:List (Nat×Value)} {C:List aq}
variable {d:Nat} {ty:TypeId} {ps:String} {af:Array Edge} {g:Option (Nat×Bool)}
theorem SX {o:Oper} {v:Value} (h:SD E ops o D L C v) (ho:o.dst=some d) (hd:Nat.blt d E.n=true):SE E ops o D L C v d:=⟨h,ho,hd⟩
theorem MV {x:Operand} {v:Value} (h:vF E.n ops L d g x=some v):SE E ops ⟨some d,.move x,ty,ps,af,g⟩ D L C v d:=by
 obtain ⟨A,B,F⟩:=ib h; exact ⟨BD A F,rfl,B⟩
theorem AG {x:Operand} {v:Value} (h:vF E.n ops L d g x=some v):SE E ops ⟨some d,.assign x,ty,ps,af,g⟩ D L C v d:=by
 obtain ⟨A,B,F⟩:=ib h; exact ⟨vh A F,rfl,B⟩
theorem OX {op:Op} (h:(zE ops L g&&Nat.blt d E.n)=true):SE E ops ⟨some d,op,ty,ps,af,g⟩ D L C undef d:=by
 rw [dL] at h; exact ⟨Fh h.1,rfl,h.2⟩
theorem NT {xt:TypeId} {x:Operand} {b:Bool} (h:vF E.n ops L d g x=some (.bool b)):SE E ops ⟨some d,.unOp .not xt x,ty,ps,af,g⟩ D L C (.bool !b) d:=by
 obtain ⟨A,B,F⟩:=ib h; exact ⟨GM A F,rfl,B⟩
theorem NG {xt:TypeId} {x:Operand} {n:Int} (h:vF E.n ops L d g x=some (.int .i64 n)) (hb:oZ (-n)):SE E ops ⟨some d,.unOp .neg xt x,ty,ps,af,g⟩ D L C (.int .i64 (-n)) d:=by
 obtain ⟨A,B,F⟩:=ib h; exact ⟨KY A F hb,rfl,B⟩
theorem PK {c x y:Operand} {v:Value} (h:pF E.n ops L d g c x y=some v):SE E ops ⟨some d,.pick c x y,ty,ps,af,g⟩ D L C v d:=by
 unfold pF at h
 split at h
 ·rename_i hb
  split at h
  ·rename_i hc; exact ⟨vK (Km hb) hc h,rfl,Ke hb⟩
  ·rename_i hc; exact ⟨vz (Km hb) hc h,rfl,Ke hb⟩
  ·cases h
 ·cases h
theorem EX {x:Operand} {i:Nat} {v:Value} (h:xF E.n ops L d g x i=some v):SE E ops ⟨some d,.extract x i,ty,ps,af,g⟩ D L C v d:=by
 unfold xF at h
 split at h
 ·rename_i vs hv
  obtain ⟨A,B,F⟩:=ib hv
  exact ⟨tJ (vs:=vs.toList) A (by simpa using F) h,U,B⟩
 ·cases h
theorem LN {x:Operand} {t e:TypeId} {A:OA} {n c:Nat} (h:vF E.n ops L d g x=some (.slice A n c)) (ht:E.P.underlying t=some (.slice e)):
 SE E ops ⟨some d,.call {callee:= .builtin .len,args:= #[x],argTypes:= #[t]},ty,ps,af,g⟩ D L C (.int .i64 n) d:=by
 obtain ⟨B,F,G⟩:=ib h; exact ⟨EI B G ht,rfl,F⟩
theorem BI {op:BinOp} {xt yt:TypeId} {x y:Operand} {u v r:Value} (h:bF E.n ops L d g x y=some (u,v)) (hb:gO E.P op xt x y u v r):SE E ops ⟨some d,.binOp op xt x y yt,ty,ps,af,g⟩ D L C r d:=by
 obtain ⟨A,B,F,G⟩:=oB h; exact ⟨bP A F G hb,rfl,B⟩
theorem MN {x y:Operand} {ts:Array TypeId} {a b:Int} {k:IntKind} (h:bF E.n ops L d g x y=some (.int k a,.int k b)):
 SE E ops ⟨some d,.call {callee:= .builtin .min,args:= #[x,y],argTypes:=ts},ty,ps,af,g⟩ D L C (.int k (min a b)) d:=by
 obtain ⟨A,B,F,G⟩:=oB h; exact ⟨Lr A F G,rfl,B⟩
theorem MX {x y:Operand} {ts:Array TypeId} {a b:Int} {k:IntKind} (h:bF E.n ops L d g x y=some (.int k a,.int k b)):
 SE E ops ⟨some d,.call {callee:= .builtin .max,args:= #[x,y],argTypes:=ts},ty,ps,af,g⟩ D L C (.int k (max a b)) d:=by
 obtain ⟨A,B,F,G⟩:=oB h; exact ⟨Lv A F G,rfl,B⟩
theorem FA (o':Nat) {x:Operand} {b o s f k:Nat} (h:vF E.n ops L d g x=some (.pointer (some ⟨b,o,none⟩))) (hf:p_ E.P s f=some k) (ho:o+k=o'):
 SE E ops ⟨some d,.fieldAddr s x f,ty,ps,af,g⟩ D L C (.pointer (some ⟨b,o',none⟩)) d:=by
 obtain ⟨A,B,F⟩:=ib h; exact ⟨Kq A F hf ho,rfl,B⟩
theorem pt (k':Nat) {x:Operand} {A:OA} {n sz:Nat} {es:List (List Value)} {k0 s f k:Nat} (h:vF E.n ops L d g x=some (.pointer (kz A k0))) (hR:ju C (rd A n sz es).holds) (hn:0<n*sz)
 (hf:p_ E.P s f=some k) (ho:k0+k=k'):SE E ops ⟨some d,.fieldAddr s x f,ty,ps,af,g⟩ D L C (.pointer (kz A k')) d:=by
 obtain ⟨B,F,G⟩:=ib h; exact ⟨GP B G hR hn hf ho,rfl,F⟩
theorem PU (k':Nat) {x:Operand} {A:OA} {ad:Addr} {k0 s f k:Nat} (h:vF E.n ops L d g x=some (.pointer (kz A k0))) (hA:A=some ad)
 (hf:p_ E.P s f=some k) (ho:k0+k=k'):SE E ops ⟨some d,.fieldAddr s x f,ty,ps,af,g⟩ D L C (.pointer (kz A k')) d:=by
 obtain ⟨B,F,G⟩:=ib h; exact ⟨EC B G hA hf ho,rfl,F⟩
theorem IA (k:Nat) {x ix:Operand} {A:OA} {n c sz e t:Nat} {es:List (List Value)} {j:Int} (h:bF E.n ops L d g x ix=some (.slice A n c,.int .i64 j)) (hR:ju C (rd A n sz es).holds)
 (ht:tE E.P t=some (e,sz)) (hz:0<sz) (hj:j=(k:Int)) (hk:k<n):SE E ops ⟨some d,.indexAddr t x ix,ty,ps,af,g⟩ D L C (.pointer (kz A (k*sz))) d:=by
 obtain ⟨B,F,G,H⟩:=oB h; exact ⟨Nk B G H hR ht hz hj hk,rfl,F⟩
theorem Ow (k o':Nat) {x ix:Operand} {b o n c sz e t:Nat} {j:Int} (h:bF E.n ops L d g x ix=some (.slice (some ⟨b,o,none⟩) n c,.int .i64 j))
 (ht:tE E.P t=some (e,sz)) (hj:j=(k:Int)) (hk:k<n) (ho:o+k*sz=o'):SE E ops ⟨some d,.indexAddr t x ix,ty,ps,af,g⟩ D L C (.pointer (some ⟨b,o',none⟩)) d:=by
 obtain ⟨A,B,F,G⟩:=oB h; exact ⟨Jt A F G ht hj hk ho,rfl,B⟩
/-- the whole of a block, a part of it, one cell -/
theorem LW (i:Nat) {x:Operand} {b t tt n:Nat} {cs:List Value} (h:vF E.n ops L d g x=some (.pointer (some ⟨b,0,none⟩))) (ht:tK E.P t=some (true,n)) (hC:C[i]? =some (bQ b tt cs)) (hn:cs.length=n):
 SE E ops ⟨some d,.load t x,ty,ps,af,g⟩ D L C (.agg cs.toArray) d:=by
 obtain ⟨A,B,F⟩:=ib h; exact ⟨tf A F ht (nU i hC sm) hn,rfl,B⟩
theorem LP (vs:List Value) (i:Nat) {x:Operand} {b o t tt n:Nat} {cs:List Value} (h:vF E.n ops L d g x=some (.pointer (some ⟨b,o,none⟩))) (ht:tK E.P t=some (true,n)) (hC:C[i]? =some (bQ b tt cs)) (hv:(cs.drop o).take vs.length=vs) (hn:vs.length=n):
 SE E ops ⟨some d,.load t x,ty,ps,af,g⟩ D L C (.agg vs.toArray) d:=by
 obtain ⟨A,B,F⟩:=ib h; exact ⟨tf A F ht (nU i hC hv) hn,rfl,B⟩
theorem P_ (vs:List Value) (i:Nat) {x:Operand} {b o t tt n:Nat} {cs:List Value} (h:vF E.n ops L d g x=some (.pointer (some ⟨b,o,none⟩))) (ht:tK E.P t=some (true,n)) (hC:C[i]? =some (bQ b tt cs).ro) (hv:(cs.drop o).take vs.length=vs) (hn:vs.length=n):
 SE E ops ⟨some d,.load t x,ty,ps,af,g⟩ D L C (.agg vs.toArray) d:=by
 obtain ⟨A,B,F⟩:=ib h; exact ⟨tf A F ht (sS i hC hv) hn,rfl,B⟩
theorem L1 (v:Value) (i:Nat) {x:Operand} {b o t tt n:Nat} {cs:List Value} (h:vF E.n ops L d g x=some (.pointer (some ⟨b,o,none⟩))) (ht:tK E.P t=some (false,n)) (hC:C[i]? =some (bQ b tt cs)) (hv:(cs.drop o).take 1=[v]):
 SE E ops ⟨some d,.load t x,ty,ps,af,g⟩ D L C v d:=by
 obtain ⟨A,B,F⟩:=ib h; exact ⟨qO A F ht (nU i hC hv),rfl,B⟩
theorem Eh (v:Value) (i:Nat) {x:Operand} {b o t tt n:Nat} {cs:List Value} (h:vF E.n ops L d g x=some (.pointer (some ⟨b,o,none⟩))) (ht:tK E.P t=some (false,n)) (hC:C[i]? =some (bQ b tt cs).ro) (hv:(cs.drop o).take 1=[v]):
 SE E ops ⟨some d,.load t x,ty,ps,af,g⟩ D L C v d:=by
 obtain ⟨A,B,F⟩:=ib h; exact ⟨qO A F ht (sS i hC hv),rfl,B⟩
theorem zU (i:Nat) {x:Operand} {b t tt n:Nat} {v:Value} (h:vF E.n ops L d g x=some (.pointer (some ⟨b,0,none⟩))) (ht:tK E.P t=some (false,n)) (hC:C[i]? =some (bQ b tt [v])):
 SE E ops ⟨some d,.load t x,ty,ps,af,g⟩ D L C v d:=by
 obtain ⟨A,B,F⟩:=ib h; exact ⟨qO A F ht (nU i hC rfl),rfl,B⟩
theorem Ox (i:Nat) {x:Operand} {b t tt n:Nat} {v:Value} (h:vF E.n ops L d g x=some (.pointer (some ⟨b,0,none⟩))) (ht:tK E.P t=some (false,n)) (hC:C[i]? =some (bQ b tt [v]).ro):
 SE E ops ⟨some d,.load t x,ty,ps,af,g⟩ D L C v d:=by
 obtain ⟨A,B,F⟩:=ib h; exact ⟨qO A F ht (sS i hC rfl),rfl,B⟩
/-- what is read of a row -/
theorem g_ (k o:Nat) (v:Value) {x:Operand} {A:OA} {t m n sz:Nat} {es:List (List Value)} {e:List Value} (h:vF E.n ops L d g x=some (.pointer (kz A m))) {nn:Nat} (ht:tK E.P t=some (false,nn)) (hR:ju C (rd A n sz es).holds) (he:es[k]? =some e) (hm:m=k*sz+o) (hz:0<sz) (hv:(e.drop o).take 1=[v]):
 SE E ops ⟨some d,.load t x,ty,ps,af,g⟩ D L C v d:=by
 obtain ⟨B,F,G⟩:=ib h; exact ⟨qO B G ht (Kh hR he hm hz hv),rfl,F⟩
theorem n9 (k o:Nat) (vs:List Value) {x:Operand} {A:OA} {t m n sz:Nat} {es:List (List Value)} {e:List Value} (h:vF E.n ops L d g x=some (.pointer (kz A m))) {nn:Nat} (ht:tK E.P t=some (true,nn)) (hR:ju C (rd A n sz es).holds) (he:es[k]? =some e) (hm:m=k*sz+o) (hz:0<sz) (hv:(e.drop o).take vs.length=vs) (hn:vs.length=nn):
 SE E ops ⟨some d,.load t x,ty,ps,af,g⟩ D L C (.agg vs.toArray) d:=by
 obtain ⟨B,F,G⟩:=ib h; exact ⟨tf B G ht (Kh hR he hm hz hv) hn,rfl,F⟩
theorem CL {fop:Operand} {xs:Array Operand} {ts:Array TypeId} {f:FuncId} {args:List Value} {Cp:List aq} {v:Value} (c:dR E.P f args Cp v) (hC:jv C Cp) (h:cF E.n ops L d g fop xs.toList=some (f,args)):
 SE E ops ⟨some d,.call {callee:= .value fop,args:=xs,argTypes:=ts},ty,ps,af,g⟩ D L C v d:=by
 unfold cF at h
 split at h
 ·rename_i hb
  split at h
  ·rename_i hf hx; cases h; exact ⟨BY (Km hb) hf hx rfl c hC,rfl,Ke hb⟩
  ·cases h
 ·cases h
theorem FU {fn:Fn} {xs ys:Array Operand} {us vs:List Value} (h:uF E.n ops L d g xs.toList ys.toList=some (us,vs)):SE E ops ⟨some d,.makeFunc fn xs ys,ty,ps,af,g⟩ D L C (.func fn us.toArray vs.toArray) d:=by
 obtain ⟨A,B,F,G⟩:=LA h; exact ⟨I6 A F G,rfl,B⟩
theorem cX {fop:Operand} {xs:Array Operand} {ts:Array TypeId} {f:FuncId} {args:List Value} {Cp:List aq} {α:Type} {V:α→Value} {p:α→Prop} {N:α→List aq} (c:lq E.P f args Cp V p N) (hC:jv C Cp)
 (h:cF E.n ops L d g fop xs.toList=some (f,args)) (k: ∀ x,p x→RJ E ops Q rest D ((d,V x)::L) (N x++C)):
 RJ E ops Q (⟨some d,.call {callee:= .value fop,args:=xs,argTypes:=ts},ty,ps,af,g⟩::rest) D L C:=by
 unfold cF at h
 split at h
 ·rename_i hb
  split at h
  ·rename_i hf hx; cases h; exact LK (Km hb) hf hx rfl c hC (Ke hb) k
  ·cases h
 ·cases h
/-- a box of a struct, of one cell -/
theorem fY {t:TypeId} {x:Operand} {cs:List Value} (h:vF E.n ops L d g x=some (.agg cs.toArray)) (k: ∀ b,RJ E ops Q rest D ((d,.pointer (some ⟨b,0,none⟩))::L) (bQ b t cs::C)):
 RJ E ops Q (⟨some d,.box t x,ty,ps,af,g⟩::rest) D L C:=by
 obtain ⟨A,B,F⟩:=ib h; exact Kd A F rfl B k
theorem qM {t:TypeId} {x:Operand} {v:Value} (h:vF E.n ops L d g x=some v) (hv:v.cells.toList=[v]) (k: ∀ b,RJ E ops Q rest D ((d,.pointer (some ⟨b,0,none⟩))::L) (bQ b t [v]::C)):
 RJ E ops Q (⟨some d,.box t x,ty,ps,af,g⟩::rest) D L C:=by
 obtain ⟨A,B,F⟩:=ib h; exact Kd A F hv B k
theorem AL {t:TypeId} {cs:List Value} (h:gB E.n ops L d g=true) (hz:tZ E.P t=some cs) (k: ∀ b,RJ E ops Q rest D ((d,.pointer (some ⟨b,0,none⟩))::L) (bQ b t cs::C)):
 RJ E ops Q (⟨some d,.alloc t,ty,ps,af,g⟩::rest) D L C:=H8 (Km h) hz (Ke h) k
/-- a store into the block at the place i of the state -/
def sF (ops:Array Oper) (L:cY) (g:Option (Nat×Bool)) (x y:Operand):Option (Value×Value):=match iK ops L g with
 |true=>match ev L x,ev L y with
  |some u,some v=>some (u,v)
  |_,_=>none
 |false=>none
theorem zV {ops:Array Oper} {L:cY} {g:Option (Nat×Bool)} {x y:Operand} {u v:Value} (h:sF ops L g x y=some (u,v)):iK ops L g=true∧ev L x=some u∧ev L y=some v:=by
 unfold sF at h
 split at h
 ·rename_i hb
  split at h
  ·rename_i hx hy; cases h; exact ⟨hb,hx,hy⟩
  ·cases h
 ·cases h
theorem MW {t n b o tt:Nat} {x y:Operand} {v:Value} {cs cs':List Value} {C':List aq} (i:Nat) (h:sF ops L g x y=some (.pointer (some ⟨b,o,none⟩),v)) (ht:(tK E.P t).map (·.2)=some n) (hC:C[i]? =some (bQ b tt cs))
 (hk:(v.cells.toList.length==n&&v.cells.toList.all Value.oneCell'&&Nat.ble (o+n) cs.length)=true) (hcs:cs.take o++v.cells.toList++cs.drop (o+n)=cs') (hC':C.set i (bQ b tt cs')=C') (k:RJ E ops Q rest D L C'):
 RJ E ops Q (⟨none,.store t x y,ty,ps,af,g⟩::rest) D L C:=by
 obtain ⟨A,B,F⟩:=zV h
 simp only [dL,beq_iff_eq] at hk
 exact gW i A B F ht U hk.1.1 hk.1.2 hC hk.2 hcs hC' k
/-- a store of a whole block, by a struct, by one cell -/
theorem IX {t n b tt:Nat} {x y:Operand} {cs cs':List Value} {C':List aq} (i:Nat) (h:sF ops L g x y=some (.pointer (some ⟨b,0,none⟩),.agg cs'.toArray)) (ht:(tK E.P t).map (·.2)=some n) (hC:C[i]? =some (bQ b tt cs))
 (hk:(Nat.beq cs'.length n&&cs'.all Value.oneCell'&&Nat.beq n cs.length)=true) (hC':C.set i (bQ b tt cs')=C') (k:RJ E ops Q rest D L C'):
 RJ E ops Q (⟨none,.store t x y,ty,ps,af,g⟩::rest) D L C:=by
 obtain ⟨AA,J,K⟩:=zV h
 simp only [dL] at hk
 obtain ⟨⟨A,B⟩,F⟩:=hk
 have H:=Nat.eq_of_beq_eq_true A
 have G:=Nat.eq_of_beq_eq_true F
 exact gW i AA J K ht U H B hC (by rw [Nat.zero_add,G]; exact Nat.ble_self_eq_true _) (by rw [Nat.zero_add,G,List.take_zero,List.drop_length]; show []++cs'++[]=cs'; simp) hC' k
theorem PI {t n b tt:Nat} {x y:Operand} {v u:Value} {C':List aq} (i:Nat) (h:sF ops L g x y=some (.pointer (some ⟨b,0,none⟩),v)) (ht:(tK E.P t).map (·.2)=some n) (hC:C[i]? =some (bQ b tt [u]))
 (hv:v.cells.toList=[v]) (hk:(Nat.beq n 1&&v.oneCell')=true) (hC':C.set i (bQ b tt [v])=C') (k:RJ E ops Q rest D L C'):
 RJ E ops Q (⟨none,.store t x y,ty,ps,af,g⟩::rest) D L C:=by
 obtain ⟨G,H,AA⟩:=zV h
 rw [dL] at hk
 obtain ⟨A,B⟩:=hk
 have F:=Nat.eq_of_beq_eq_true A
 subst F
 exact gW i G H AA ht hv U (by simp [B]) hC U U hC' k
theorem fG {t n b tt:Nat} {x y:Operand} {cs cs':List Value} (h:sF ops L g x y=some (.pointer (some ⟨b,0,none⟩),.agg cs'.toArray)) (ht:(tK E.P t).map (·.2)=some n) (hk:(Nat.beq cs'.length n&&cs'.all Value.oneCell'&&Nat.beq n cs.length)=true) (k:RJ E ops Q rest D L (bQ b tt cs'::C)):RJ E ops Q (⟨none,.store t x y,ty,ps,af,g⟩::rest) D L (bQ b tt cs::C):=IX 0 h ht rfl hk rfl k
theorem CW {t n b tt:Nat} {x y:Operand} {v u:Value} (h:sF ops L g x y=some (.pointer (some ⟨b,0,none⟩),v)) (ht:(tK E.P t).map (·.2)=some n) (hv:v.cells.toList=[v]) (hk:(Nat.beq n 1&&v.oneCell')=true) (k:RJ E ops Q rest D L (bQ b tt [v]::C)):RJ E ops Q (⟨none,.store t x y,ty,ps,af,g⟩::rest) D L (bQ b tt [u]::C):=PI 0 h ht rfl hv hk rfl k
theorem sD {t n b tt:Nat} {x y:Operand} {cs cs':List Value} {A0:aq} (h:sF ops L g x y=some (.pointer (some ⟨b,0,none⟩),.agg cs'.toArray)) (ht:(tK E.P t).map (·.2)=some n) (hk:(Nat.beq cs'.length n&&cs'.all Value.oneCell'&&Nat.beq n cs.length)=true) (k:RJ E ops Q rest D L (A0::bQ b tt cs'::C)):RJ E ops Q (⟨none,.store t x y,ty,ps,af,g⟩::rest) D L (A0::bQ b tt cs::C):=IX 1 h ht rfl hk rfl k
theorem CH {t n b tt:Nat} {x y:Operand} {cs cs':List Value} {A0 A1:aq} (h:sF ops L g x y=some (.pointer (some ⟨b,0,none⟩),.agg cs'.toArray)) (ht:(tK E.P t).map (·.2)=some n) (hk:(Nat.beq cs'.length n&&cs'.all Value.oneCell'&&Nat.beq n cs.length)=true) (k:RJ E ops Q rest D L (A0::A1::bQ b tt cs'::C)):RJ E ops Q (⟨none,.store t x y,ty,ps,af,g⟩::rest) D L (A0::A1::bQ b tt cs::C):=IX 2 h ht rfl hk rfl k
theorem Qh (cs':List Value) {t n b o tt:Nat} {x y:Operand} {v:Value} {cs:List Value} {A0 A1:aq} (h:sF ops L g x y=some (.pointer (some ⟨b,o,none⟩),v)) (ht:(tK E.P t).map (·.2)=some n) (hk:(v.cells.toList.length==n&&v.cells.toList.all Value.oneCell'&&Nat.ble (o+n) cs.length)=true) (hcs:cs.take o++v.cells.toList++cs.drop (o+n)=cs') (k:RJ E ops Q rest D L (A0::A1::bQ b tt cs'::C)):RJ E ops Q (⟨none,.store t x y,ty,ps,af,g⟩::rest) D L (A0::A1::bQ b tt cs::C):=MW 2 h ht rfl hk hcs rfl k
theorem P7 {t n b tt:Nat} {x y:Operand} {cs cs':List Value} {A0 A1 A2:aq} (h:sF ops L g x y=some (.pointer (some ⟨b,0,none⟩),.agg cs'.toArray)) (ht:(tK E.P t).map (·.2)=some n) (hk:(Nat.beq cs'.length n&&cs'.all Value.oneCell'&&Nat.beq n cs.length)=true) (k:RJ E ops Q rest D L (A0::A1::A2::bQ b tt cs'::C)):RJ E ops Q (⟨none,.store t x y,ty,ps,af,g⟩::rest) D L (A0::A1::A2::bQ b tt cs::C):=IX 3 h ht rfl hk rfl k
theorem PY {t n b tt:Nat} {x y:Operand} {v u:Value} {A0 A1 A2:aq} (h:sF ops L g x y=some (.pointer (some ⟨b,0,none⟩),v)) (ht:(tK E.P t).map (·.2)=some n) (hv:v.cells.toList=[v]) (hk:(Nat.beq n 1&&v.oneCell')=true) (k:RJ E ops Q rest D L (A0::A1::A2::bQ b tt [v]::C)):RJ E ops Q (⟨none,.store t x y,ty,ps,af,g⟩::rest) D L (A0::A1::A2::bQ b tt [u]::C):=PI 3 h ht rfl hv hk rfl k
theorem Ml (cs':List Value) {t n b o tt:Nat} {x y:Operand} {v:Value} {cs:List Value} {A0 A1 A2:aq} (h:sF ops L g x y=some (.pointer (some ⟨b,o,none⟩),v)) (ht:(tK E.P t).map (·.2)=some n) (hk:(v.cells.toList.length==n&&v.cells.toList.all Value.oneCell'&&Nat.ble (o+n) cs.length)=true) (hcs:cs.take o++v.cells.toList++cs.drop (o+n)=cs') (k:RJ E ops Q rest D L (A0::A1::A2::bQ b tt cs'::C)):RJ E ops Q (⟨none,.store t x y,ty,ps,af,g⟩::rest) D L (A0::A1::A2::bQ b tt cs::C):=MW 3 h ht rfl hk hcs rfl k
theorem Me {t n b tt:Nat} {x y:Operand} {cs cs':List Value} {A0 A1 A2 A3:aq} (h:sF ops L g x y=some (.pointer (some ⟨b,0,none⟩),.agg cs'.toArray)) (ht:(tK E.P t).map (·.2)=some n) (hk:(Nat.beq cs'.length n&&cs'.all Value.oneCell'&&Nat.beq n cs.length)=true) (k:RJ E ops Q rest D L (A0::A1::A2::A3::bQ b tt cs'::C)):RJ E ops Q (⟨none,.store t x y,ty,ps,af,g⟩::rest) D L (A0::A1::A2::A3::bQ b tt cs::C):=IX 4 h ht rfl hk rfl k
theorem O3 (cs':List Value) {t n b o tt:Nat} {x y:Operand} {v:Value} {cs:List Value} {A0 A1 A2 A3:aq} (h:sF ops L g x y=some (.pointer (some ⟨b,o,none⟩),v)) (ht:(tK E.P t).map (·.2)=some n) (hk:(v.cells.toList.length==n&&v.cells.toList.all Value.oneCell'&&Nat.ble (o+n) cs.length)=true) (hcs:cs.take o++v.cells.toList++cs.drop (o+n)=cs') (k:RJ E ops Q rest D L (A0::A1::A2::A3::bQ b tt cs'::C)):RJ E ops Q (⟨none,.store t x y,ty,ps,af,g⟩::rest) D L (A0::A1::A2::A3::bQ b tt cs::C):=MW 4 h ht rfl hk hcs rfl k
theorem IE {t n b tt:Nat} {x y:Operand} {cs cs':List Value} {A0 A1 A2 A3 A4:aq} (h:sF ops L g x y=some (.pointer (some ⟨b,0,none⟩),.agg cs'.toArray)) (ht:(tK E.P t).map (·.2)=some n) (hk:(Nat.beq cs'.length n&&cs'.all Value.oneCell'&&Nat.beq n cs.length)=true) (k:RJ E ops Q rest D L (A0::A1::A2::A3::A4::bQ b tt cs'::C)):RJ E ops Q (⟨none,.store t x y,ty,ps,af,g⟩::rest) D L (A0::A1::A2::A3::A4::bQ b tt cs::C):=IX 5 h ht rfl hk rfl k
theorem Kk {t n b tt:Nat} {x y:Operand} {cs cs':List Value} {A0 A1 A2 A3 A4 A5:aq} (h:sF ops L g x y=some (.pointer (some ⟨b,0,none⟩),.agg cs'.toArray)) (ht:(tK E.P t).map (·.2)=some n) (hk:(Nat.beq cs'.length n&&cs'.all Value.oneCell'&&Nat.beq n cs.length)=true) (k:RJ E ops Q rest D L (A0::A1::A2::A3::A4::A5::bQ b tt cs'::C)):RJ E ops Q (⟨none,.store t x y,ty,ps,af,g⟩::rest) D L (A0::A1::A2::A3::A4::A5::bQ b tt cs::C):=IX 6 h ht rfl hk rfl k
theorem Qe {t n b tt:Nat} {x y:Operand} {v u:Value} {A0 A1 A2 A3 A4 A5:aq} (h:sF ops L g x y=some (.pointer (some ⟨b,0,none⟩),v)) (ht:(tK E.P t).map (·.2)=some n) (hv:v.cells.toList=[v]) (hk:(Nat.beq n 1&&v.oneCell')=true) (k:RJ E ops Q rest D L (A0::A1::A2::A3::A4::A5::bQ b tt [v]::C)):RJ E ops Q (⟨none,.store t x y,ty,ps,af,g⟩::rest) D L (A0::A1::A2::A3::A4::A5::bQ b tt [u]::C):=PI 6 h ht rfl hv hk rfl k
theorem Pn (cs':List Value) {t n b o tt:Nat} {x y:Operand} {v:Value} {cs:List Value} {A0 A1 A2 A3 A4 A5:aq} (h:sF ops L g x y=some (.pointer (some ⟨b,o,none⟩),v)) (ht:(tK E.P t).map (·.2)=some n) (hk:(v.cells.toList.length==n&&v.cells.toList.all Value.oneCell'&&Nat.ble (o+n) cs.length)=true) (hcs:cs.take o++v.cells.toList++cs.drop (o+n)=cs') (k:RJ E ops Q rest D L (A0::A1::A2::A3::A4::A5::bQ b tt cs'::C)):RJ E ops Q (⟨none,.store t x y,ty,ps,af,g⟩::rest) D L (A0::A1::A2::A3::A4::A5::bQ b tt cs::C):=MW 6 h ht rfl hk hcs rfl k
theorem Qb {t n b tt:Nat} {x y:Operand} {cs cs':List Value} {A0 A1 A2 A3 A4 A5 A6 A7:aq} (h:sF ops L g x y=some (.pointer (some ⟨b,0,none⟩),.agg cs'.toArray)) (ht:(tK E.P t).map (·.2)=some n) (hk:(Nat.beq cs'.length n&&cs'.all Value.oneCell'&&Nat.beq n cs.length)=true) (k:RJ E ops Q rest D L (A0::A1::A2::A3::A4::A5::A6::A7::bQ b tt cs'::C)):RJ E ops Q (⟨none,.store t x y,ty,ps,af,g⟩::rest) D L (A0::A1::A2::A3::A4::A5::A6::A7::bQ b tt cs::C):=IX 8 h ht rfl hk rfl k
theorem OO {t n b tt:Nat} {x y:Operand} {cs cs':List Value} {A0 A1 A2 A3 A4 A5 A6 A7 A8 A9 A10:aq} (h:sF ops L g x y=some (.pointer (some ⟨b,0,none⟩),.agg cs'.toArray)) (ht:(tK E.P t).map (·.2)=some n) (hk:(Nat.beq cs'.length n&&cs'.all Value.oneCell'&&Nat.beq n cs.length)=true) (k:RJ E ops Q rest D L (A0::A1::A2::A3::A4::A5::A6::A7::A8::A9::A10::bQ b tt cs'::C)):RJ E ops Q (⟨none,.store t x y,ty,ps,af,g⟩::rest) D L (A0::A1::A2::A3::A4::A5::A6::A7::A8::A9::A10::bQ b tt cs::C):=IX 11 h ht rfl hk rfl k
theorem O1 (cs':List Value) {t n b o tt:Nat} {x y:Operand} {v:Value} {cs:List Value} {A0 A1 A2 A3 A4 A5 A6 A7 A8 A9 A10:aq} (h:sF ops L g x y=some (.pointer (some ⟨b,o,none⟩),v)) (ht:(tK E.P t).map (·.2)=some n) (hk:(v.cells.toList.length==n&&v.cells.toList.all Value.oneCell'&&Nat.ble (o+n) cs.length)=true) (hcs:cs.take o++v.cells.toList++cs.drop (o+n)=cs') (k:RJ E ops Q rest D L (A0::A1::A2::A3::A4::A5::A6::A7::A8::A9::A10::bQ b tt cs'::C)):RJ E ops Q (⟨none,.store t x y,ty,ps,af,g⟩::rest) D L (A0::A1::A2::A3::A4::A5::A6::A7::A8::A9::A10::bQ b tt cs::C):=MW 11 h ht rfl hk hcs rfl k
end
section
variable {E:eD} {y:Code} {Q:cP} {D:List Deferred} {L:List (Nat×Value)} {C:List aq}
theorem WS {id:Nat} {ops:Array Oper} (h: ∀ K:Act→World→Prop,(∀ D L C,WJ E y Q D L C→KJ E K D L C)→RJ E ops (Exit.then K Q) ops.toList D L C):WJ E (.seq (.region id ops false) y) Q D L C:=ah fun K hK=>an (h K hK)
theorem RK {ops:Array Oper} {K:Act→World→Prop} {Q':cP} (hK: ∀ D L C,WJ E y Q D L C→KJ E K D L C) (k:WJ E y Q D L C):RJ E ops (Exit.then K Q') [] D L C:=aG (bg (hK _ _ _ k))
theorem KK {K:Act→World→Prop} {Q':cP} (hK: ∀ D L C,WJ E y Q D L C→KJ E K D L C) (k:WJ E y Q D L C):KJ E (Exit.then K Q' .normal) D L C:=bg (hK _ _ _ k)
theorem WK {K:Act→World→Prop} {Q':cP} (hK: ∀ D L C,WJ E y Q D L C→KJ E K D L C) (k:WJ E y Q D L C):WJ E .skip (Exit.then K Q') D L C:=cr (bg (hK _ _ _ k))
end
theorem DT {p:Prop} [Decidable p] (h:decide p=true):p:=of_decide_eq_true h
theorem DF {p:Prop} [Decidable p] (h:decide p=false): ¬ p:=of_decide_eq_false h
theorem XT {p:Prop} [Decidable p] (h:(!decide p)=true): ¬ p:=by simpa using h
theorem XF {p:Prop} [Decidable p] (h:(!decide p)=false):p:=by simpa using h
/-- what a function hands back: one result, two, three, that lie in slots -/
theorem Q1 {E:eD} {fn:Func} {K:Act→World→Prop} {L:cY} {C:List aq} {t:Nat} {u v:Value} (hQ: ∀ D L C,LJ E fn (zk E.w0 v) D L C→KJ E K D L C) (hS:E.S=qA) (hr:fn.results.toList=[.tmp t]) (hl:L.lookup t=some u) (e:u=v):KJ E K [] L C:=
 hQ _ _ _ (gp (vs:=[u]) (by rw [hr]; exact ⟨hl,trivial⟩) fun w hs=>Ab e (by rw [hS] at hs; exact hs))
theorem Q2 {E:eD} {fn:Func} {K:Act→World→Prop} {L:cY} {C:List aq} {t s:Nat} {u x v:Value} (hQ: ∀ D L C,LJ E fn (zk E.w0 v) D L C→KJ E K D L C) (hS:E.S=qA) (hr:fn.results.toList=[.tmp t,.tmp s]) (hl:L.lookup t=some u) (hm:L.lookup s=some x) (e:vT [u,x]=v):KJ E K [] L C:=
 hQ _ _ _ (gp (vs:=[u,x]) (by rw [hr]; exact ⟨hl,hm,trivial⟩) fun w hs=>Ab e (by rw [hS] at hs; exact hs))
theorem N1 {E:eD} {ops:Array Oper} {D:gj} {C' C1:List aq} {F:cY→List aq→Prop} {tb rem:List Nat} {n:Nat} {L:cY} {C:List aq} (i:Nat)
 (h:yw E ops D C' C1 F tb n (rem.filter (· != i)) i L C) (hm:rem.filter (fun i=>rem.all fun j=> !gU (pa ops) j i)=[i]:=by kernel_rfl):TN E ops D C' C1 F tb (n+1) rem L C:=g6 [i] hm (dW h jG)
theorem NO {E:eD} {ops:Array Oper} {D:gj} {C' C1:List aq} {F:cY→List aq→Prop} {tb rem:List Nat} {n i:Nat} {L:cY} {C:List aq} {o:Oper} (ho:ops[i]? =some o) (ht:tb.contains i=false) (rem':List Nat)
 (h: ∀ K:Act→World→Prop,(∀ L' C'',(∀ w,St E.S E.w0 C'' w→St E.S E.w0 C' w)→TN E ops D C' C1 F tb n rem' L' C''→KJ E K D L' C'')→RJ E ops (NQ K) [o] D L C) (hr:rem=rem':=by kernel_rfl):yw E ops D C' C1 F tb n rem i L C:=gL ho hr ht h
theorem RD {E:eD} {ops:Array Oper} {K:Act→World→Prop} {D:gj} {L:cY} {C C':List aq} {X:cY→List aq→Prop} (hT: ∀ L' C'',(∀ w,St E.S E.w0 C'' w→St E.S E.w0 C' w)→X L' C''→KJ E K D L' C'')
 (k:Nat) (h2:C.drop k=C') (h:X L C):RJ E ops (NQ K) [] D L C:=aG (hT _ _ (fun w hs=>h2▸hs.take (List.drop_sublist k C)) h)
theorem aW {L L':cY} (h:L'.map (fun p=>L.lookup p.1)=L'.map (fun p=>some p.2)):ee L L':=by
 induction L' with
 |nil=>exact ee.nil _
 |cons p t ih=>
  simp only [List.map_cons,List.cons.injEq] at h
  exact ee.cons h.1 (ih h.2)
theorem Jf {C:List aq} {A A' B B' D D':aq} (i j k:Nat) (h1:C[i]? =some A') (e1:A'.holds=A.holds) (h2:C[j]? =some B') (e2:B'.holds=B.holds) (h3:C[k]? =some D') (e3:D'.holds=D.holds):jv C [A,B,D]:=eL i h1 e1 (eL j h2 e2 (eL k h3 e3 aD))
theorem bT {E:eD} {c:Operand} {x y:Code} {b:Bool} {Q:cP} {D:List Deferred} {L:List (Nat×Value)} {C:List aq} (hc:ev L c=some (.bool b)) (h2:b=false→WJ E y Q D L C) (h1:b=true→WJ E x Q D L C):WJ E (.cond c x y) Q D L C:=cM hc h1 h2
theorem cb {E:eD} {ops:Array Oper} {Q:cP} {rest:List Oper} {D:List Deferred} {L:List (Nat×Value)} {C:List aq} {t:Nat} {b:Bool} (h:L.lookup t=some (.bool b)) (h2:b=false→RJ E ops Q rest D ((t,.bool false)::L) C) (h1:b=true→RJ E ops Q rest D ((t,.bool true)::L) C):RJ E ops Q rest D L C:=cK h h1 h2
theorem jL {E:eD} {ops:Array Oper} {Q:cP} {rest:List Oper} {D:List Deferred} {L:List (Nat×Value)} {C:List aq} {t:Nat} {b:Bool} {os:List Oper} (h:L.lookup t=some (.bool b)) (h2:b=false→DJ E ops D C (fun L2=>RJ E ops Q rest D L2 C) os ((t,.bool false)::L)) (h1:b=true→DJ E ops D C (fun L2=>RJ E ops Q rest D L2 C) os ((t,.bool true)::L)):DJ E ops D C (fun L2=>RJ E ops Q rest D L2 C) os L:=iY h h1 h2
theorem dx {L:List (Nat×Value)}: ∀ (k:Nat) {L2:List (Nat×Value)} (q:ee L (L2.drop k)) (h:(L2.take k).map (fun p=>L.lookup p.1)=(L2.take k).map (fun p=>some p.2):=by rfl),ee L L2
 |0,_,q,_=>q
 |_+1,[],_,_=>ee.nil _
 |k+1,p::L2,q,h=>by
  obtain ⟨A,B⟩:=List.cons.inj (show L.lookup p.1::(L2.take k).map (fun p=>L.lookup p.1)=some p.2::(L2.take k).map (fun p=>some p.2) from h)
  exact ee.cons (t:=p.1) (v:=p.2) A (dx k q B)
theorem oX {E:eD} {ops:Array Oper} {Q:cP} {rest:List Oper} {D:List Deferred} {L:List (Nat×Value)} {C:List aq} {d:Nat} {ty:TypeId} {ps:String} {af:Array Edge} {g:Option (Nat×Bool)} {op:Op} (k:RJ E ops Q rest D ((d,undef)::L) C) (h:(zE ops L g&&Nat.blt d E.n)=true:=by rfl):RJ E ops Q (⟨some d,op,ty,ps,af,g⟩::rest) D L C:=rS (OX h) k
theorem dX {E:eD} {ops:Array Oper} {F:List (Nat×Value)→Prop} {rest:List Oper} {D:List Deferred} {L:List (Nat×Value)} {C:List aq} {d:Nat} {ty:TypeId} {ps:String} {af:Array Edge} {g:Option (Nat×Bool)} {op:Op} (k:DJ E ops D C F rest ((d,undef)::L)) (h:(zE ops L g&&Nat.blt d E.n)=true:=by rfl):DJ E ops D C F (⟨some d,op,ty,ps,af,g⟩::rest) L:=dS (OX h) k
end
section
open Go.RowKit
/-- what of a slice is left from k on -/
def wo (A:OA) (c k sz:Nat):OA:=if c=k then A else A.map (·.add (k*sz))
section
variable {E:eD} {ops:Array Oper} {Q:cP} {rest:List Oper} {D:List Deferred} {L:List (Nat×Value)} {C:List aq}
variable {d:Nat} {ty:TypeId} {ps:String} {af:Array Edge} {g:Option (Nat×Bool)}
theorem B1 {P:Program} {t e sz:Nat} (h:tE P t=some (e,sz)) (w:World):P.underlying t=some (.slice e)∧(sizeOf e).run P w= .ok sz w:=by
 unfold tE at h
 split at h
 ·rename_i e' hu
  split at h
  ·rename_i i hi
   cases h
   exact ⟨hu,by simp [sizeOf,typeInfo,hi]⟩
  ·cases h
 ·cases h
theorem sU {P:Program} {t e:Nat} (h:P.underlying t=some (.slice e)):P.underlying t=some (.slice (P.elem t)):=by
 rw [h]; simp [Program.elem,h]
theorem Cq {P:Program} {t e:Nat} (h:P.underlying t=some (.slice e)):P.elem t=e:=by simp [Program.elem,h]
/-- s[k:] -/
theorem P6 (k:Nat) {x lo:Operand} {t e sz n c:Nat} {A:OA} {j:Int} (h:bF E.n ops L d g x lo=some (.slice A n c,.int .i64 j)) (ht:tE E.P t=some (e,sz)) (hj:j=(k:Int)) (hk:k≤n):
 SE E ops ⟨some d,.slice t x (some lo) none none,ty,ps,af,g⟩ D L C (.slice (wo A c k sz) (n-k) (c-k)) d:=by
 obtain ⟨G,H,AA,J⟩:=oB h
 subst hj
 refine ⟨di G sm fun a w B hs=>?_,U,H⟩
 obtain ⟨hu,hz⟩:=B1 ht w
 have hr:=run_slice_l (P:=E.P) w t A n c (sU hu) .i64 (k:Int) om om
 rw [Cq hu,hz] at hr
 simp only [Result.andThen,Int.toNat_natCast,sliced] at hr
 have F:=run_sliceAt_slice (P:=E.P) w t (.slice A n c) (some (.int .i64 (k:Int))) none none (sU hu)
 simp [execOp,B.ev AA,B.ev J,F,hr,wo]
/-- s[:k] -/
theorem OK (k:Nat) {x hi:Operand} {t e sz n c:Nat} {A:OA} {j:Int} (h:bF E.n ops L d g x hi=some (.slice A n c,.int .i64 j)) (ht:tE E.P t=some (e,sz)) (hj:j=(k:Int)) (hk:k≤c):
 SE E ops ⟨some d,.slice t x none (some hi) none,ty,ps,af,g⟩ D L C (.slice A k c) d:=by
 obtain ⟨H,AA,J,K⟩:=oB h
 subst hj
 refine ⟨di H sm fun a w B hs=>?_,U,AA⟩
 obtain ⟨hu,hz⟩:=B1 ht w
 have hr:=run_slice_h (P:=E.P) w t A n c (sU hu) .i64 (k:Int) om om
 rw [Cq hu,hz] at hr
 have G:(if c=0 then A else A.map (·.add (0*sz)))=A:=by
  split
  ·rfl
  ·cases A with
   |none=>rfl
   |some ad=>simp [Addr.add]
 simp only [Result.andThen,Int.toNat_natCast,sliced,G,Nat.sub_zero] at hr
 have F:=run_sliceAt_slice (P:=E.P) w t (.slice A n c) none (some (.int .i64 (k:Int))) none (sU hu)
 simp [execOp,B.ev J,B.ev K,F,hr]
/-- an element of a row whose place is known -/
theorem Qj (k:Nat) {x ix:Operand} {A:OA} {ad:Addr} {n c sz e t:Nat} {j:Int} (h:bF E.n ops L d g x ix=some (.slice A n c,.int .i64 j)) (hA:A=some ad) (ht:tE E.P t=some (e,sz)) (hj:j=(k:Int)) (hk:k<n):
 SE E ops ⟨some d,.indexAddr t x ix,ty,ps,af,g⟩ D L C (.pointer (kz A (k*sz))) d:=by
 obtain ⟨F,G,H,AA⟩:=oB h
 refine ⟨di F sm fun a w B hs=>?_,U,G⟩
 subst hA hj
 simp [execOp,B.ev H,B.ev AA,kz,oj ht hk]
end
theorem BG {w:World} {a:OA} {c e sz:Nat} {es:List (List Value)} (h:(own a c e sz es).holds w):es.length≤c:=by
 rcases h.2.2 with ⟨A,B⟩|⟨g,cap,cur,hv,_,_,C,_⟩
 ·omega
 ·injection hv with _ _ hc; omega
end
section
open Go.RowKit
/-- an array's length, its elements' type and their size -/
def aE (P:Program) (t:TypeId):Option (Nat×TypeId×Nat):=
 match P.underlying t with
 |some (.array n e)=>match P.info? e with
  |some i=>some (n,e,i.size)
  |none=>none
 |_=>none
theorem Bo {P:Program} {t n e sz:Nat} (h:aE P t=some (n,e,sz)) (w:World):P.underlying t=some (.array n e)∧(sizeOf e).run P w= .ok sz w:=by
 unfold aE at h
 split at h
 ·rename_i n' e' hu
  split at h
  ·rename_i i hi
   cases h
   exact ⟨hu,by simp [sizeOf,typeInfo,hi]⟩
  ·cases h
 ·cases h
theorem sE {P:Program} {t n e sz:Nat} (h:aE P t=some (n,e,sz)) (a:Addr) (w:World):
 (Instr.sliceAt t (.pointer (some a)) none none none).run P w= .ok (.slice (some a) n n) w:=by
 obtain ⟨hu,hz⟩:=Bo h w
 have A:a.add 0=a:=by simp [Addr.add]
 simp [Instr.sliceAt,underlying,hu,Instr.sureAddr,Instr.sliceBounds,hz,A]
theorem sI {P:Program} {t n e sz:Nat} (h:aE P t=some (n,e,sz)) (a:Addr) {k:Nat} (hk:k<n) (w:World):
 (Instr.indexAt t (.pointer (some a)) (.int .i64 (k:Int))).run P w= .ok (.pointer (some (a.add (k*sz)))) w:=by
 obtain ⟨hu,hz⟩:=Bo h w
 have A: ¬ n≤k:=by omega
 simp [Instr.indexAt,underlying,hu,Instr.sureAddr,asIntOf,hz,A]
 try exact fun h=>absurd h A
 try omega
section
variable {E:eD} {ops:Array Oper} {Q:cP} {rest:List Oper} {D:List Deferred} {L:List (Nat×Value)} {C:List aq}
variable {dst:Option Nat} {ty:TypeId} {ps:String} {af:Array Edge} {g:Option (Nat×Bool)}
theorem Ac {x:Operand} {a:Addr} {t n e sz:Nat} (hg:iK ops L g=true) (hx:ev L x=some (.pointer (some a))) (ht:aE E.P t=some (n,e,sz)):
 SD E ops ⟨dst,.slice t x none none none,ty,ps,af,g⟩ D L C (.slice (some a) n n):=
 di hg sm fun b w A hs=>by
  simp [execOp,A.ev hx,sE ht]
theorem Av {x ix:Operand} {a:Addr} {t n e sz k:Nat} {j:Int} (hg:iK ops L g=true) (hx:ev L x=some (.pointer (some a))) (hi:ev L ix=some (.int .i64 j)) (ht:aE E.P t=some (n,e,sz)) (hj:j=(k:Int)) (hk:k<n):
 SD E ops ⟨dst,.indexAddr t x ix,ty,ps,af,g⟩ D L C (.pointer (kz (some a) (k*sz))):=
 di hg sm fun b w A hs=>by
  subst hj
  simp [execOp,A.ev hx,A.ev hi,kz,sI ht a hk]
end
end
section
open Go.RowKit
/-- a table of facts on the program's types -/
structure zJ where
 tk:List (Nat×Bool×Nat)
 fo:List (Nat×List (Option Nat))
 sl:List Nat
def Mk {α:Type}:List (Nat×α)→Nat→Option α
 |[],_=>none
 |(k,v)::l,t=>match Nat.beq k t with
  |true=>some v
  |false=>Mk l t
theorem xz {α:Type}: ∀ {l:List (Nat×α)} {t:Nat} {v:α},Mk l t=some v→(t,v)∈l
 |[],t,v,h=>by simp [Mk] at h
 |(k,u)::l,t,v,h=>by
  unfold Mk at h
  split at h
  ·rename_i hb
   cases h
   rw [Nat.eq_of_beq_eq_true hb]; exact cq
  ·exact df _ (xz h)
def HO:List Nat→Nat→Bool
 |[],_=>false
 |k::l,t=>match Nat.beq k t with
  |true=>true
  |false=>HO l t
theorem yb: ∀ {l:List Nat} {t:Nat},HO l t=true→t∈l
 |[],t,h=>by simp [HO] at h
 |k::l,t,h=>by
  unfold HO at h
  split at h
  ·rename_i hb
   rw [Nat.eq_of_beq_eq_true hb]; exact cq
  ·exact df _ (yb h)
def zJ.HA (T:zJ) (t:Nat):Option (Bool×Nat):=Mk T.tk t
def zJ.foF (T:zJ) (s f:Nat):Option Nat:=match Mk T.fo s with
 |some l=>match l[f]? with
  |some (some k)=>some k
  |_=>none
 |none=>none
structure j9 (P:Program) (T:zJ):Prop where
 tk: ∀ p∈T.tk,tK P p.1=some p.2
 fo: ∀ p∈T.fo,∀ f k,p.2[f]? =some (some k)→p_ P p.1 f=some k
 sl: ∀ t∈T.sl,∃ e,P.underlying t=some (.slice e)
theorem j9.HA {P:Program} {T:zJ} (h:j9 P T) {t:Nat} {r:Bool×Nat} (e:T.HA t=some r):tK P t=some r:=h.tk _ (xz e)
theorem j9.foF {P:Program} {T:zJ} (h:j9 P T) {s f k:Nat} (e:T.foF s f=some k):p_ P s f=some k:=by
 unfold zJ.foF at e
 split at e
 ·rename_i l hl
  split at e
  ·rename_i k' hk
   cases e
   exact h.fo _ (xz hl) f k hk
  ·cases e
 ·cases e
def Oo (P:Program) (T:zJ):Bool:=(T.tk.all fun p=>decide (tK P p.1=some p.2))&&(T.fo.all fun p=>(List.range p.2.length).all fun f=>match p.2[f]? with
 |some (some k)=>decide (p_ P p.1 f=some k)
 |_=>true)&&T.sl.all fun t=>match P.underlying t with
 |some (.slice _)=>true
 |_=>false
theorem LS {P:Program} {T:zJ} (h:Oo P T=true):j9 P T:=by
 unfold Oo at h
 rw [dL,dL] at h
 obtain ⟨⟨B,C⟩,D⟩:=h
 refine ⟨fun p hp=>by simpa using cN.1 B p hp,fun p hp f k hk=>?_,fun t ht=>?_⟩
 ·have A:=cN.1 (cN.1 C p hp) f (List.mem_range.2 (aY.1 hk).1)
  rw [hk] at A
  simpa using A
 ·have A:=cN.1 D t ht
  split at A
  ·rename_i e he; exact ⟨e,he⟩
  ·cases A
end
section
theorem I1:tK Tryz.prog 3=some (false,1):=by kernel_rfl
theorem Qd:tK Tryz.prog 4=some (false,1):=by kernel_rfl
theorem P2:tK Tryz.prog 22=some (false,1):=by kernel_rfl
theorem O9:tK Tryz.prog 25=some (false,1):=by kernel_rfl
theorem OQ:tK Tryz.prog 26=some (false,1):=by kernel_rfl
theorem OL:tK Tryz.prog 28=some (true,7):=by kernel_rfl
theorem PV:tK Tryz.prog 29=some (false,1):=by kernel_rfl
theorem P4:tK Tryz.prog 30=some (false,1):=by kernel_rfl
theorem Nq:tK Tryz.prog 32=some (true,11):=by kernel_rfl
theorem OF:tK Tryz.prog 40=some (false,1):=by kernel_rfl
theorem Pq:tK Tryz.prog 45=some (true,2):=by kernel_rfl
theorem PO:tK Tryz.prog 47=some (false,1):=by kernel_rfl
theorem O_:tK Tryz.prog 51=some (false,1):=by kernel_rfl
theorem Pd:tK Tryz.prog 53=some (true,2):=by kernel_rfl
theorem Pk:tK Tryz.prog 55=some (true,3):=by kernel_rfl
theorem KS:tK Tryz.prog 56=some (false,1):=by kernel_rfl
theorem OI:tK Tryz.prog 58=some (false,1):=by kernel_rfl
theorem PQ:tK Tryz.prog 60=some (true,3):=by kernel_rfl
theorem PF:tK Tryz.prog 62=some (true,7):=by kernel_rfl
theorem PG:tK Tryz.prog 94=some (false,1):=by kernel_rfl
theorem Oj:tK Tryz.prog 107=some (true,2):=by kernel_rfl
theorem N7:tK Tryz.prog 110=some (false,1):=by kernel_rfl
theorem Nl:tK Tryz.prog 153=some (true,9):=by kernel_rfl
theorem NP:tK Tryz.prog 158=some (true,3):=by kernel_rfl
theorem NX:tK Tryz.prog 164=some (false,1):=by kernel_rfl
theorem NK:tK Tryz.prog 170=some (false,1):=by kernel_rfl
theorem M6:tK Tryz.prog 172=some (true,2):=by kernel_rfl
theorem NZ:tK Tryz.prog 180=some (true,1):=by kernel_rfl
theorem NH:tK Tryz.prog 181=some (true,4):=by kernel_rfl
theorem NV:tK Tryz.prog 237=some (true,1):=by kernel_rfl
theorem AZ:(tK Tryz.prog 3).map (·.2)=some 1:=by rw [I1]; rfl
theorem Ps:(tK Tryz.prog 22).map (·.2)=some 1:=by rw [P2]; rfl
theorem PL:(tK Tryz.prog 25).map (·.2)=some 1:=by rw [O9]; rfl
theorem PT:(tK Tryz.prog 26).map (·.2)=some 1:=by rw [OQ]; rfl
theorem Ph:(tK Tryz.prog 28).map (·.2)=some 7:=by rw [OL]; rfl
theorem wm:(tK Tryz.prog 29).map (·.2)=some 1:=by rw [PV]; rfl
theorem OG:(tK Tryz.prog 30).map (·.2)=some 1:=by rw [P4]; rfl
theorem pU:(tK Tryz.prog 32).map (·.2)=some 11:=by rw [Nq]; rfl
theorem Hh:(tK Tryz.prog 40).map (·.2)=some 1:=by rw [OF]; rfl
theorem cx:(tK Tryz.prog 45).map (·.2)=some 2:=by rw [Pq]; rfl
theorem O4:(tK Tryz.prog 47).map (·.2)=some 1:=by rw [PO]; rfl
theorem O0:(tK Tryz.prog 51).map (·.2)=some 1:=by rw [O_]; rfl
theorem Pv:(tK Tryz.prog 53).map (·.2)=some 2:=by rw [Pd]; rfl
theorem yc:(tK Tryz.prog 55).map (·.2)=some 3:=by rw [Pk]; rfl
theorem O2:(tK Tryz.prog 56).map (·.2)=some 1:=by rw [KS]; rfl
theorem OE:(tK Tryz.prog 58).map (·.2)=some 1:=by rw [OI]; rfl
theorem OB:(tK Tryz.prog 60).map (·.2)=some 3:=by rw [PQ]; rfl
theorem LB:(tK Tryz.prog 62).map (·.2)=some 7:=by rw [PF]; rfl
theorem M8:(tK Tryz.prog 94).map (·.2)=some 1:=by rw [PG]; rfl
theorem n8:(tK Tryz.prog 107).map (·.2)=some 2:=by rw [Oj]; rfl
theorem Na:(tK Tryz.prog 110).map (·.2)=some 1:=by rw [N7]; rfl
theorem FB:(tK Tryz.prog 153).map (·.2)=some 9:=by rw [Nl]; rfl
theorem GK:(tK Tryz.prog 158).map (·.2)=some 3:=by rw [NP]; rfl
theorem wg:(tK Tryz.prog 164).map (·.2)=some 1:=by rw [NX]; rfl
theorem EE:(tK Tryz.prog 170).map (·.2)=some 1:=by rw [NK]; rfl
theorem pC:(tK Tryz.prog 172).map (·.2)=some 2:=by rw [M6]; rfl
theorem BV:(tK Tryz.prog 180).map (·.2)=some 1:=by rw [NZ]; rfl
theorem MD:(tK Tryz.prog 181).map (·.2)=some 4:=by rw [NH]; rfl
theorem HJ:(tK Tryz.prog 237).map (·.2)=some 1:=by rw [NV]; rfl
theorem vl:aE Tryz.prog 188=some (3,187,2):=by kernel_rfl
theorem Lb:p_ Tryz.prog 62 0=some 0:=by kernel_rfl
theorem O7:pK Tryz.prog 69=true:=by kernel_rfl
theorem PW:pK Tryz.prog 82=true:=by kernel_rfl
theorem iI (l:List aa): ∀ v∈(l.map aa.cells).flatten,v.oneCell'=true:=l3 (fun _=>rfl) l
theorem ss (l:List cv): ∀ v∈(l.map cv.cells).flatten,v.oneCell'=true:=l3 (fun _=>rfl) l
theorem qD (l:List aH): ∀ v∈(l.map aH.cells).flatten,v.oneCell'=true:=l3 (fun _=>rfl) l
theorem pV (l:List ai): ∀ v∈(l.map ai.cells).flatten,v.oneCell'=true:=l3 (fun _=>rfl) l
theorem sw (l:List bM): ∀ v∈(l.map bM.cells).flatten,v.oneCell'=true:=l3 (fun _=>rfl) l
theorem Pz:tA Tryz.prog 22=some (153,9,72,(Value.agg [(vI 0),(vI 0),(vI 0),(vI 0),(vI 0),(vI 0),(vI 0),(Value.int .u8 0),(vI 0)].toArray)):=by kernel_rfl
theorem OZ:tA Tryz.prog 25=some (53,2,32,(Value.agg [(vI 0),(vS none 0 0)].toArray)):=by kernel_rfl
theorem OV:tA Tryz.prog 26=some (160,4,32,(Value.agg [(vI 0),(vI 0),(vI 0),(vI 0)].toArray)):=by kernel_rfl
theorem rF:tA Tryz.prog 29=some (3,1,8,(vI 0)):=by kernel_rfl
theorem Po:tA Tryz.prog 30=some (56,1,24,(vS none 0 0)):=by kernel_rfl
theorem Pg:tA Tryz.prog 51=some (55,3,24,(Value.agg [(vI 0),(vI 0),(vI 0)].toArray)):=by kernel_rfl
theorem PM:tA Tryz.prog 56=some (62,7,64,(Value.agg [(vB false),(vB false),(vI 0),(vI 0),(vI 0),(vI 0),(vS none 0 0)].toArray)):=by kernel_rfl
theorem Pb:tA Tryz.prog 58=some (107,2,16,(Value.agg [(vI 0),(vI 0)].toArray)):=by kernel_rfl
theorem PE:tA Tryz.prog 66=some (29,1,24,(vS none 0 0)):=by kernel_rfl
theorem yr:tA Tryz.prog 109=some (45,2,16,(Value.agg [(vI 0),(vI 0)].toArray)):=by kernel_rfl
theorem On:tA Tryz.prog 110=some (109,1,24,(vS none 0 0)):=by kernel_rfl
theorem Kt:tA Tryz.prog 163=some (40,1,8,(Value.map none)):=by kernel_rfl
theorem zf:tA Tryz.prog 164=some (170,1,8,(Value.map none)):=by kernel_rfl
theorem PS:tB Tryz.prog 24=some ([(vS none 0 0)],[(0,1)]):=by kernel_rfl
theorem Pe:tB Tryz.prog 28=some ([(vS none 0 0),(vI 0),(vS none 0 0),(vS none 0 0),(vI 0),(vI 0),(vI 0)],[(0,1),(1,1),(2,1),(3,1),(4,1),(5,1),(6,1)]):=by kernel_rfl
theorem AH:tB Tryz.prog 32=some ([(vS none 0 0),(vI 0),(vS none 0 0),(vS none 0 0),(vI 0),(vI 0),(vI 0),(vS none 0 0),(vS none 0 0),(vI 0),(vS none 0 0)],[(0,7),(7,1),(8,1),(9,1),(10,1)]):=by kernel_rfl
theorem gR:tB Tryz.prog 45=some ([(vI 0),(vI 0)],[(0,1),(1,1)]):=by kernel_rfl
theorem Py:tB Tryz.prog 53=some ([(vI 0),(vS none 0 0)],[(0,1),(1,1)]):=by kernel_rfl
theorem ML:tB Tryz.prog 55=some ([(vI 0),(vI 0),(vI 0)],[(0,1),(1,2)]):=by kernel_rfl
theorem PR:tB Tryz.prog 60=some ([(vI 0),(vI 0),(vS none 0 0)],[(0,1),(1,1),(2,1)]):=by kernel_rfl
theorem FV:tB Tryz.prog 62=some ([(vB false),(vB false),(vI 0),(vI 0),(vI 0),(vI 0),(vS none 0 0)],[(0,1),(1,1),(2,2),(4,3)]):=by kernel_rfl
theorem zl:tB Tryz.prog 107=some ([(vI 0),(vI 0)],[(0,1),(1,1)]):=by kernel_rfl
theorem Ol:tB Tryz.prog 112=some ([(vS none 0 0),(vI 0),(vS none 0 0),(vS none 0 0),(vI 0),(vI 0),(vI 0),(vS none 0 0),(vS none 0 0),(vI 0),(vS none 0 0),(vS none 0 0),(Value.map none)],[(0,11),(11,1),(12,1)]):=by kernel_rfl
theorem NA:tB Tryz.prog 153=some ([(vI 0),(vI 0),(vI 0),(vI 0),(vI 0),(vI 0),(vI 0),(Value.int .u8 0),(vI 0)],[(0,1),(1,2),(3,2),(5,2),(7,1),(8,1)]):=by kernel_rfl
theorem Mu:tB Tryz.prog 158=some ([(vI 0),(vI 0),(vI 0)],[(0,1),(1,2)]):=by kernel_rfl
theorem E6:tB Tryz.prog 160=some ([(vI 0),(vI 0),(vI 0),(vI 0)],[(0,3),(3,1)]):=by kernel_rfl
theorem J_:tB Tryz.prog 166=some ([(vS none 0 0),(vI 0),(vS none 0 0),(vS none 0 0),(vI 0),(vI 0),(vI 0),(vI 0),(vI 0),(vS none 0 0),(vS none 0 0),(vS none 0 0),(vS none 0 0),(vS none 0 0)],[(0,7),(7,3),(10,1),(11,1),(12,1),(13,1)]):=by kernel_rfl
theorem yv:tB Tryz.prog 172=some ([(vI 0),(vI 0)],[(0,1),(1,1)]):=by kernel_rfl
theorem BO:tB Tryz.prog 180=some ([Value.nilFunc],[(0,1)]):=by kernel_rfl
theorem Oh:tB Tryz.prog 181=some ([Value.nilFunc,Value.nilFunc,Value.nilFunc,Value.nilFunc],[(0,1),(1,1),(2,1),(3,1)]):=by kernel_rfl
theorem Mm:tB Tryz.prog 193=some ([(vI 0),(vI 0)],[(0,1),(1,1)]):=by kernel_rfl
theorem MK:tB Tryz.prog 237=some ([(vS none 0 0)],[(0,1)]):=by kernel_rfl
theorem uU:tE Tryz.prog 22=some (153,9):=by kernel_rfl
theorem xU:tE Tryz.prog 25=some (53,2):=by kernel_rfl
theorem tj:tE Tryz.prog 26=some (160,4):=by kernel_rfl
theorem cy:tE Tryz.prog 29=some (3,1):=by kernel_rfl
theorem sH:tE Tryz.prog 30=some (56,1):=by kernel_rfl
theorem uX:tE Tryz.prog 51=some (55,3):=by kernel_rfl
theorem uS:tE Tryz.prog 56=some (62,7):=by kernel_rfl
theorem Jj:tE Tryz.prog 58=some (107,2):=by kernel_rfl
theorem nW:tE Tryz.prog 66=some (29,1):=by kernel_rfl
theorem gS:tE Tryz.prog 109=some (45,2):=by kernel_rfl
theorem FT:tE Tryz.prog 110=some (109,1):=by kernel_rfl
theorem Kg:tE Tryz.prog 162=some (124,1):=by kernel_rfl
theorem th:tE Tryz.prog 163=some (40,1):=by kernel_rfl
theorem mJ:tE Tryz.prog 164=some (170,1):=by kernel_rfl
theorem Fx:tE Tryz.prog 184=some (187,2):=by kernel_rfl
theorem Gb:tE Tryz.prog 251=some (158,3):=by kernel_rfl
theorem z7:(match Tryz.prog.underlying 45 with |some (.struct fs)=>(fs[0]?).map (fun fl=>tK Tryz.prog fl.type)|_=>none)=some (some (false,1)):=by kernel_rfl
theorem AP:(match Tryz.prog.underlying 45 with |some (.struct fs)=>(fs[1]?).map (fun fl=>tK Tryz.prog fl.type)|_=>none)=some (some (false,1)):=by kernel_rfl
theorem P8:tV Tryz.prog 3=some (vI 0):=by kernel_rfl
theorem uh:tV Tryz.prog 45=some (Value.agg [(vI 0),(vI 0)].toArray):=by kernel_rfl
theorem Cl:tX Tryz.prog 181=some (4,180):=by kernel_rfl
theorem BB:tX Tryz.prog 193=some (2,3):=by kernel_rfl
theorem hE:tZ Tryz.prog 3=some [(vI 0)]:=by kernel_rfl
theorem wA:tZ Tryz.prog 12=some [(Value.int .u64 0)]:=by kernel_rfl
theorem OU:tZ Tryz.prog 28=some [(vS none 0 0),(vI 0),(vS none 0 0),(vS none 0 0),(vI 0),(vI 0),(vI 0)]:=by kernel_rfl
theorem sv:tZ Tryz.prog 29=some [(vS none 0 0)]:=by kernel_rfl
theorem xb:tZ Tryz.prog 32=some [(vS none 0 0),(vI 0),(vS none 0 0),(vS none 0 0),(vI 0),(vI 0),(vI 0),(vS none 0 0),(vS none 0 0),(vI 0),(vS none 0 0)]:=by kernel_rfl
theorem Og:tZ Tryz.prog 40=some [(Value.map none)]:=by kernel_rfl
theorem dk:tZ Tryz.prog 45=some [(vI 0),(vI 0)]:=by kernel_rfl
theorem OY:tZ Tryz.prog 47=some [(Value.map none)]:=by kernel_rfl
theorem L3:tZ Tryz.prog 53=some [(vI 0),(vS none 0 0)]:=by kernel_rfl
theorem xd:tZ Tryz.prog 55=some [(vI 0),(vI 0),(vI 0)]:=by kernel_rfl
theorem No:tZ Tryz.prog 56=some [(vS none 0 0)]:=by kernel_rfl
theorem Pm:tZ Tryz.prog 60=some [(vI 0),(vI 0),(vS none 0 0)]:=by kernel_rfl
theorem GS:tZ Tryz.prog 62=some [(vB false),(vB false),(vI 0),(vI 0),(vI 0),(vI 0),(vS none 0 0)]:=by kernel_rfl
theorem Oe:tZ Tryz.prog 94=some [(Value.pointer none)]:=by kernel_rfl
theorem yW:tZ Tryz.prog 107=some [(vI 0),(vI 0)]:=by kernel_rfl
theorem MQ:tZ Tryz.prog 109=some [(vS none 0 0)]:=by kernel_rfl
theorem Mo:tZ Tryz.prog 124=some [Value.nilFunc]:=by kernel_rfl
theorem Cb:tZ Tryz.prog 153=some [(vI 0),(vI 0),(vI 0),(vI 0),(vI 0),(vI 0),(vI 0),(Value.int .u8 0),(vI 0)]:=by kernel_rfl
theorem zd:tZ Tryz.prog 158=some [(vI 0),(vI 0),(vI 0)]:=by kernel_rfl
theorem Oc:tZ Tryz.prog 160=some [(vI 0),(vI 0),(vI 0),(vI 0)]:=by kernel_rfl
theorem qm:tZ Tryz.prog 172=some [(vI 0),(vI 0)]:=by kernel_rfl
theorem BH:tZ Tryz.prog 180=some [Value.nilFunc]:=by kernel_rfl
theorem Nu:tZ Tryz.prog 181=some [Value.nilFunc,Value.nilFunc,Value.nilFunc,Value.nilFunc]:=by kernel_rfl
theorem He:tZ Tryz.prog 237=some [(vS none 0 0)]:=by kernel_rfl
theorem og:Tryz.prog.underlying 3=some (.int .i64):=by kernel_rfl
theorem Qa:Tryz.prog.underlying 4=some .bool:=by kernel_rfl
theorem Oz:Tryz.prog.underlying 5=some (.int .u8):=by kernel_rfl
theorem Qg:Tryz.prog.underlying 9=some .string:=by kernel_rfl
theorem LO:Tryz.prog.underlying 22=some (.slice 153):=by kernel_rfl
theorem Ni:Tryz.prog.underlying 25=some (.slice 53):=by kernel_rfl
theorem IQ:Tryz.prog.underlying 26=some (.slice 160):=by kernel_rfl
theorem P1:Tryz.prog.underlying 29=some (.slice 3):=by kernel_rfl
theorem OC:Tryz.prog.underlying 30=some (.slice 56):=by kernel_rfl
theorem lP:Tryz.prog.underlying 40=some (.map 3 45):=by kernel_rfl
theorem yF:Tryz.prog.underlying 47=some (.map 3 4):=by kernel_rfl
theorem Ms:Tryz.prog.underlying 51=some (.slice 55):=by kernel_rfl
theorem Pj:Tryz.prog.underlying 56=some (.slice 62):=by kernel_rfl
theorem Ob:Tryz.prog.underlying 58=some (.slice 107):=by kernel_rfl
theorem Ng:Tryz.prog.underlying 150=some (.int .u64):=by kernel_rfl
theorem nu:Tryz.prog.underlying 170=some (.map 172 3):=by kernel_rfl
theorem MG:Tryz.prog.underlying 205=some (.int .u64):=by kernel_rfl
theorem KO:fL Tryz.prog 45=some [(3,0),(3,1)]:=by kernel_rfl
theorem JX (d:Nat) (s z:aa) (w:World):(Op.equalIn (d+2) 45 (.agg s.cells.toArray) (.agg z.cells.toArray)).run Tryz.prog w= .ok (decide (s=z)) w:=by
 have hc:(decide (s.Lo=z.Lo)&&(decide (s.Hi=z.Hi)&&true))=decide (s=z):=by rw [Bool.eq_iff_iff]; simp [aa.ext_iff]
 rw [← hc]
 exact tv (d+1) KO w (qB w (jc I1 U w) (jc I1 U w) (sP _ og w) (qB w (jc I1 U w) (jc I1 U w) (sP _ og w) (Cm w)))
theorem uB (x y:Operand) (s z:aa):gO Tryz.prog .eql 45 x y (.agg s.cells.toArray) (.agg z.cells.toArray) (.bool (decide (s=z))):=CX x y (yH KO) fun w=>JX 9998 s z w
theorem Kc (x y:Operand) (s z:aa):gO Tryz.prog .neq 45 x y (.agg s.cells.toArray) (.agg z.cells.toArray) (.bool (!decide (s=z))):=Dg x y (yH KO) fun w=>JX 9998 s z w
theorem Kj:fL Tryz.prog 172=some [(3,0),(3,1)]:=by kernel_rfl
theorem KN (d:Nat) (s z:ax) (w:World):(Op.equalIn (d+2) 172 (.agg s.cells.toArray) (.agg z.cells.toArray)).run Tryz.prog w= .ok (decide (s=z)) w:=by
 have hc:(decide (s.right=z.right)&&(decide (s.fK=z.fK)&&true))=decide (s=z):=by rw [Bool.eq_iff_iff]; simp [ax.ext_iff]
 rw [← hc]
 exact tv (d+1) Kj w (qB w (jc I1 U w) (jc I1 U w) (sP _ og w) (qB w (jc I1 U w) (jc I1 U w) (sP _ og w) (Cm w)))
theorem cE:Tryz.prog.follows .mixedOrders=true:=by kernel_rfl
def TT:zJ:=⟨[(1,false,1),(2,false,1),(3,false,1),(4,false,1),(5,false,1),(6,false,1),(7,true,4),(8,true,4),(12,false,1),(15,false,1),(16,false,1),(17,false,1),(18,true,1),(19,true,1),(21,false,1),(22,false,1),(23,true,1),(24,true,1),(25,false,1),(26,false,1),(27,true,7),(28,true,7),(29,false,1),(30,false,1),(31,true,11),(32,true,11),(33,false,1),(34,false,1),(35,false,1),(37,false,1),(38,false,1),(39,false,1),(40,false,1),(42,false,1),(43,false,1),(44,true,2),(45,true,2),(46,false,1),(47,false,1),(49,false,1),(50,false,1),(51,false,1),(52,true,2),(53,true,2),(54,true,3),(55,true,3),(56,false,1),(57,false,1),(58,false,1),(59,true,3),(60,true,3),(61,true,7),(62,true,7),(63,false,1),(65,false,1),(66,false,1),(68,false,1),(69,false,1),(70,false,1),(71,false,1),(72,false,1),(73,false,1),(74,false,1),(75,false,1),(76,false,1),(77,false,1),(78,false,1),(79,false,1),(81,false,1),(82,false,1),(83,false,1),(84,false,1),(86,false,1),(87,false,1),(88,false,1),(89,false,1),(90,false,1),(91,false,1),(92,false,1),(93,false,1),(94,false,1),(96,false,1),(97,false,1),(98,false,1),(99,false,1),(100,false,1),(101,false,1),(102,false,1),(103,false,1),(104,false,1),(105,false,1),(106,true,2),(107,true,2),(108,false,1),(109,false,1),(110,false,1),(111,true,13),(112,true,13),(114,false,1),(115,false,1),(116,false,1),(117,false,1),(118,false,1),(119,false,1),(120,false,1),(121,false,1),(123,false,1),(124,false,1),(125,false,1),(126,false,1),(127,false,1),(128,false,1),(129,false,1),(130,false,1),(131,false,1),(132,false,1),(133,false,1),(134,false,1),(136,false,1),(137,false,1),(138,false,1),(139,false,1),(140,false,1),(141,false,1),(142,false,1),(143,false,1),(144,false,1),(145,false,1),(146,false,1),(147,false,1),(148,false,1),(149,false,1),(150,false,1),(151,false,1),(152,true,9),(153,true,9),(154,false,1),(155,false,1),(156,false,1),(157,true,3),(158,true,3),(159,true,4),(160,true,4),(161,false,1),(162,false,1),(163,false,1),(164,false,1),(165,true,14),(166,true,14),(167,false,1),(168,false,1),(169,false,1),(170,false,1),(171,true,2),(172,true,2),(173,false,1),(174,false,1),(175,false,1),(176,false,1),(178,false,1),(179,false,1),(180,true,1),(181,true,4),(182,false,1),(183,false,1),(184,false,1),(185,false,1),(186,true,2),(187,true,2),(188,true,6),(189,false,1),(190,false,1),(191,false,1),(192,false,1),(193,true,2),(194,false,1),(195,false,1),(196,false,1),(198,false,1),(199,false,1),(200,false,1),(202,false,1),(203,false,1),(204,false,1),(205,false,1),(207,false,1),(208,false,1),(209,false,1),(210,false,1),(211,false,1),(212,false,1),(213,false,1),(214,false,1),(215,false,1),(216,false,1),(217,false,1),(218,false,1),(219,false,1),(220,false,1),(221,false,1),(222,false,1),(223,false,1),(224,false,1),(225,false,1),(226,false,1),(227,false,1),(228,false,1),(229,false,1),(230,false,1),(231,false,1),(232,false,1),(233,false,1),(235,false,1),(236,true,1),(237,true,1),(239,false,1),(240,false,1),(241,false,1),(242,false,1),(243,false,1),(244,false,1),(245,false,1),(246,false,1),(247,false,1),(248,false,1),(250,false,1),(251,false,1),(252,false,1),(253,false,1),(254,false,1),(255,false,1),(256,false,1),(257,false,1),(259,false,1),(260,false,1),(261,false,1),(262,false,1),(263,false,1),(264,false,1),(265,true,3),(266,true,3),(267,false,1),(268,true,3),(269,true,3),(270,false,1),(271,false,1),(272,false,1),(275,true,0),(276,true,0),(277,true,0),(278,false,1),(279,false,1),(280,false,1),(281,false,1),(282,false,1),(283,false,1),(284,false,1),(285,true,11),(286,true,11)],[(7,[some 0,some 1,some 2,some 3]),(8,[some 0,some 1,some 2,some 3]),(18,[some 0]),(19,[some 0]),(23,[some 0]),(24,[some 0]),(27,[some 0,some 1,some 2,some 3,some 4,some 5,some 6]),(28,[some 0,some 1,some 2,some 3,some 4,some 5,some 6]),(31,[some 0,some 7,some 8,some 9,some 10]),(32,[some 0,some 7,some 8,some 9,some 10]),(44,[some 0,some 1]),(45,[some 0,some 1]),(52,[some 0,some 1]),(53,[some 0,some 1]),(54,[some 0,some 1]),(55,[some 0,some 1]),(59,[some 0,some 1,some 2]),(60,[some 0,some 1,some 2]),(61,[some 0,some 1,some 2,some 4]),(62,[some 0,some 1,some 2,some 4]),(106,[some 0,some 1]),(107,[some 0,some 1]),(111,[some 0,some 11,some 12]),(112,[some 0,some 11,some 12]),(152,[some 0,some 1,some 3,some 5,some 7,some 8]),(153,[some 0,some 1,some 3,some 5,some 7,some 8]),(157,[some 0,some 1]),(158,[some 0,some 1]),(159,[some 0,some 3]),(160,[some 0,some 3]),(165,[some 0,some 7,some 10,some 11,some 12,some 13]),(166,[some 0,some 7,some 10,some 11,some 12,some 13]),(171,[some 0,some 1]),(172,[some 0,some 1]),(180,[some 0]),(186,[some 0,some 1]),(187,[some 0,some 1]),(236,[some 0]),(237,[some 0]),(265,[some 0,some 1,some 2]),(266,[some 0,some 1,some 2]),(268,[some 0,some 1,some 2]),(269,[some 0,some 1,some 2]),(285,[some 0,some 1,some 2,some 3,some 4,some 5,some 6,some 7,some 8,some 9,some 10]),(286,[some 0,some 1,some 2,some 3,some 4,some 5,some 6,some 7,some 8,some 9,some 10])],[22,25,26,29,30,51,56,58,66,109,110,162,163,164,184,251,257,264]⟩
theorem od:j9 Tryz.prog TT:=LS kr
theorem ct {t:TypeId} {x:Bool×Nat} (h:TT.HA t=some x:=by rfl):tK Tryz.prog t=some x:=od.HA h
theorem fB {s f k:Nat} (h:TT.foF s f=some k:=by rfl):p_ Tryz.prog s f=some k:=od.foF h
end
section
open Go.RowKit
/-- blocks that are read -/
def MM (C:List aq) (M:List (Nat×List Value)):Prop:= ∀ p∈M,∀ o vs,(p.2.drop o).take vs.length=vs→At C (some ⟨p.1,o,none⟩) vs
theorem I {C:List aq}:MM C []:=fun p h=>by cases h
theorem mc {C:List aq} {b t:Nat} {cs:List Value} {M:List (Nat×List Value)} (i:Nat) (hC:C[i]? =some (bQ b t cs)) (h:MM C M):MM C ((b,cs)::M):=fun p hp o vs hv=>by
 rcases bw.1 hp with rfl|hp
 ·exact nU i hC hv
 ·exact h p hp o vs hv
theorem mr {C:List aq} {b t:Nat} {cs:List Value} {M:List (Nat×List Value)} (i:Nat) (hC:C[i]? =some (bQ b t cs).ro) (h:MM C M):MM C ((b,cs)::M):=fun p hp o vs hv=>by
 rcases bw.1 hp with rfl|hp
 ·exact sS i hC hv
 ·exact h p hp o vs hv
def nV:List Prop→Prop
 |[]=>True
 |p::l=>p∧nV l
theorem jq {p:Prop} {l:List Prop} (h:p) (h2:nV l):nV (p::l):=⟨h,h2⟩
/-- the value of an operation, what it asks for, and what is left of the list of places -/
def pv (T:zJ) (ops:Array Oper) (M:List (Nat×List Value)) (L:cY) (hs:List Nat) (g:Option (Nat×Bool)) (op:Op):Option (Value×List Prop×List Nat):=
 match zE ops L g with
 |true=>some (undef,[],hs)
 |false=>match iK ops L g with
  |false=>none
  |true=>match op with
   | .move x=>match ev L x with
    |some v=>some (v,[],hs)
    |none=>none
   | .assign x=>match ev L x with
    |some v=>some (v,[],hs)
    |none=>none
   | .pick c x y=>match ev L c with
    |some (.bool true)=>match ev L x with
     |some v=>some (v,[],hs)
     |none=>none
    |some (.bool false)=>match ev L y with
     |some v=>some (v,[],hs)
     |none=>none
    |_=>none
   | .unOp .not _ x=>match ev L x with
    |some (.bool b)=>some (.bool !b,[],hs)
    |_=>none
   | .extract x i=>match ev L x with
    |some (.tuple vs)=>match vs.toList[i]? with
     |some v=>some (v,[],hs)
     |none=>none
    |_=>none
   | .fieldAddr s x f=>match ev L x with
    |some (.pointer (some ⟨b,o,none⟩))=>match T.foF s f with
     |some k=>some (.pointer (some ⟨b,o+k,none⟩),[],hs)
     |none=>none
    |_=>none
   | .binOp op _ x y _=>match ev L x with
    |some (.int .i64 a)=>match ev L y with
     |some (.int .i64 b)=>match op with
      | .lss=>some (.bool (decide (a<b)),[],hs)
      | .leq=>some (.bool (decide (a≤b)),[],hs)
      | .gtr=>some (.bool (decide (b<a)),[],hs)
      | .geq=>some (.bool (decide (b≤a)),[],hs)
      | .eql=>some (.bool (decide (a=b)),[],hs)
      | .neq=>some (.bool (!decide (a=b)),[],hs)
      | .add=>some (.int .i64 (a+b),[-9223372036854775808≤a+b,a+b≤9223372036854775807],hs)
      | .sub=>some (.int .i64 (a-b),[-9223372036854775808≤a-b,a-b≤9223372036854775807],hs)
      |_=>none
     |_=>none
    |_=>none
   | .load t x=>match ev L x with
    |some (.pointer (some ⟨b,o,none⟩))=>match M[hs.headD 0]? with
     |some (b',cs)=>match T.HA t with
      |some (false,_)=>match cs[o]? with
       |some v=>some (v,[b'=b],hs.tail)
       |none=>none
      |some (true,n)=>match Nat.beq o 0 with
       |true=>match Nat.beq cs.length n with
        |true=>some (.agg cs.toArray,[b'=b],hs.tail)
        |false=>none
       |false=>none
      |none=>none
     |none=>none
    |_=>none
   | .call c=>match c with
    |{callee:= .builtin .len,args:=xs,argTypes:=ts}=>match xs.toList with
     |[x]=>match ts.toList with
      |[t]=>match ev L x with
       |some (.slice A n c)=>match HO T.sl t with
        |true=>some (.int .i64 n,[],hs)
        |false=>none
       |_=>none
      |_=>none
     |_=>none
    |_=>none
   |_=>none
section
variable {E:eD} {T:zJ} {ops:Array Oper} {M:List (Nat×List Value)} {D:List Deferred} {L:List (Nat×Value)} {C:List aq} {hs hs':List Nat}
theorem sc {cs:List Value} {o:Nat} {v:Value} (h:cs[o]? =some v):(cs.drop o).take [v].length=[v]:=by
 obtain ⟨hl,rfl⟩:=aY.1 h
 rw [List.drop_eq_getElem_cons hl]; rfl
theorem M5 {o:Oper} {v:Value} {S:List Prop} (hT:j9 E.P T) (hM:MM C M) (h:pv T ops M L hs o.guard o.op=some (v,S,hs')) (hS:nV S):SD E ops o D L C v:=by
 obtain ⟨dst,op,ty,ps,af,g⟩:=o
 unfold pv at h
 simp only at h
 split at h
 ·rename_i hg
  cases h
  exact Fh hg
 ·split at h
  ·cases h
  ·rename_i hg
   split at h
   ·split at h
    ·rename_i hx; cases h; exact BD hg hx
    ·cases h
   ·split at h
    ·rename_i hx; cases h; exact vh hg hx
    ·cases h
   ·split at h
    ·rename_i hc
     split at h
     ·rename_i hx; cases h; exact vK hg hc hx
     ·cases h
    ·rename_i hc
     split at h
     ·rename_i hx; cases h; exact vz hg hc hx
     ·cases h
    ·cases h
   ·split at h
    ·rename_i hx; cases h; exact GM hg hx
    ·cases h
   ·split at h
    ·rename_i vs hx
     split at h
     ·rename_i v' hv; cases h; exact tJ (vs:=vs.toList) hg (by simpa using hx) hv
     ·cases h
    ·cases h
   ·split at h
    ·rename_i hx
     split at h
     ·rename_i hk; cases h; exact Kq hg hx (hT.foF hk) rfl
     ·cases h
    ·cases h
   ·split at h
    ·rename_i hx
     split at h
     ·rename_i hy
      split at h
      ·cases h; exact bP hg hx hy fW
      ·cases h; exact bP hg hx hy N2
      ·cases h; exact bP hg hx hy M0
      ·cases h; exact bP hg hx hy Ct
      ·cases h; exact bP hg hx hy jX
      ·cases h; exact bP hg hx hy l9
      ·cases h; exact bP hg hx hy (gP ⟨hS.1,hS.2.1⟩)
      ·cases h; exact bP hg hx hy (pA ⟨hS.1,hS.2.1⟩)
      ·cases h
     ·cases h
    ·cases h
   ·split at h
    ·rename_i hx
     split at h
     ·rename_i b' cs hm
      have A:=aT hm
      split at h
      ·rename_i hk
       split at h
       ·rename_i hv
        cases h
        obtain rfl:=hS.1
        exact qO hg hx (hT.HA hk) (hM _ A _ _ (sc hv))
       ·cases h
      ·rename_i n hk
       split at h
       ·rename_i ho
        split at h
        ·rename_i hn
         cases h
         obtain rfl:=hS.1
         have H:=Nat.eq_of_beq_eq_true ho
         subst H
         exact tf hg hx (hT.HA hk) (hM _ A 0 cs sm) (Nat.eq_of_beq_eq_true hn)
        ·cases h
       ·cases h
      ·cases h
     ·cases h
    ·cases h
   ·split at h
    ·rename_i xs ts
     split at h
     ·rename_i x G
      split at h
      ·rename_i t F
       split at h
       ·rename_i hx
        split at h
        ·rename_i B
         cases h
         obtain ⟨e,he⟩:=hT.sl t (yb B)
         have AA:xs= #[x]:=by apply Array.ext'; simpa using G
         have J:ts= #[t]:=by apply Array.ext'; simpa using F
         subst AA J
         exact EI hg hx he
        ·cases h
       ·cases h
      ·cases h
     ·cases h
    ·cases h
   ·cases h
def pr (T:zJ) (n:Nat) (ops:Array Oper) (M:List (Nat×List Value)):Nat→List Nat→cY→List Oper→Option (cY×List Oper×List Prop)
 |0,_,L,rest=>some (L,rest,[])
 |k+1,hs,L,[]=>none
 |k+1,hs,L,o::rest=>match o.dst with
  |none=>none
  |some d=>match Nat.blt d n with
   |false=>none
   |true=>match pv T ops M L hs o.guard o.op with
    |none=>none
    |some (v,S,hs')=>match pr T n ops M k hs' ((d,v)::L) rest with
     |none=>none
     |some (L',rest',S')=>some (L',rest',S++S')
theorem uL: ∀ {S S':List Prop},nV (S++S')→nV S∧nV S'
 |[],S',h=>⟨trivial,h⟩
 |p::S,S',h=>⟨⟨h.1,(uL h.2).1⟩,(uL h.2).2⟩
/-- whatever is closed under single steps -/
theorem FI {J:List Oper→cY→Prop} (hT:j9 E.P T) (hM:MM C M) (hJ: ∀ o rest L d v,SD E ops o D L C v→o.dst=some d→Nat.blt d E.n=true→J rest ((d,v)::L)→J (o::rest) L):
 ∀ (k:Nat) (hs:List Nat) (L:cY) (rest:List Oper) {L':cY} {rest':List Oper} {S:List Prop},pr T E.n ops M k hs L rest=some (L',rest',S)→nV S→J rest' L'→J rest L
 |0,hs,L,rest,L',rest',S,h,hS,hj=>by
  unfold pr at h
  cases h
  exact hj
 |k+1,hs,L,[],L',rest',S,h,hS,hj=>by unfold pr at h; cases h
 |k+1,hs,L,o::rest,L',rest',S,h,hS,hj=>by
  unfold pr at h
  split at h
  ·cases h
  ·rename_i d hd
   split at h
   ·cases h
   ·rename_i hn
    split at h
    ·cases h
    ·rename_i v S1 A hv
     split at h
     ·cases h
     ·rename_i L1 G S2 hr
      cases h
      obtain ⟨B,F⟩:=uL hS
      exact hJ o rest L d v (M5 hT hM hv B) hd hn (FI hT hM hJ k A _ rest hr F hj)
variable {Q:cP} {rest rest':List Oper} {L0 L':List (Nat×Value)} {S:List Prop} {F:List (Nat×Value)→Prop}
/-- a run of operations, one after the other -/
theorem rP (k:Nat) (hs:List Nat) (hM:MM C M) (j:RJ E ops Q rest' D L' C) (hT:j9 E.P T:=by exact od) (h:pr T E.n ops M k hs L rest=some (L0,rest',S):=by rfl) (hL:L0=L':=by (try dsimp only)<;>rfl) (hS:nV S:=by repeat' first|exact True.intro |refine jq ?_ ?_ |exact rfl|omega|(dsimp only; omega)):RJ E ops Q rest D L C:=by
 subst hL
 exact FI (J:=fun r L=>RJ E ops Q r D L C) hT hM (fun o rest L d v A B F G=>ME A B F G) k hs L rest h hS j
theorem dP (k:Nat) (hs:List Nat) (hM:MM C M) (j:DJ E ops D C F rest' L') (hT:j9 E.P T:=by exact od) (h:pr T E.n ops M k hs L rest=some (L0,rest',S):=by rfl) (hL:L0=L':=by (try dsimp only)<;>rfl) (hS:nV S:=by repeat' first|exact True.intro |refine jq ?_ ?_ |exact rfl|omega):DJ E ops D C F rest L:=by
 subst hL
 exact FI (J:=fun r L=>DJ E ops D C F r L) hT hM (fun o rest L d v A B G H=>NN A B G H) k hs L rest h hS j
end
section
variable {P:Program} {r:Option Nat} {n:Nat} {B:BS} {w0:World} {ops:Array Oper} {M:List (Nat×List Value)} {D:List Deferred} {L L':List (Nat×Value)} {C:List aq} {Q:cP} {rest rest':List Oper} {S:List Prop} {F:List (Nat×Value)→Prop}
theorem fr (k:Nat) (hs:List Nat) (hM:MM C M) (h:pr TT n ops M k hs L rest=some (L',rest',S)) (j:RJ ⟨P,r,n,B,w0⟩ ops Q rest' D L' C) (hS:nV S:=by repeat' first|exact True.intro |refine jq ?_ ?_ |exact rfl|omega|(dsimp only; omega)) (hT:j9 P TT:=by exact od):RJ ⟨P,r,n,B,w0⟩ ops Q rest D L C:=rP k hs hM j hT h rfl hS
theorem mQ (k:Nat) (hs:List Nat) (hM:MM C M) (h:pr TT n ops M k hs L rest=some (L',rest',S)) (j:DJ ⟨P,r,n,B,w0⟩ ops D C F rest' L') (hS:nV S:=by repeat' first|exact True.intro |refine jq ?_ ?_ |exact rfl|omega|(dsimp only; omega)) (hT:j9 P TT:=by exact od):DJ ⟨P,r,n,B,w0⟩ ops D C F rest L:=dP k hs hM j hT h rfl hS
theorem bh (k:Nat) (h:pr TT n ops [] k [] L rest=some (L',rest',S)) (j:RJ ⟨P,r,n,B,w0⟩ ops Q rest' D L' C) (hS:nV S:=by repeat' first|exact True.intro |refine jq ?_ ?_ |exact rfl|omega|(dsimp only; omega)) (hT:j9 P TT:=by exact od):RJ ⟨P,r,n,B,w0⟩ ops Q rest D L C:=rP k [] I j hT h rfl hS
theorem lQ (k:Nat) (h:pr TT n ops [] k [] L rest=some (L',rest',S)) (j:DJ ⟨P,r,n,B,w0⟩ ops D C F rest' L') (hS:nV S:=by repeat' first|exact True.intro |refine jq ?_ ?_ |exact rfl|omega|(dsimp only; omega)) (hT:j9 P TT:=by exact od):DJ ⟨P,r,n,B,w0⟩ ops D C F rest L:=dP k [] I j hT h rfl hS
end
end
section
open Go.RowKit
/-- parts of a context, reckoned to the end -/
def kK (C:List aq):List Nat→Option (List aq)
 |[]=>some []
 |i::is=>match C[i]? with
  |some A=>match kK C is with
   |some l=>some (A::l)
   |none=>none
  |none=>none
theorem iR {C:List aq}: ∀ {is:List Nat} {C':List aq},kK C is=some C'→kB C is=C'
 |[],C',h=>by cases h; rfl
 |i::is,C',h=>by
  unfold kK at h
  split at h
  ·rename_i A hA
   split at h
   ·rename_i l hl
    cases h
    show List.filterMap (C[·]?) (i::is)=A::l
    rw [List.filterMap_cons_some hA]
    exact congrArg _ (iR hl)
   ·cases h
  ·cases h
/-- a part of a context in place of the whole -/
theorem aK {S:BS} {w0:World} {C C':List aq} (is:List Nat) (hn:decide is.Nodup=true:=by rfl) (hC:kB C is=C':=by rfl): ∀ w,St S w0 C w→St S w0 C' w:=fun w h=>St.kB is hn hC h
theorem JD {S:BS} {w0:World} {C C':List aq} (is:List Nat) (hC:kK C is=some C') (hn:decide is.Nodup=true:=by rfl): ∀ w,St S w0 C w→St S w0 C' w:=fun w h=>St.kB is hn (iR hC) h
def JQ (C:List aq) (i:Nat) (B:aq):Option (List aq):=match i,C with
 |0,_::C=>some (B::C)
 |i+1,A::C=>match JQ C i B with
  |some l=>some (A::l)
  |none=>none
 |_,[]=>none
theorem B0: ∀ {C:List aq} {i:Nat} {B:aq} {C':List aq},JQ C i B=some C'→C.set i B=C'
 |[],0,B,C',h=>by cases h
 |[],i+1,B,C',h=>by cases h
 |A::C,0,B,C',h=>by cases h; rfl
 |A::C,i+1,B,C',h=>by
  unfold JQ at h
  split at h
  ·rename_i l hl
   cases h
   exact congrArg _ (B0 hl)
  ·cases h
theorem gi {E:eD} {K:Act→World→Prop} {D:gj} {L:cY} {C C':List aq} {A B:aq} (i:Nat) (hC:C[i]? =some A) (hh:(∀ w,A.holds w→B.holds w)∧(∀ b,B.eK b→A.eK b)∧ ∀ b,B.wf b→A.wf b) (hC':JQ C i B=some C') (h:KJ E K D L C'):KJ E K D L C:=Fi i hC hh (B0 hC') h
/-- the operations of a region but these; marks of some places -/
def Nt (n:Nat) (T:List Nat):List Nat:=(List.range n).filter fun i=> !T.contains i
def PC (k:Nat) (t:List Nat):List Bool:=(List.range k).map fun i=>t.contains i
theorem ek {E:eD} {id:Nat} {ops:Array Oper} {Q:cP} {D:gj} {L:cY} {C:List aq} (hm:E.P.follows .mixedOrders=true) (T fe tb i1 i2:List Nat) {C' C1:List aq} {free:List Nat} {F2 tbb:List Bool}
 (h1:kK C i1=some C') (h2:kK C i2=some C1) (hf:free=Nt ops.size T) (hfe:F2=PC free.length fe) (htb:tbb=PC T.length tb)
 (h:oh E ops D C' C1 (fun L'=>TJ E ops D C' C1 (fun L C=>KJ E (Q .normal) D L C) tbb (ef ops T) L' C) F2 (ef ops free) L)
 (hc:I3 ops free T F2 tbb=true:=by kernel_rfl) (n1:decide i1.Nodup=true:=by rfl) (n2:decide i2.Nodup=true:=by rfl):WJ E (.region id ops true) Q D L C:=
 Il hm free T F2 tbb C' C1 hc (JD i1 h1 n1) (JD i2 h2 n2) h
end
section
open Go.RowKit
def sJ (T:zJ) (M:List (Nat×List Value)) (L:cY):List ResultVar→List Nat→Option (List Value×List Prop)
 |[],_=>some ([],[])
 | .tmp t::rs,hs=>match L.lookup t with
  |some v=>match sJ T M L rs hs with
   |some (vs,S)=>some (v::vs,S)
   |none=>none
  |none=>none
 | .cell a t::rs,hs=>match L.lookup a with
  |some (.pointer (some ⟨b,o,none⟩))=>match M[hs.headD 0]? with
   |some (b',cs)=>match T.HA t with
    |some (false,_)=>match cs[o]? with
     |some v=>match sJ T M L rs hs.tail with
      |some (vs,S)=>some (v::vs,(b'=b)::S)
      |none=>none
     |none=>none
    |some (true,n)=>match Nat.beq o 0 with
     |true=>match Nat.beq cs.length n with
      |true=>match sJ T M L rs hs.tail with
       |some (vs,S)=>some (.agg cs.toArray::vs,(b'=b)::S)
       |none=>none
      |false=>none
     |false=>match sJ T M L rs hs.tail with
      |some (vs,S)=>some (.agg ((cs.drop o).take n).toArray::vs,(b'=b)::(((cs.drop o).take n).length=n)::S)
      |none=>none
    |none=>none
   |none=>none
  |_=>none
theorem mS {P:Program} {T:zJ} {M:List (Nat×List Value)} {L:cY} {C:List aq} (hT:j9 P T) (hM:MM C M): ∀ (rs:List ResultVar) (hs:List Nat) {vs:List Value} {S:List Prop},sJ T M L rs hs=some (vs,S)→nV S→D7 P L C rs vs
 |[],_,vs,S,h,hS=>by unfold sJ at h; cases h; exact trivial
 | .tmp t::rs,hs,vs,S,h,hS=>by
  unfold sJ at h
  split at h
  ·rename_i v hv
   split at h
   ·rename_i vs' S' hr
    cases h
    exact ⟨hv,mS hT hM rs hs hr hS⟩
   ·cases h
  ·cases h
 | .cell a t::rs,hs,vs,S,h,hS=>by
  unfold sJ at h
  split at h
  ·rename_i b o hl
   split at h
   ·rename_i b' cs hm
    have A:=aT hm
    split at h
    ·rename_i hk
     split at h
     ·rename_i v hv
      split at h
      ·rename_i vs' S' hr
       cases h
       obtain ⟨rfl,hS⟩:=hS
       exact ⟨⟨_,hl,.inr ⟨_,hT.HA hk,hM _ A _ _ (sc hv)⟩⟩,mS hT hM rs _ hr hS⟩
      ·cases h
     ·cases h
    ·rename_i n hk
     split at h
     ·rename_i ho
      split at h
      ·rename_i hn
       split at h
       ·rename_i vs' S' hr
        cases h
        obtain ⟨rfl,hS⟩:=hS
        have D:=Nat.eq_of_beq_eq_true ho
        subst D
        exact ⟨⟨_,hl,.inl ⟨_,cs,hT.HA hk,hM _ A 0 cs sm,Nat.eq_of_beq_eq_true hn,U⟩⟩,mS hT hM rs _ hr hS⟩
       ·cases h
      ·cases h
     ·split at h
      ·rename_i vs' S' hr
       cases h
       obtain ⟨rfl,B,hS⟩:=hS
       exact ⟨⟨_,hl,.inl ⟨_,_,hT.HA hk,hM _ A o _ (by rw [B]),B,U⟩⟩,mS hT hM rs _ hr hS⟩
      ·cases h
    ·cases h
   ·cases h
  ·cases h
section
variable {P:Program} {n:Nat} {fn:Func} {w0:World} {K:Act→World→Prop} {L:List (Nat×Value)} {C:List aq} {M:List (Nat×List Value)} {vs:List Value} {S:List Prop} {u x v:Value}
theorem HH (hQ: ∀ D L C,LJ ⟨P,none,n,qA,w0⟩ fn (zk w0 v) D L C→KJ ⟨P,none,n,qA,w0⟩ K D L C) (hs:List Nat) (hM:MM C M) (h:sJ TT M L fn.results.toList hs=some ([u],S)) (e:u=v) (hS:nV S:=by repeat' first|exact True.intro |refine jq rfl ?_) (hT:j9 P TT:=by exact od):KJ ⟨P,none,n,qA,w0⟩ K [] L C:=
 hQ _ _ _ (gp (mS hT hM _ _ h hS) fun w hs=>Ab e hs)
theorem mO (hQ: ∀ D L C,LJ ⟨P,none,n,qA,w0⟩ fn (zk w0 v) D L C→KJ ⟨P,none,n,qA,w0⟩ K D L C) (hs:List Nat) (hM:MM C M) (h:sJ TT M L fn.results.toList hs=some (u::x::vs,S)) (e:Value.tuple (u::x::vs).toArray=v) (hS:nV S:=by repeat' first|exact True.intro |refine jq rfl ?_) (hT:j9 P TT:=by exact od):KJ ⟨P,none,n,qA,w0⟩ K [] L C:=
 hQ _ _ _ (gp (mS hT hM _ _ h hS) fun w hs=>Ab e hs)
theorem LX {α:Type} {V:α→Value} {p:α→Prop} {N:α→List aq} (hQ: ∀ D L C,LJ ⟨P,none,n,qA,w0⟩ fn (Hl w0 V p N) D L C→KJ ⟨P,none,n,qA,w0⟩ K D L C) (x:α) (is hs:List Nat) (hM:MM C M) (h:sJ TT M L fn.results.toList hs=some (vs,S)) (hw:(N x).all (·.wr)=true) (hN:kB C is=N x) (hV:Mb vs=V x) (hp:p x) (hn:decide is.Nodup=true:=by rfl) (hS:nV S:=by repeat' first|exact True.intro |refine jq rfl ?_) (hT:j9 P TT:=by exact od):KJ ⟨P,none,n,qA,w0⟩ K [] L C:=
 hQ _ _ _ (gp (mS hT hM _ _ h hS) fun w hs=>ER x is hV hp hn hN hw hs)
theorem LM {A:aq} {α:Type} {V:α→Value} {p:α→Prop} {A':α→aq} (hQ: ∀ D L C,LJ ⟨P,none,n,⟨A.wf,fun _=>True⟩,w0⟩ fn (Jg w0 A V p A') D L C→KJ ⟨P,none,n,⟨A.wf,fun _=>True⟩,w0⟩ K D L C) (x:α) (i:Nat) (hs:List Nat) (hM:MM C M) (h:sJ TT M L fn.results.toList hs=some (vs,S)) (hw:(A' x).wr=true) (hC:C[i]? =some (A' x)) (hV:Mb vs=V x) (hp:p x) (hS:nV S:=by repeat' exact True.intro) (hT:j9 P TT:=by exact od):KJ ⟨P,none,n,⟨A.wf,fun _=>True⟩,w0⟩ K [] L C:=
 hQ _ _ _ (gp (mS hT hM _ _ h hS) fun w hs=>NC x i hV hp hC hw hs)
end
end
section
open Go.RowKit
def Bn {α:Type _}:List α→List α→Option (List α)
 |[],m=>some m
 |a::l,m=>match Bn l m with
  |some r=>some (a::r)
  |none=>none
theorem Cg {α:Type _}: ∀ {l m r:List α},Bn l m=some r→l++m=r
 |[],m,r,h=>by cases h; rfl
 |a::l,m,r,h=>by
  unfold Bn at h
  split at h
  ·rename_i r' hr
   cases h
   exact congrArg (a:: ·) (Cg hr)
  ·cases h
def Ou (L:cY):List Nat→Option (cY)
 |[]=>some []
 |t::ts=>match L.lookup t with
  |some v=>match Ou L ts with
   |some r=>some ((t,v)::r)
   |none=>none
  |none=>none
theorem Bt {L M:cY} (k:ee L M): ∀ {ts:List Nat} {r:cY},Ou L ts=some r→ee L (r++M)
 |[],r,h=>by cases h; exact k
 |t::ts,r,h=>by
  unfold Ou at h
  split at h
  ·rename_i v hv
   split at h
   ·rename_i r' hr
    cases h
    exact ee.cons hv (Bt k hr)
   ·cases h
  ·cases h
section
variable {E:eD} {Q:cP} {D:List Deferred} {L L0:List (Nat×Value)} {C C0:List aq} {ι:Type} {Li:ι→List (Nat×Value)} {Ci:ι→List aq}
theorem bR {c:Code} (kL kC:List Nat) (hL:Ou L kL=some L0) (hC0:kK C kC=some C0) (S:ι→cY) (G:ι→List aq) (hLi: ∀ x,Bn L0 (S x)=some (Li x)) (hCi: ∀ x,Bn C0 (G x)=some (Ci x)) (μ:ι→Nat) (x0:ι)
 (h0:ee L (S x0)) (hC: ∀ w,St E.S E.w0 C w→St E.S E.w0 (Ci x0) w)
 (round: ∀ x (J:Act→World→Prop),(∀ y D' L' C',D'=D→μ y<μ x→ee L' (Li y)→(∀ w,St E.S E.w0 C' w→St E.S E.w0 (Ci y) w)→KJ E J D' L' C')→WJ E c (Exit.then J Q) D (Li x) (Ci x)):WJ E (.loop c) Q D L C:=
 L5 Li Ci μ x0 (Cg (hLi x0)▸Bt h0 hL) hC round
theorem qu {x y:Code} (kL kC:List Nat) (hL:Ou L kL=some L0) (hC0:kK C kC=some C0) (S:ι→cY) (G:ι→List aq) (hLi: ∀ x,Bn L0 (S x)=some (Li x)) (hCi: ∀ x,Bn C0 (G x)=some (Ci x))
 (hy: ∀ z,WJ E y Q D (Li z) (Ci z)) (h: ∀ K:Act→World→Prop,(∀ z,KJ E K D (Li z) (Ci z))→WJ E x (Exit.then K Q) D L C):WJ E (.seq x y) Q D L C:=L4 Li Ci hy h
end
end
section
open Go.RowKit
set_option linter.unusedSectionVars false
/-- what is asked of keys -/
structure qS (P:Program) (kt:Nat) {K:Type} (kV:K→Value):Prop where
 check: ∀ (e:Bool) (x:K) (w:World),(Instr.checkKey e 10000 kt (kV x)).run P w= .ok () w
 find: ∀ (x:K) (w:World) (es:List MapEntry),(∀ e∈es,∃ k,e.key=kV k)→
  ((Instr.findKey kt (kV x) es).run P w= .ok none w∧ ∀ e∈es,e.key≠kV x)∨ ∃ j e,(Instr.findKey kt (kV x) es).run P w= .ok (some (j,e.val)) w∧es[j]? =some e∧e.key=kV x
 bits: ∀ x,Instr.sameBits 10000 (kV x) (kV x)=true
 inj: ∀ x y,kV x=kV y→x=y
section
variable {K:Type} [DecidableEq K] {kV:K→Value}
def dN {β:Type} (l:List (K×β)) (x:K) (y:β):List (K×β):=if (l.lookup x).isSome then l.map (fun p=>if p.1=x then (x,y) else p) else l++[(x,y)]
def bY {β:Type} (l:List (K×β)) (x:K):List (K×β):=l.filter fun p=> !decide (p.1=x)
def bK {β γ:Type} (f:β→γ) (l:List (K×β)):List (K×γ):=l.map fun p=>(p.1,f p.2)
theorem D9 {β γ:Type} (f:β→γ) (l:List (K×β)):(bK f l).length=l.length:=by simp [bK]
theorem lL {β γ:Type} (f:β→γ) (x:K): ∀ l:List (K×β),(bK f l).lookup x=(l.lookup x).map f
 |[]=>rfl
 |p::l=>by
  obtain ⟨k,v⟩:=p
  have ih:=lL f x l
  by_cases h:x=k
  ·subst h; simp [bK,List.lookup]
  ·have:(x==k)=false:=by simpa using h
   simp only [bK,List.map_cons,List.lookup,this] at ih ⊢
   exact ih
theorem fI {β γ:Type} (f:β→γ) (l:List (K×β)) (x:K) (y:β):bK f (dN l x y)=dN (bK f l) x (f y):=by
 unfold dN
 rw [lL,Option.isSome_map]
 split
 ·simp only [bK,List.map_map]
  refine List.map_congr_left fun p _=>?_
  simp only [Function.comp]
  split<;>rfl
 ·simp [bK]
theorem ky {β γ:Type} (f:β→γ) (l:List (K×β)) (x:K):bK f (bY l x)=bY (bK f l) x:=by
 unfold bY bK
 rw [List.filter_map]
 rfl
theorem iB {β:Type} {x:K}: ∀ {l:List (K×β)},l.lookup x=none↔ ∀ p∈l,p.1≠x
 |[]=>by simp
 |p::l=>by
  obtain ⟨k,v⟩:=p
  by_cases h:x=k
  ·subst h; simp [List.lookup]
  ·have hb:(x==k)=false:=by simpa using h
   simp only [List.lookup,hb,bw,forall_eq_or_imp]
   rw [iB (l:=l)]
   exact ⟨fun q=>⟨fun e=>h e.symm,q⟩,fun q=>q.2⟩
theorem jf {β:Type} {x:K} {y:β}: ∀ {l:List (K×β)},(l.map (·.1)).Nodup→((x,y)∈l↔l.lookup x=some y)
 |[],_=>by simp
 |p::l,hn=>by
  obtain ⟨k,v⟩:=p
  simp only [List.map_cons,List.nodup_cons] at hn
  by_cases h:x=k
  ·subst h
   simp only [List.lookup,beq_self_eq_true,bw,Prod.mk.injEq,true_and,Option.some.injEq]
   constructor
   ·rintro (e|e)
    ·exact e.symm
    ·exact absurd (b_.2 ⟨_,e,U⟩) hn.1
   ·intro e; exact .inl e.symm
  ·have hb:(x==k)=false:=by simpa using h
   simp only [List.lookup,hb,bw,Prod.mk.injEq,h,false_and,false_or]
   exact jf hn.2
structure hZ (kV:K→Value) (es:Array MapEntry) (c:Nat) (m:List (K×Value)):Prop where
 list:es.toList.map (fun (e:MapEntry)=>(e.key,e.val))=m.map (fun p=>(kV p.1,p.2))
 keys:(m.map (·.1)).Nodup
 Gy: ∀ e∈es.toList,e.born<c
 born:(es.toList.map (·.born)).Nodup
def gQ (kV:K→Value) (b:Nat) (m:List (K×Value)):aq where
 eK k:=k=b
 wf k:=k=b
 holds w:= ∃ es c,w.heap[b]? =some (.map es c)∧hZ kV es c m
 wr:=true
 jE _ h:=h
 whole _ _ h:=h
 lt w h k hk:=by obtain ⟨es,c,he,_⟩:=h; exact hk▸dG he
 mZ w w' hk h:=by obtain ⟨es,c,he,hm⟩:=h; exact ⟨es,c,(hk b rfl).trans he,hm⟩
theorem hZ.nil:hZ kV #[] 0 []:=⟨rfl,List.nodup_nil,sm,List.nodup_nil⟩
theorem hZ.size {es:Array MapEntry} {c:Nat} {m:List (K×Value)} (h:hZ kV es c m):es.size=m.length:=by
 have:=congrArg List.length h.list
 simpa using this
theorem Am {P:Program} {kt:Nat} (hk:qS P kt kV) (x:K): ∀ (es:List MapEntry) (m:List (K×Value)),es.map (fun (e:MapEntry)=>(e.key,e.val))=m.map (fun p=>(kV p.1,p.2))→
 ((∀ e∈es,e.key≠kV x)→m.lookup x=none)∧ ∀ (j:Nat) (e:MapEntry),es[j]? =some e→e.key=kV x→m[j]? =some (x,e.val):=by
 intro es m h
 refine ⟨fun hn=>iB.2 fun p hp e=>?_,fun j e he hx=>?_⟩
 ·have:(kV p.1,p.2)∈es.map (fun (e:MapEntry)=>(e.key,e.val)):=by rw [h]; exact b_.2 ⟨p,hp,rfl⟩
  obtain ⟨z,hz,B⟩:=b_.1 this
  simp only [Prod.mk.injEq] at B
  exact hn z hz (by rw [B.1,e])
 ·have A:(es.map (fun (e:MapEntry)=>(e.key,e.val)))[j]? =some (e.key,e.val):=by rw [eX,he]; rfl
  rw [h,eX] at A
  cases hm:m[j]? with
  |none=>simp [hm] at A
  |some p=>
   simp only [hm,Option.map_some,Option.some.injEq,Prod.mk.injEq] at A
   have:=hk.inj _ _ (A.1.trans hx)
   obtain ⟨k,v⟩:=p
   simp only at this A
   rw [this,A.2]
theorem ni {P:Program} {w:World} {kt:Nat} {x:K} {es:Array MapEntry} {c:Nat} {m:List (K×Value)} (hk:qS P kt kV) (h:hZ kV es c m):
 ((Instr.findKey kt (kV x) es.toList).run P w= .ok none w∧m.lookup x=none)∨
 ∃ j v,(Instr.findKey kt (kV x) es.toList).run P w= .ok (some (j,v)) w∧m[j]? =some (x,v)∧m.lookup x=some v:=by
 obtain ⟨D,E⟩:=Am hk x es.toList m h.list
 rcases hk.find x w es.toList (fun e he=>by
  have:(e.key,e.val)∈m.map (fun p=>(kV p.1,p.2)):=by rw [← h.list]; exact b_.2 ⟨e,he,rfl⟩
  obtain ⟨p,_,hp⟩:=b_.1 this
  simp only [Prod.mk.injEq] at hp
  exact ⟨p.1,hp.1.symm⟩) with ⟨A,B⟩|⟨j,e,A,B,C⟩
 ·exact .inl ⟨A,D B⟩
 ·have:=E j e B C
  exact .inr ⟨j,e.val,A,this,(jf h.keys).1 (aT this)⟩
theorem g5 {P:Program} {w:World} {kt:Nat} {x:K} (hk:qS P kt kV) (e:Bool):(Instr.checkKey e 10000 kt (kV x)).run P w= .ok () w:=hk.check e x w
section
variable {E:eD} {ops:Array Oper} {Q:cP} {rest:List Oper} {D:List Deferred} {L:List (Nat×Value)} {C:List aq}
variable {dst:Option Tmp} {d:Nat} {ty:TypeId} {ps:String} {af:Array Edge} {g:Option (Nat×Bool)}
theorem my {t:TypeId} (hg:iK ops L g=true) (hd:Nat.blt d E.n=true) (k: ∀ b,RJ E ops Q rest D ((d,.map (some b))::L) (gQ kV b []::C)):RJ E ops Q (⟨some d,.makeMap t none,ty,ps,af,g⟩::rest) D L C:=by
 intro a w B hs
 have hd':d<E.n:=by rw [← Nat.blt_eq]; exact hd
 unfold pw
 rw [if_pos (dv B hg)]
 refine fX (v:= .map (some w.heap.size)) (w':=w.alloc (.map #[] 0)) sm ?_ ?_
 ·simp [execOp,Instr.makeMap,newObj,Sem.run]
 ·refine k _ _ _ (B.put hd' _) (hs.grow (du.alloc no w _) (N:=[gQ kV w.heap.size []]) ⟨fun A hA=>?_,fun A hA b hb=>?_,List.pairwise_singleton _ _⟩)
  ·simp at hA; subst hA; exact ⟨#[],0,heap_alloc_new w _,hZ.nil⟩
  ·simp at hA; subst hA; exact Nat.le_of_eq (Eq.symm hb)
theorem hZ.push {es:Array MapEntry} {c:Nat} {m:List (K×Value)} (h:hZ kV es c m) {x:K} (hx:m.lookup x=none) (v:Value):hZ kV (es.push {key:=kV x,val:=v,born:=c}) (c+1) (m++[(x,v)]):=by
 refine ⟨by simp [h.list],?_,?_,?_⟩
 ·rw [List.map_append,List.nodup_append]
  refine ⟨h.keys,sm,fun a ha b hb=>?_⟩
  simp at hb; subst hb
  obtain ⟨p,hp,rfl⟩:=b_.1 ha
  exact iB.1 hx p hp
 ·intro e he
  simp only [Array.toList_push,dM,bJ] at he
  rcases he with he|rfl
  ·exact Nat.lt_succ_of_lt (h.Gy e he)
  ·exact Nat.lt_succ_self _
 ·simp only [Array.toList_push,List.map_append,List.map_cons,List.map_nil]
  rw [List.nodup_append]
  refine ⟨h.born,sm,fun a ha b hb=>?_⟩
  simp at hb; subst hb
  obtain ⟨p,hp,rfl⟩:=b_.1 ha
  exact Nat.ne_of_lt (h.Gy p hp)
theorem It {m:List (K×Value)} {j:Nat} {x:K} {v0 v:Value} (hn:(m.map (·.1)).Nodup) (hj:m[j]? =some (x,v0)):m.map (fun p=>if p.1=x then (x,v) else p)=m.set j (x,v):=by
 refine List.ext_getElem? fun i=>?_
 rw [eX,List.getElem?_set]
 by_cases e:j=i
 ·subst e
  have hl:=(aY.1 hj).1
  rw [hj]; simp [hl]
 ·rw [if_neg e]
  cases hi:m[i]? with
  |none=>rfl
  |some p=>
   simp only [Option.map_some]
   rw [if_neg]
   intro hp
   have B:(m.map (·.1))[i]? =some x:=by rw [eX,hi]; simp [hp]
   have C:(m.map (·.1))[j]? =some x:=by rw [eX,hj]; rfl
   have A:=(aY.1 B).1
   exact e (((List.getElem?_inj A hn).1 (B.trans C.symm)).symm)
theorem hZ.set {es:Array MapEntry} {c:Nat} {m:List (K×Value)} (h:hZ kV es c m) {x:K} {j:Nat} {v0:Value} (hj:m[j]? =some (x,v0)) (hx:m.lookup x=some v0) (v:Value):
 hZ kV (es.modify j fun e=>{e with key:=kV x,val:=v}) c (dN m x v):=by
 have C:dN m x v=m.set j (x,v):=by unfold dN; rw [hx]; simpa using It h.keys hj
 have hl:=(aY.1 hj).1
 have E:=h.size
 have A:j<es.size:=by omega
 have B:(es.modify j fun e=>{e with key:=kV x,val:=v}).toList=es.toList.set j {(es[j]) with key:=kV x,val:=v}:=by
  refine List.ext_getElem? fun i=>?_
  rw [Array.getElem?_toList,Array.getElem?_modify,List.getElem?_set]
  by_cases e:j=i
  ·subst e; simp [A]
  ·simp [e]
 have D:(es.toList.set j {(es[j]) with key:=kV x,val:=v}).map (·.born)=es.toList.map (·.born):=by
  rw [List.map_set]
  refine List.ext_getElem? fun i=>?_
  rw [List.getElem?_set]
  by_cases e:j=i
  ·subst e; simp [A]
  ·rw [if_neg e]
 refine ⟨?_,?_,?_,?_⟩
 ·rw [B,C,List.map_set,List.map_set,h.list]
 ·rw [C,List.map_set]
  have:(m.map (·.1)).set j x=m.map (·.1):=by
   refine List.ext_getElem? fun i=>?_
   rw [List.getElem?_set]
   by_cases e:j=i
   ·subst e; simp [hl]; simpa using (congrArg Prod.fst ((aY.1 hj).2)).symm
   ·rw [if_neg e]
  simp only [this]
  exact h.keys
 ·intro e he
  rw [B] at he
  have hb:e.born∈(es.toList.set j {(es[j]) with key:=kV x,val:=v}).map (·.born):=b_.2 ⟨e,he,rfl⟩
  rw [D] at hb
  obtain ⟨e',he',hq⟩:=b_.1 hb
  rw [← hq]; exact h.Gy e' he'
 ·rw [B,D]; exact h.born
/-- m[x] = y -/
theorem ig {t kt et:TypeId} {xm xk xv:Operand} {b:Nat} {x:K} {v:Value} {m m':List (K×Value)} {C':List aq} (i:Nat) (hg:iK ops L g=true) (hm:ev L xm=some (.map (some b))) (hk:ev L xk=some (kV x)) (hv:ev L xv=some v)
 (ht:E.P.underlying t=some (.map kt et)) (hkt:qS E.P kt kV) (hC:C[i]? =some (gQ kV b m)) (hm':dN m x v=m') (hC':C.set i (gQ kV b m')=C') (k:RJ E ops Q rest D L C'):
 RJ E ops Q (⟨none,.mapUpdate t xm xk xv,ty,ps,af,g⟩::rest) D L C:=by
 subst hm' hC'
 intro a w A hs
 unfold pw
 rw [if_pos (dv A hg)]
 obtain ⟨es,c,he,hi⟩:=hs.holds _ (aT hC)
 have B:(getObj b).run E.P w= .ok (.map es c) w:=MapKept.run_getObj_map he
 rcases ni (P:=E.P) (w:=w) (x:=x) hkt hi with ⟨AA,F⟩|⟨j,N,AA,F,J⟩
 ·refine pq (w':={w with heap:=w.heap.setIfInBounds b (.map (es.push {key:=kV x,val:=v,born:=c}) (c+1))}) sm ?_ ?_
  ·simp [execOp,A.ev hm,A.ev hk,A.ev hv,Instr.mapUpdate,run_underlying ht,B,g5 hkt,AA,MapKept.run_setObj_map _ he]
  ·refine k _ _ ⟨A.defers,A.size,A.at_⟩ (hs.zI (b:=b) i hC U U (lZ _) (fun _ h=>h) ⟨_,_,nF he,?_⟩)
   have:dN m x v=m++[(x,v)]:=by unfold dN; rw [F]; rfl
   rw [this]; exact hi.push F v
 ·have M:=hi.size
  have G:j<es.size:=by have:=(aY.1 F).1; omega
  have H:(es[j]).key=kV x:=by
   have:=congrArg (fun l=>l[j]?) hi.list
   simp [G,F] at this
   exact this.1
  refine pq (w':={w with heap:=w.heap.setIfInBounds b (.map (es.modify j fun e=>{e with key:=kV x,val:=v}) c)}) sm ?_ ?_
  ·simp [execOp,A.ev hm,A.ev hk,A.ev hv,Instr.mapUpdate,run_underlying ht,B,g5 hkt,AA,MapKept.run_setObj_map _ he,Instr.keyThatStays,G,H,hkt.bits x]
  ·exact k _ _ ⟨A.defers,A.size,A.at_⟩ (hs.zI (b:=b) i hC U U (lZ _) (fun _ h=>h) ⟨_,_,nF he,hi.set F J v⟩)
theorem hZ.del {es:Array MapEntry} {c:Nat} {m:List (K×Value)} (h:hZ kV es c m) {x:K} {j:Nat} {v0:Value} (hj:m[j]? =some (x,v0)):hZ kV (es.eraseIdxIfInBounds j) c (bY m x):=by
 have hl:=(aY.1 hj).1
 have D:=h.size
 have A:j<es.size:=by omega
 have B:(es.eraseIdxIfInBounds j).toList=es.toList.eraseIdx j:=by simp [Array.eraseIdxIfInBounds,A]
 have E:bY m x=m.eraseIdx j:=by
  have hn:=h.keys
  clear h D A B
  induction m generalizing j with
  |nil=>simp at hj
  |cons p m ih=>
   obtain ⟨k,v⟩:=p
   simp only [List.map_cons,List.nodup_cons] at hn
   cases j with
   |zero=>
    simp at hj
    obtain ⟨rfl,rfl⟩:=hj
    simp only [bY,List.eraseIdx_zero,List.tail_cons]
    rw [List.filter_cons_of_neg sm]
    refine List.filter_eq_self.2 fun p hp=>?_
    have:p.1≠k:=fun e=>hn.1 (b_.2 ⟨p,hp,e⟩)
    simpa using this
   |succ j=>
    simp only [List.getElem?_cons_succ] at hj
    have C:k≠x:=fun e=>hn.1 (b_.2 ⟨_,aT hj,e.symm⟩)
    simp only [bY,List.eraseIdx_cons_succ] at ih ⊢
    rw [List.filter_cons_of_pos (by simpa using C),ih hj (by simpa using (aY.1 hj).1) hn.2]
 have sub:(es.eraseIdxIfInBounds j).toList.Sublist es.toList:=by rw [B]; exact List.eraseIdx_sublist _ _
 refine ⟨?_,?_,fun e he=>h.Gy e (sub.subset he),h.born.sublist (sub.map _)⟩
 ·rw [B,E,ChangeMaps.map_eraseIdx,ChangeMaps.map_eraseIdx,h.list]
 ·rw [E]; exact h.keys.sublist ((List.eraseIdx_sublist _ _).map _)
theorem AI {m:List (K×Value)} {x:K} (h:m.lookup x=none):bY m x=m:=List.filter_eq_self.2 fun p hp=>by simpa using iB.1 h p hp
/-- y, ok := m[x] -/
theorem Gm {t kt et:TypeId} {xm xk:Operand} {b:Nat} {x:K} {z:Value} {m:List (K×Value)} (hg:iK ops L g=true) (hm:ev L xm=some (.map (some b))) (hk:ev L xk=some (kV x))
 (ht:E.P.underlying t=some (.map kt et)) (hkt:qS E.P kt kV) (hz:tV E.P et=some z) (hC:ju C (gQ kV b m).holds):
 SD E ops ⟨dst,.lookup t xm xk true,ty,ps,af,g⟩ D L C (.tuple [(m.lookup x).getD z,.bool (m.lookup x).isSome].toArray):=
 di hg sm fun a w A hs=>by
  obtain ⟨es,c,he,hi⟩:=hs.has hC
  have B:(getObj b).run E.P w= .ok (.map es c) w:=MapKept.run_getObj_map he
  rcases ni (P:=E.P) (w:=w) (x:=x) hkt hi with ⟨F,G⟩|⟨j,AA,F,G,H⟩
  ·simp [execOp,Instr.lookup,A.ev hm,A.ev hk,run_underlying ht,B,g5 hkt,F,G,Hf hz]
  ·simp [execOp,Instr.lookup,A.ev hm,A.ev hk,run_underlying ht,B,g5 hkt,F,H]
/-- m[x] -/
theorem DG {t kt et:TypeId} {xm xk:Operand} {b:Nat} {x:K} {z:Value} {m:List (K×Value)} (hg:iK ops L g=true) (hm:ev L xm=some (.map (some b))) (hk:ev L xk=some (kV x))
 (ht:E.P.underlying t=some (.map kt et)) (hkt:qS E.P kt kV) (hz:tV E.P et=some z) (hC:ju C (gQ kV b m).holds):
 SD E ops ⟨dst,.lookup t xm xk false,ty,ps,af,g⟩ D L C ((m.lookup x).getD z):=
 di hg sm fun a w A hs=>by
  obtain ⟨es,c,he,hi⟩:=hs.has hC
  have B:(getObj b).run E.P w= .ok (.map es c) w:=MapKept.run_getObj_map he
  rcases ni (P:=E.P) (w:=w) (x:=x) hkt hi with ⟨F,G⟩|⟨j,AA,F,G,H⟩
  ·simp [execOp,Instr.lookup,A.ev hm,A.ev hk,run_underlying ht,B,g5 hkt,F,G,Hf hz]
  ·simp [execOp,Instr.lookup,A.ev hm,A.ev hk,run_underlying ht,B,g5 hkt,F,H]
/-- len(m) -/
theorem G1 {t kt et:TypeId} {xm:Operand} {b:Nat} {m:List (K×Value)} (hg:iK ops L g=true) (hm:ev L xm=some (.map (some b))) (ht:E.P.underlying t=some (.map kt et)) (hC:ju C (gQ kV b m).holds):
 SD E ops ⟨dst,.call {callee:= .builtin .len,args:= #[xm],argTypes:= #[t]},ty,ps,af,g⟩ D L C (.int .i64 (m.length:Int)):=
 di hg sm fun a w B hs=>by
  obtain ⟨es,c,he,hi⟩:=hs.has hC
  have A:(getObj b).run E.P w= .ok (.map es c) w:=MapKept.run_getObj_map he
  simp [execOp,resolve,invoke,builtin,B.ev hm,Builtin.len_,run_underlying ht,A,hi.size,goInt]
theorem jM {β:Type} {t kt et:TypeId} {xm xk:Operand} {b:Nat} {x:K} {f:β→Value} {z:β} {l:List (K×β)} (hg:iK ops L g=true) (hm:ev L xm=some (.map (some b))) (hk:ev L xk=some (kV x))
 (ht:E.P.underlying t=some (.map kt et)) (hkt:qS E.P kt kV) (hz:tV E.P et=some (f z)) (hC:ju C (gQ kV b (bK f l)).holds):
 SD E ops ⟨dst,.lookup t xm xk true,ty,ps,af,g⟩ D L C (.tuple [f ((l.lookup x).getD z),.bool (l.lookup x).isSome].toArray):=by
 have:=Gm (dst:=dst) (ty:=ty) (ps:=ps) (af:=af) (D:=D) hg hm hk ht hkt hz hC
 rw [lL] at this
 have A:((l.lookup x).map f).getD (f z)=f ((l.lookup x).getD z):=by cases l.lookup x<;>rfl
 rw [A,Option.isSome_map] at this
 exact this
theorem jW {β:Type} {t kt et:TypeId} {xm xk:Operand} {b:Nat} {x:K} {f:β→Value} {z:β} {l:List (K×β)} (hg:iK ops L g=true) (hm:ev L xm=some (.map (some b))) (hk:ev L xk=some (kV x))
 (ht:E.P.underlying t=some (.map kt et)) (hkt:qS E.P kt kV) (hz:tV E.P et=some (f z)) (hC:ju C (gQ kV b (bK f l)).holds):
 SD E ops ⟨dst,.lookup t xm xk false,ty,ps,af,g⟩ D L C (f ((l.lookup x).getD z)):=by
 have:=DG (dst:=dst) (ty:=ty) (ps:=ps) (af:=af) (D:=D) hg hm hk ht hkt hz hC
 rw [lL] at this
 have A:((l.lookup x).map f).getD (f z)=f ((l.lookup x).getD z):=by cases l.lookup x<;>rfl
 rw [A] at this
 exact this
theorem zM {β:Type} {t kt et:TypeId} {xm:Operand} {b:Nat} {f:β→Value} {l:List (K×β)} (hg:iK ops L g=true) (hm:ev L xm=some (.map (some b))) (ht:E.P.underlying t=some (.map kt et)) (hC:ju C (gQ kV b (bK f l)).holds):
 SD E ops ⟨dst,.call {callee:= .builtin .len,args:= #[xm],argTypes:= #[t]},ty,ps,af,g⟩ D L C (.int .i64 (l.length:Int)):=by
 have:=G1 (dst:=dst) (ty:=ty) (ps:=ps) (af:=af) (D:=D) hg hm ht hC
 rwa [D9] at this
end
theorem er {β:Type} {x:K} {y:β} {l:List (K×β)} (h:(x,y)∈l):(bY l x).length<l.length:=by
 unfold bY
 exact List.length_filter_lt_length_iff_exists.2 ⟨_,h,sm⟩
theorem jo {β:Type} {x:K} {p:K×β} {l:List (K×β)}:p∈bY l x↔p∈l∧p.1≠x:=by simp [bY]
/-- an iterator over a map: what is left; what came last -/
def wk (kV:K→Value) (r b:Nat) (m left:List (K×Value)) (cur:Option (K×Value)):aq where
 eK k:=k=r∨k=b
 wf k:=k=r∨k=b
 holds w:=r≠b∧ ∃ (es:Array MapEntry) (c since:Nat) (seen:Array Nat) (st:Nat),w.heap[b]? =some (.map es c)∧hZ kV es c m∧w.heap[r]? =some (.mapIter (some b) since seen st)∧(∀ e∈es.toList,e.born<since)∧since≤st∧since≤c∧
  (leftOf es seen).toList.map (fun (e:MapEntry)=>(e.key,e.val))=left.map (fun p=>(kV p.1,p.2))∧
  ∀ p,cur=some p→ ∃ (e:MapEntry) (seen0:Array Nat),e∈es.toList∧seen=seen0.push e.born∧st=c∧e.key=kV p.1∧e.val=p.2
 wr:=true
 jE _ h:=h
 whole _ _ h:=h
 lt w h k hk:=by
  obtain ⟨_,es,c,since,seen,st,h1,_,h2,_⟩:=h
  rcases hk with rfl|rfl
  ·exact dG h2
  ·exact dG h1
 mZ w w' hk h:=by
  obtain ⟨hne,es,c,since,seen,st,h1,h2,h3,h4⟩:=h
  exact ⟨hne,es,c,since,seen,st,(hk b (.inr rfl)).trans h1,h2,(hk r (.inl rfl)).trans h3,h4⟩
theorem uM {r b:Nat} {m left:List (K×Value)} {cur:Option (K×Value)}:(∀ w,(wk kV r b m left cur).holds w→(wk kV r b m left none).holds w)∧(∀ k,(wk kV r b m left none).eK k→(wk kV r b m left cur).eK k)∧ ∀ k,(wk kV r b m left none).wf k→(wk kV r b m left cur).wf k:=
 ⟨fun w h=>by
  obtain ⟨A,es,c,since,seen,st,B,C,D,E,F,h5',G,_⟩:=h
  exact ⟨A,es,c,since,seen,st,B,C,D,E,F,h5',G,fun p hp=>by cases hp⟩,fun _ h=>h,fun _ h=>h⟩
theorem Ff {r b:Nat} {m left:List (K×Value)} {cur:Option (K×Value)}:(∀ w,(wk kV r b m left cur).holds w→(gQ kV b m).holds w)∧(∀ k,(gQ kV b m).eK k→(wk kV r b m left cur).eK k)∧ ∀ k,(gQ kV b m).wf k→(wk kV r b m left cur).wf k:=
 ⟨fun w h=>by
  obtain ⟨C,es,c,since,seen,st,A,B,_⟩:=h
  exact ⟨es,c,A,B⟩,fun _ h=> .inr h,fun _ h=> .inr h⟩
theorem zz {es:Array MapEntry} {c:Nat} {m:List (K×Value)} (hinj: ∀ x y,kV x=kV y→x=y) (hi:hZ kV es c m) {x y:MapEntry} (hx:x∈es.toList) (hy:y∈es.toList) (e:x.key=y.key):x=y:=by
 have hk:(es.toList.map (·.key))=(m.map (·.1)).map kV:=by
  have:=congrArg (List.map Prod.fst) hi.list
  simpa [Function.comp_def] using this
 have h:(es.toList.map (·.key)).Nodup:=by
  rw [hk,List.nodup_iff_pairwise_ne,List.pairwise_map]
  exact hi.keys.imp (fun B he=>B (hinj _ _ he))
 obtain ⟨i,A⟩:=List.getElem?_of_mem hx
 obtain ⟨j,hj⟩:=List.getElem?_of_mem hy
 have C:(es.toList.map (·.key))[i]? =some x.key:=by rw [eX,A]; rfl
 have D:(es.toList.map (·.key))[j]? =some x.key:=by rw [eX,hj,e]; rfl
 have E:=(List.getElem?_inj (aY.1 C).1 h).1 (C.trans D.symm)
 subst E
 exact Option.some.inj (A.symm.trans hj)
section
variable {E:eD} {ops:Array Oper} {Q:cP} {rest:List Oper} {D:List Deferred} {L:List (Nat×Value)} {C:List aq}
variable {dst:Option Tmp} {d:Nat} {ty:TypeId} {ps:String} {af:Array Edge} {g:Option (Nat×Bool)}
theorem qN {t kt et:TypeId} {xm:Operand} {b:Nat} {m:List (K×Value)} (i:Nat) (hg:iK ops L g=true) (hm:ev L xm=some (.map (some b))) (ht:E.P.underlying t=some (.map kt et)) (hC:C[i]? =some (gQ kV b m)) (hd:Nat.blt d E.n=true)
 (k: ∀ r,RJ E ops Q rest D ((d,.pointer (some ⟨r,0,none⟩))::L) (C.set i (wk kV r b m m none))):RJ E ops Q (⟨some d,.range t xm,ty,ps,af,g⟩::rest) D L C:=by
 intro a w A hs
 have hd':d<E.n:=by rw [← Nat.blt_eq]; exact hd
 unfold pw
 rw [if_pos (dv A hg)]
 obtain ⟨es,c,he,hi⟩:=hs.holds _ (aT hC)
 have F:b<w.heap.size:=dG he
 have B:(getObj b).run E.P w= .ok (.map es c) w:=MapKept.run_getObj_map he
 refine fX (v:= .pointer (some ⟨w.heap.size,0,none⟩)) (w':=w.alloc (.mapIter (some b) c #[] c)) sm ?_ ?_
 ·simp [execOp,Instr.range,A.ev hm,run_underlying ht,B,newObj,Sem.run]
 ·refine k _ _ _ (A.put hd' _) (hs.mv i hC ⟨⟨om,es,c,c,#[],c,?_,hi,heap_alloc_new w _,hi.Gy,Nat.le_refl _,Nat.le_refl _,?_,fun p hp=>by cases hp⟩,du.alloc _ w _,fun q hq=>?_,fun q hq=>?_⟩)
  ·rw [Below.heap_alloc w _ b F]; exact he
  ·have:leftOf es #[]=es:=by unfold leftOf; exact Array.filter_eq_self.2 sm
   rw [this]; exact hi.list
  ·rcases hq with rfl|rfl
   ·exact .inr (Nat.le_refl _)
   ·exact .inl U
  ·rcases hq with rfl|rfl
   ·exact .inr (Nat.le_refl _)
   ·exact .inl U
theorem tF {es:Array MapEntry} {c:Nat} {m left:List (K×Value)} {seen:Array Nat} (hinj: ∀ x y,kV x=kV y→x=y) (hi:hZ kV es c m) (h:(leftOf es seen).toList.map (fun (e:MapEntry)=>(e.key,e.val))=left.map (fun p=>(kV p.1,p.2))):(left.map (·.1)).Nodup:=by
 have B:((leftOf es seen).toList.map (·.key)).Sublist (es.toList.map (·.key)):=by
  unfold leftOf; rw [Array.toList_filter]; exact List.filter_sublist.map _
 have D:(es.toList.map (·.key))=(m.map (·.1)).map kV:=by
  have:=congrArg (List.map Prod.fst) hi.list
  simpa [Function.comp_def] using this
 have E:((leftOf es seen).toList.map (·.key))=(left.map (·.1)).map kV:=by
  have:=congrArg (List.map Prod.fst) h
  simpa [Function.comp_def] using this
 rw [D,E] at B
 have F:((m.map (·.1)).map kV).Nodup:=by
  rw [List.nodup_iff_pairwise_ne,List.pairwise_map]
  exact hi.keys.imp (fun A he=>A (hinj _ _ he))
 have C:=F.sublist B
 rw [List.nodup_iff_pairwise_ne,List.pairwise_map] at C
 rw [List.nodup_iff_pairwise_ne]
 exact C.imp (fun A he=>A (by rw [he]))
theorem Gs (hinj: ∀ x y,kV x=kV y→x=y) {xi:Operand} {r b:Nat} {m left:List (K×Value)} {cur:Option (K×Value)} (i:Nat) (hg:iK ops L g=true) (hm:ev L xi=some (.pointer (some ⟨r,0,none⟩))) (hC:C[i]? =some (wk kV r b m left cur)) (hd:Nat.blt d E.n=true)
 (k0:left=[]→RJ E ops Q rest D ((d,.tuple [.bool false].toArray)::L) C)
 (k1: ∀ x v,(x,v)∈left→(left.map (·.1)).Nodup→RJ E ops Q rest D ((d,.tuple [.bool true,kV x,v].toArray)::L) (C.set i (wk kV r b m (bY left x) (some (x,v))))):
 RJ E ops Q (⟨some d,.next xi false,ty,ps,af,g⟩::rest) D L C:=by
 intro a w G hs
 have hd':d<E.n:=by rw [← Nat.blt_eq]; exact hd
 unfold pw
 rw [if_pos (dv G hg)]
 obtain ⟨R,es,c,since,seen,st,X,hi,Y,J,V,M,A,_⟩:=hs.holds _ (aT hC)
 rcases run_next_at (P:=E.P) w ty r b since st seen es c Y X J V with ⟨Z,hr⟩|⟨e,he,N,H,hr⟩
 ·refine fX (v:= .tuple #[.bool false]) (w':=w) sm ?_ ?_
  ·simp [execOp,G.ev hm,hr]
  ·refine k0 ?_ _ _ (G.put hd' _) hs
   have:(leftOf es seen).toList=[]:=by rw [← List.length_eq_zero_iff,Array.length_toList]; exact Z
   rw [this] at A
   exact List.map_eq_nil_iff.1 A.symm
 ·have O:(e.key,e.val)∈left.map (fun p=>(kV p.1,p.2)):=by rw [← A]; exact b_.2 ⟨e,he,rfl⟩
  obtain ⟨p,hp,S⟩:=b_.1 O
  obtain ⟨x,v⟩:=p
  simp only [Prod.mk.injEq] at S
  obtain ⟨hk,hv⟩:=S
  refine fX (v:= .tuple #[.bool true,e.key,e.val]) (w':=ChangeMaps.setBlock N r (.mapIter (some b) since (seen.push e.born) c)) sm ?_ ?_
  ·simp [execOp,G.ev hm,hr]
  ·rw [← hk,← hv]
   have AA:=tF hinj hi A
   have F:e∈es.toList:=by unfold leftOf at he; rw [Array.toList_filter] at he; exact (List.mem_filter.1 he).1
   have f:c=c:=rfl
   have B:N.heap=w.heap:=by rcases H with rfl|rfl<;>rfl
   refine k1 x v hp AA _ _ (G.put hd' _) (hs.mv i hC ⟨⟨R,es,c,since,seen.push e.born,c,?_,hi,?_,J,M,M,?_,fun q hq=>?_⟩,?_,fun q hq=> .inl hq,fun q hq=> .inl hq⟩)
   ·show (N.heap.setIfInBounds r _)[b]? =_
    rw [Array.getElem?_setIfInBounds_ne R,B]; exact X
   ·show (N.heap.setIfInBounds r _)[r]? =_
    rw [Array.getElem?_setIfInBounds_self_of_lt (by rw [B]; exact dG Y)]
   ·have T:leftOf es (seen.push e.born)=(leftOf es seen).filter (fun z=> !(z.born==e.born)):=by
     unfold leftOf
     rw [Array.filter_filter]
     congr 1
     funext z
     simp only [Array.contains_push,Bool.not_or]
     rw [Bool.and_comm]
    rw [T,Array.toList_filter]
    have key: ∀ (l:List MapEntry) (ll:List (K×Value)),(∀ z∈l,z∈es.toList)→l.map (fun (e:MapEntry)=>(e.key,e.val))=ll.map (fun p=>(kV p.1,p.2))→
     (l.filter (fun z=> !(z.born==e.born))).map (fun (e:MapEntry)=>(e.key,e.val))=(bY ll x).map (fun p=>(kV p.1,p.2)):=by
     intro l
     induction l with
     |nil=>intro ll _ h; cases ll with
      |nil=>rfl
      |cons p ll=>simp at h
     |cons z l ih=>
      intro ll hz h
      cases ll with
      |nil=>simp at h
      |cons p ll=>
       simp only [List.map_cons,List.cons.injEq,Prod.mk.injEq] at h
       have ih':=ih ll (fun y hy=>hz y (by simp [hy])) h.2
       have AB:(z.born=e.born)↔(p.1=x):=by
        constructor
        ·intro hb
         have:z=e:=zD hi.born (hz z sm) F hb
         rw [this] at h
         have:=h.1.1.symm.trans hk.symm
         exact hinj _ _ this
        ·intro hx
         have W:z.key=e.key:=by rw [h.1.1,hx,hk]
         rw [zz hinj hi (hz z sm) F W]
       unfold bY at ih' ⊢
       by_cases hx:p.1=x
       ·rw [List.filter_cons_of_neg (by simp [AB.2 hx]),List.filter_cons_of_neg (by simp [hx])]; exact ih'
       ·rw [List.filter_cons_of_pos (by simpa using fun hb=>hx (AB.1 hb)),List.filter_cons_of_pos (by simpa using hx)]
        simp only [List.map_cons,h.1.1,h.1.2,ih']
    exact key _ _ (fun z hz=>by unfold leftOf at hz; rw [Array.toList_filter] at hz; exact (List.mem_filter.1 hz).1) A
   ·cases hq
    exact ⟨e,seen,F,U,U,hk.symm,hv.symm⟩
   ·refine ⟨?_,?_,?_,?_,fun q hq hn=>?_⟩
    ·rcases H with rfl|rfl<;>rfl
    ·rcases H with rfl|rfl<;>rfl
    ·rcases H with rfl|rfl<;>rfl
    ·show w.heap.size≤(N.heap.setIfInBounds r _).size
     simp [B]
    ·show (N.heap.setIfInBounds r _)[q]? =_
     rw [Array.getElem?_setIfInBounds_ne (fun e=>hn (.inl e.symm)),B]
theorem p9 {xi:Operand} {r b:Nat} {m left:List (K×Value)} {x:K} {v:Value} (i:Nat) (hg:iK ops L g=true) (hm:ev L xi=some (.pointer (some ⟨r,0,none⟩))) (hC:C[i]? =some (wk kV r b m left (some (x,v)))):
 SD E ops ⟨dst,.entry xi,ty,ps,af,g⟩ D L C (.tuple [kV x,v].toArray):=
 di hg sm fun a w F hs=>by
  obtain ⟨N,es,c,since,seen,st,J,hi,M,H,O,AA,G,B⟩:=hs.holds _ (aT hC)
  obtain ⟨e,A,he,rfl,rfl,hk,hv⟩:=B _ rfl
  have:=run_entry_at (P:=E.P) w r b since A es st e M J he hi.born
  simp [execOp,F.ev hm,this,hk,hv]
theorem pS (hinj: ∀ x y,kV x=kV y→x=y) {β:Type} {f:β→Value} {xi:Operand} {r b:Nat} {m:List (K×Value)} {ll:List (K×β)} {cur:Option (K×Value)} (i:Nat) (hg:iK ops L g=true) (hm:ev L xi=some (.pointer (some ⟨r,0,none⟩))) (hC:C[i]? =some (wk kV r b m (bK f ll) cur)) (hd:Nat.blt d E.n=true)
 (k0:ll=[]→RJ E ops Q rest D ((d,.tuple [.bool false].toArray)::L) C)
 (k1: ∀ x y,(x,y)∈ll→(ll.map (·.1)).Nodup→RJ E ops Q rest D ((d,.tuple [.bool true,kV x,f y].toArray)::L) (C.set i (wk kV r b m (bK f (bY ll x)) (some (x,f y))))):
 RJ E ops Q (⟨some d,.next xi false,ty,ps,af,g⟩::rest) D L C:=by
 refine Gs hinj i hg hm hC hd (fun h=>k0 (List.map_eq_nil_iff.1 h)) (fun x v B hn=>?_)
 obtain ⟨p,hp,A⟩:=b_.1 B
 simp only [Prod.mk.injEq] at A
 obtain ⟨rfl,rfl⟩:=A
 have:=k1 p.1 p.2 hp (by simpa [bK,Function.comp_def] using hn)
 rwa [ky] at this
end
end
end
section
structure bO where
 Start:Int
 iL:Int
 nj:List Int
 rX:List (List (Int×aa))
 dZ:Int
 e7:Int
 Lm:Int
def bO.n (w:bO):Nat:=w.nj.length
def e9 (s:Int):ax:=if s<0 then ⟨0,1⟩ else ⟨1,0⟩
def d_ (a b:ax):ax:=⟨a.right+b.right,a.fK+b.fK⟩
def sL (w:bO) (b:Nat):List (Int×aa):=(w.rX[b]?).getD []
def iE (w:bO) (b:Nat):List (Int×aa):=(-1,⟨w.Start,w.iL⟩)::sL w b
def cd (w:bO) (b:Nat):Int:=(w.nj[b]?).getD 0
def jT (w:bO) (b:Nat) (p:ax×Int) (o:Int×aa):Option (ax×Int):=if max (p.2+cd w b) o.2.Lo≤min o.2.Hi w.iL then some (d_ p.1 (e9 o.1),max (p.2+cd w b) o.2.Lo) else none
def fwd (w:bO):Nat→List (ax×Int)
 |0=>[(⟨0,0⟩,w.Start)]
 |b+1=>(fwd w b).flatMap fun p=>(iE w b).filterMap (jT w b p)
def mE (w:bO) (b:Nat) (p:ax×Int) (o:Int×aa):Option (ax×Int):=if o.2.Lo≤min p.2 o.2.Hi then some (d_ p.1 (e9 o.1),min p.2 o.2.Hi-cd w b) else none
def bwd (w:bO):Nat→List (ax×Int)
 |0=>[(⟨0,0⟩,w.iL)]
 |k+1=>(⟨0,0⟩,w.iL)::(bwd w k).flatMap fun p=>(iE w (w.n-(k+1))).filterMap (mE w (w.n-(k+1)) p)
def back (w:bO) (b:Nat):List (ax×Int):=bwd w (w.n-b)
def nk (w:bO) (t:ax):Bool:=decide (t.fK≤w.dZ∧w.Lm-t.right≤w.e7)
theorem eV {w:bO} {b:Nat} {q:ax×Int}:q∈fwd w (b+1)↔ ∃ p∈fwd w b,∃ o∈iE w b,jT w b p o=some q:=by
 simp only [fwd,List.mem_flatMap,List.mem_filterMap]
theorem rz {w:bO} {b:Nat} (h:w.n≤b):back w b=[(⟨0,0⟩,w.iL)]:=by
 unfold back; rw [Nat.sub_eq_zero_of_le h]; rfl
theorem np {w:bO} {b:Nat} (h:b<w.n) {q:ax×Int}:q∈back w b↔q=(⟨0,0⟩,w.iL)∨ ∃ p∈back w (b+1),∃ o∈iE w b,mE w b p o=some q:=by
 unfold back
 have e:w.n-b=(w.n-(b+1))+1:=by omega
 rw [e]
 simp only [bwd,bw,List.mem_flatMap,List.mem_filterMap]
 rw [show w.n-(w.n-(b+1)+1)=b by omega]
def qd (m c:List (ax×Int)):Prop:=(∀ t v,m.lookup t=some v→(t,v)∈c)∧ ∀ t y,(t,y)∈c→ ∃ v,m.lookup t=some v∧v≤y
def rN (m c:List (ax×Int)):Prop:=(∀ t v,m.lookup t=some v→(t,v)∈c)∧ ∀ t y,(t,y)∈c→ ∃ v,m.lookup t=some v∧y≤v
def sj (m c:List (ax×Int)):Prop:= ∀ t v,m.lookup t=some v→(t,v)∈c
theorem lG {K β:Type} [DecidableEq K] {m:List (K×β)} {x t:K} {y:β}:(dN m x y).lookup t=if t=x then some y else m.lookup t:=by
 unfold dN
 by_cases hx:(m.lookup x).isSome
 ·rw [if_pos hx]
  have key: ∀ l:List (K×β),(l.lookup x).isSome∨True→(l.map (fun p=>if p.1=x then (x,y) else p)).lookup t=if t=x then (if (l.lookup x).isSome then some y else none) else l.lookup t:=by
   intro l _
   induction l with
   |nil=>simp
   |cons p l ih=>
    obtain ⟨k,v⟩:=p
    have ih:=ih (.inr trivial)
    by_cases hk:k=x
    ·subst hk
     by_cases ht:t=k
     ·subst ht; simp [List.lookup]
     ·have:(t==k)=false:=by simpa using ht
      simp only [List.map_cons,if_true,List.lookup,this,ih,if_neg ht]
    ·have hk':(x==k)=false:=by simpa using fun e=>hk e.symm
     by_cases ht:t=k
     ·subst ht; simp [List.lookup,hk]
     ·have A:(t==k)=false:=by simpa using ht
      simp only [List.map_cons,if_neg hk,List.lookup,A,ih,hk']
  rw [key m (.inr trivial)]
  by_cases ht:t=x
  ·subst ht
   rw [if_pos rfl,if_pos rfl,if_pos hx]
  ·rw [if_neg ht,if_neg ht]
 ·rw [if_neg hx]
  have hn:m.lookup x=none:=by cases h0:m.lookup x with
   |none=>rfl
   |some v=>exact absurd (by rw [h0]; rfl) hx
  by_cases ht:t=x
  ·subst ht
   rw [if_pos rfl]
   have:=iB.1 hn
   clear hn hx
   induction m with
   |nil=>simp
   |cons p m ih=>
    obtain ⟨k,v⟩:=p
    have hk:(t==k)=false:=by simpa using fun e=>this (k,v) sm e.symm
    simp only [List.cons_append,List.lookup,hk]
    exact ih (fun q hq=>this q (df _ hq))
  ·rw [if_neg ht]
   clear hn hx
   induction m with
   |nil=>
    have:(t==x)=false:=by simpa using ht
    simp [List.lookup,this]
   |cons p m ih=>
    obtain ⟨k,v⟩:=p
    by_cases hk:t=k
    ·subst hk; simp [List.lookup]
    ·have:(t==k)=false:=by simpa using hk
     simp only [List.cons_append,List.lookup,this]
     exact ih
/-- what a map is after a try -/
def nG (m:List (ax×Int)) (q:ax×Int):List (ax×Int):=match m.lookup q.1 with
 |none=>dN m q.1 q.2
 |some v=>if q.2<v then dN m q.1 q.2 else m
def nA (m:List (ax×Int)) (q:ax×Int):List (ax×Int):=match m.lookup q.1 with
 |none=>dN m q.1 q.2
 |some v=>if v<q.2 then dN m q.1 q.2 else m
theorem tp {m:List (ax×Int)} {q:ax×Int} {t:ax}:(nG m q).lookup t=if t=q.1 then some (match m.lookup q.1 with |none=>q.2|some v=>min q.2 v) else m.lookup t:=by
 unfold nG
 cases h:m.lookup q.1 with
 |none=>simp only; rw [lG]
 |some v=>
  simp only
  split
  ·rename_i A
   rw [lG,Int.min_eq_left om]
  ·rename_i A
   split
   ·rename_i e; subst e; rw [h,Int.min_eq_right om]
   ·rfl
theorem tD {m:List (ax×Int)} {q:ax×Int} {t:ax}:(nA m q).lookup t=if t=q.1 then some (match m.lookup q.1 with |none=>q.2|some v=>max q.2 v) else m.lookup t:=by
 unfold nA
 cases h:m.lookup q.1 with
 |none=>simp only; rw [lG]
 |some v=>
  simp only
  split
  ·rename_i A
   rw [lG,Int.max_eq_left om]
  ·rename_i A
   split
   ·rename_i e; subst e; rw [h,Int.max_eq_right om]
   ·rfl
def tT (m m':List (ax×Int)):Prop:= ∀ t v,m.lookup t=some v→ ∃ v',m'.lookup t=some v'∧v'≤v
def uK (m m':List (ax×Int)):Prop:= ∀ t v,m.lookup t=some v→ ∃ v',m'.lookup t=some v'∧v≤v'
theorem tT.refl (m:List (ax×Int)):tT m m:=fun t v h=>⟨v,h,om⟩
theorem uK.refl (m:List (ax×Int)):uK m m:=fun t v h=>⟨v,h,om⟩
theorem rZ {m:List (ax×Int)} {q:ax×Int}:tT m (nG m q):=fun t v h=>by
 rw [tp]
 split
 ·rename_i e; subst e; rw [h]; exact ⟨_,rfl,by simp only; omega⟩
 ·exact ⟨v,h,om⟩
theorem oK {m:List (ax×Int)} {q:ax×Int}:uK m (nA m q):=fun t v h=>by
 rw [tD]
 split
 ·rename_i e; subst e; rw [h]; exact ⟨_,rfl,by simp only; omega⟩
 ·exact ⟨v,h,om⟩
theorem CD {m c:List (ax×Int)} {q:ax×Int} (h:sj m c) (hq:q∈c):sj (nG m q) c:=fun t v hv=>by
 rw [tp] at hv
 split at hv
 ·rename_i e
  subst e
  cases hm:m.lookup q.1 with
  |none=>simp only [hm,Option.some.injEq] at hv; subst hv; exact hq
  |some x=>
   simp only [hm,Option.some.injEq] at hv; subst hv
   rcases Int.lt_or_le q.2 x with A|A
   ·rw [Int.min_eq_left om]; exact hq
   ·rw [Int.min_eq_right om]; exact h _ _ hm
 ·exact h t v hv
theorem Dw {m c:List (ax×Int)} {q:ax×Int} (h:sj m c) (hq:q∈c):sj (nA m q) c:=fun t v hv=>by
 rw [tD] at hv
 split at hv
 ·rename_i e
  subst e
  cases hm:m.lookup q.1 with
  |none=>simp only [hm,Option.some.injEq] at hv; subst hv; exact hq
  |some x=>
   simp only [hm,Option.some.injEq] at hv; subst hv
   rcases Int.lt_or_le q.2 x with A|A
   ·rw [Int.max_eq_right om]; exact h _ _ hm
   ·rw [Int.max_eq_left om]; exact hq
 ·exact h t v hv
theorem CG {m:List (ax×Int)} {q:ax×Int}: ∃ v,(nG m q).lookup q.1=some v∧v≤q.2:=by
 rw [tp,if_pos rfl]
 refine ⟨_,U,?_⟩
 cases m.lookup q.1<;>simp only <;>omega
theorem Dd {m:List (ax×Int)} {q:ax×Int}: ∃ v,(nA m q).lookup q.1=some v∧q.2≤v:=by
 rw [tD,if_pos rfl]
 refine ⟨_,U,?_⟩
 cases m.lookup q.1<;>simp only <;>omega
/-- all that comes of one entry, by some options, is held -/
def hP (w:bO) (b:Nat) (m:List (ax×Int)) (p:ax×Int) (os:List (Int×aa)):Prop:= ∀ o∈os,∀ q,jT w b p o=some q→ ∃ v,m.lookup q.1=some v∧v≤q.2
def ij (w:bO) (b:Nat) (m:List (ax×Int)) (p:ax×Int) (os:List (Int×aa)):Prop:= ∀ o∈os,∀ q,mE w b p o=some q→ ∃ v,m.lookup q.1=some v∧q.2≤v
theorem hP.lower {w:bO} {b:Nat} {m m':List (ax×Int)} {p:ax×Int} {os:List (Int×aa)} (h:hP w b m p os) (hl:tT m m'):hP w b m' p os:=fun o ho q hq=>by
 obtain ⟨v,A,C⟩:=h o ho q hq
 obtain ⟨v',B,D⟩:=hl _ _ A
 exact ⟨v',B,om⟩
theorem ij.upper {w:bO} {b:Nat} {m m':List (ax×Int)} {p:ax×Int} {os:List (Int×aa)} (h:ij w b m p os) (hl:uK m m'):ij w b m' p os:=fun o ho q hq=>by
 obtain ⟨v,A,C⟩:=h o ho q hq
 obtain ⟨v',B,D⟩:=hl _ _ A
 exact ⟨v',B,om⟩
theorem hP.sub {w:bO} {b:Nat} {m:List (ax×Int)} {p:ax×Int} {os os':List (Int×aa)} (h:hP w b m p os) (hs: ∀ o∈os',o∈os):hP w b m p os':=fun o ho=>h o (hs o ho)
theorem ij.sub {w:bO} {b:Nat} {m:List (ax×Int)} {p:ax×Int} {os os':List (Int×aa)} (h:ij w b m p os) (hs: ∀ o∈os',o∈os):ij w b m p os':=fun o ho=>h o (hs o ho)
theorem hP.add {w:bO} {b:Nat} {m m':List (ax×Int)} {p:ax×Int} {os:List (Int×aa)} {o:Int×aa} (h:hP w b m p os) (hl:tT m m') (hn: ∀ q,jT w b p o=some q→ ∃ v,m'.lookup q.1=some v∧v≤q.2):hP w b m' p (os++[o]):=fun o' ho q hq=>by
 rcases dM.1 ho with ho|ho
 ·exact h.lower hl o' ho q hq
 ·simp only [bJ] at ho; subst ho; exact hn q hq
theorem ij.add {w:bO} {b:Nat} {m m':List (ax×Int)} {p:ax×Int} {os:List (Int×aa)} {o:Int×aa} (h:ij w b m p os) (hl:uK m m') (hn: ∀ q,mE w b p o=some q→ ∃ v,m'.lookup q.1=some v∧q.2≤v):ij w b m' p (os++[o]):=fun o' ho q hq=>by
 rcases dM.1 ho with ho|ho
 ·exact h.upper hl o' ho q hq
 ·simp only [bJ] at ho; subst ho; exact hn q hq
theorem eJ {m:List (ax×Int)} (hn:(m.map (·.1)).Nodup) {t:ax} {v:Int}:(t,v)∈m↔m.lookup t=some v:=jf hn
theorem ny {z t:ax} {x v:Int}:List.lookup t [(z,x)]=some v↔t=z∧v=x:=by
 by_cases e:t=z
 ·subst e; simp [List.lookup,eq_comm]
 ·have:(t==z)=false:=by simpa using e
  simp [List.lookup,this,e]
theorem DW {w:bO}:qd [(⟨0,0⟩,w.Start)] (fwd w 0):=by
 refine ⟨fun t v h=>?_,fun t y h=>?_⟩
 ·obtain ⟨rfl,rfl⟩:=ny.1 h
  simp [fwd]
 ·simp only [fwd,bJ,Prod.mk.injEq] at h
  obtain ⟨rfl,rfl⟩:=h
  exact ⟨w.Start,ny.2 ⟨U,U⟩,Int.le_refl _⟩
theorem G3 {w:bO} {b:Nat} {mb m:List (ax×Int)} (hn:(mb.map (·.1)).Nodup) (h:qd mb (fwd w b)) (hs:sj m (fwd w (b+1))) (hd: ∀ p∈mb,hP w b m p (iE w b)):qd m (fwd w (b+1)):=⟨hs,fun t y hy=>by
 obtain ⟨p,hp,o,ho,e⟩:=eV.1 hy
 obtain ⟨v,B,E⟩:=h.2 p.1 p.2 hp
 unfold jT at e
 split at e
 ·rename_i D
  simp only [Option.some.injEq,Prod.mk.injEq] at e
  obtain ⟨v',A,C⟩:=hd (p.1,v) ((eJ hn).2 B) o ho (d_ p.1 (e9 o.1),max (v+cd w b) o.2.Lo) (by unfold jT; rw [if_pos (by simp only; omega)])
  simp only at A C
  rw [e.1] at A
  exact ⟨v',A,om⟩
 ·cases e⟩
theorem Gl {w:bO} {b:Nat} (hb:w.n≤b):rN [(⟨0,0⟩,w.iL)] (back w b):=by
 rw [rz hb]
 refine ⟨fun t v h=>?_,fun t y h=>?_⟩
 ·obtain ⟨rfl,rfl⟩:=ny.1 h
  simp
 ·simp only [bJ,Prod.mk.injEq] at h
  obtain ⟨rfl,rfl⟩:=h
  exact ⟨w.iL,ny.2 ⟨U,U⟩,Int.le_refl _⟩
theorem Gi {w:bO} {b:Nat} (hb:b<w.n) {mb m:List (ax×Int)} (hn:(mb.map (·.1)).Nodup) (h:rN mb (back w (b+1))) (hs:sj m (back w b)) (h0: ∃ v,m.lookup ⟨0,0⟩=some v∧w.iL≤v) (hd: ∀ p∈mb,ij w b m p (iE w b)):rN m (back w b):=⟨hs,fun t y hy=>by
 rcases (np hb).1 hy with e|⟨p,hp,o,ho,e⟩
 ·simp only [Prod.mk.injEq] at e
  obtain ⟨rfl,rfl⟩:=e
  exact h0
 obtain ⟨v,B,E⟩:=h.2 p.1 p.2 hp
 unfold mE at e
 split at e
 ·rename_i D
  simp only [Option.some.injEq,Prod.mk.injEq] at e
  obtain ⟨v',A,C⟩:=hd (p.1,v) ((eJ hn).2 B) o ho (d_ p.1 (e9 o.1),min v o.2.Hi-cd w b) (by unfold mE; rw [if_pos (by simp only; omega)])
  simp only at A C
  rw [e.1] at A
  exact ⟨v',A,om⟩
 ·cases e⟩
end
section
def iH (w:bO) (b:Nat) (p u:ax×Int) (o:Int×aa):aa:=⟨max (p.2+cd w b) o.2.Lo,min u.2 o.2.Hi⟩
def ue (p u:ax×Int) (o:Int×aa):ax:=d_ (d_ p.1 u.1) (e9 o.1)
def lh (w:bO) (b:Nat) (p u:ax×Int) (o:Int×aa):Option (Int×aa):=if (iH w b p u o).Lo≤(iH w b p u o).Hi∧nk w (ue p u o)=true then some (o.1,iH w b p u o) else none
def oa (w:bO) (b:Nat) (mf mb:List (ax×Int)):List (Int×aa):=(iE w b).flatMap fun o=>mf.flatMap fun p=>mb.filterMap fun u=>lh w b p u o
def lz (w:bO) (b:Nat):List (Int×aa):=oa w b (fwd w b) (back w (b+1))
theorem gK {w:bO} {b:Nat} {mf mb:List (ax×Int)} {q:Int×aa}:q∈oa w b mf mb↔ ∃ o∈iE w b,∃ p∈mf,∃ u∈mb,lh w b p u o=some q:=by
 simp only [oa,List.mem_flatMap,List.mem_filterMap]
theorem iD {w:bO} {b:Nat} {p u:ax×Int} {o q:Int×aa}:lh w b p u o=some q↔(iH w b p u o).Lo≤(iH w b p u o).Hi∧nk w (ue p u o)=true∧q=(o.1,iH w b p u o):=by
 unfold lh
 split
 ·rename_i h
  simp only [Option.some.injEq]
  exact ⟨fun e=>⟨h.1,h.2,e.symm⟩,fun e=>e.2.2.symm⟩
 ·rename_i h
  simp only [reduceCtorEq,false_iff]
  exact fun e=>h ⟨e.1,e.2.1⟩
theorem mN {w:bO} {b:Nat} {mf mb:List (ax×Int)} {q:Int×aa} (h:q∈oa w b mf mb):q.2.Lo≤q.2.Hi:=by
 obtain ⟨o,_,p,_,u,_,e⟩:=gK.1 h
 obtain ⟨A,_,rfl⟩:=iD.1 e
 exact A
/-- what the maps tell is what all ways tell -/
theorem IJ {w:bO} {b:Nat} {mf mb:List (ax×Int)} (hf:qd mf (fwd w b)) (hb:rN mb (back w (b+1))) (nf:(mf.map (·.1)).Nodup) (nb:(mb.map (·.1)).Nodup) {q:Int×aa} (h:q∈oa w b mf mb):q∈lz w b:=by
 obtain ⟨o,ho,p,hp,u,hu,e⟩:=gK.1 h
 exact gK.2 ⟨o,ho,p,hf.1 _ _ ((eJ nf).1 hp),u,hb.1 _ _ ((eJ nb).1 hu),e⟩
theorem Hp {w:bO} {b:Nat} {mf mb:List (ax×Int)} (hf:qd mf (fwd w b)) (hb:rN mb (back w (b+1))) (nf:(mf.map (·.1)).Nodup) (nb:(mb.map (·.1)).Nodup) {q:Int×aa} (h:q∈lz w b): ∃ q'∈oa w b mf mb,q'.1=q.1∧q'.2.Lo≤q.2.Lo∧q.2.Hi≤q'.2.Hi:=by
 obtain ⟨o,ho,p,hp,u,hu,e⟩:=gK.1 h
 obtain ⟨A,B,rfl⟩:=iD.1 e
 obtain ⟨v,hv,C⟩:=hf.2 p.1 p.2 hp
 obtain ⟨y,hy,D⟩:=hb.2 u.1 u.2 hu
 simp only [iH] at A
 refine ⟨(o.1,iH w b (p.1,v) (u.1,y) o),gK.2 ⟨o,ho,(p.1,v),(eJ nf).2 hv,(u.1,y),(eJ nb).2 hy,iD.2 ⟨?_,B,U⟩⟩,U,?_,?_⟩
 ·simp only [iH]; omega
 ·simp only [iH]; omega
 ·simp only [iH]; omega
def l1:aa:=⟨1,0⟩
def mA (h x:aa):aa:=if h=l1 then x else ⟨min x.Lo h.Lo,max x.Hi h.Hi⟩
def Co (l:List (Int×aa)):aa:=l.foldl (fun h q=>mA h q.2) l1
structure uO (l:List (Int×aa)) (h:aa):Prop where
 le:h.Lo≤h.Hi
 lo: ∃ x∈l,x.2.Lo=h.Lo
 hi: ∃ x∈l,x.2.Hi=h.Hi
 all: ∀ x∈l,h.Lo≤x.2.Lo∧x.2.Hi≤h.Hi
def lv (l:List (Int×aa)) (h:aa):Prop:=(l=[]∧h=l1)∨uO l h
theorem uO.ne {l:List (Int×aa)} {h:aa} (hh:uO l h):h≠l1:=fun e=>by
 have:=hh.le; rw [e] at this; simp [l1] at this
theorem xL:lv [] l1:= .inl ⟨rfl,rfl⟩
theorem vH {l:List (Int×aa)} {h:aa} {q:Int×aa} (hh:lv l h) (hq:q.2.Lo≤q.2.Hi):lv (l++[q]) (mA h q.2):=by
 right
 rcases hh with ⟨rfl,rfl⟩|hh
 ·unfold mA
  rw [if_pos rfl]
  exact ⟨hq,⟨q,sm,rfl⟩,⟨q,sm,rfl⟩,fun x hx=>by simp at hx; subst hx; exact ⟨Int.le_refl _,Int.le_refl _⟩⟩
 ·unfold mA
  rw [if_neg hh.ne]
  have A:=hh.le
  obtain ⟨a,ha,ea⟩:=hh.lo
  obtain ⟨c,hc,ec⟩:=hh.hi
  refine ⟨by simp only; omega,?_,?_,fun x hx=>?_⟩
  ·rcases Int.lt_or_le q.2.Lo h.Lo with p|p
   ·exact ⟨q,sm,by simp only; omega⟩
   ·exact ⟨a,by simp [ha],by simp only; omega⟩
  ·rcases Int.lt_or_le h.Hi q.2.Hi with p|p
   ·exact ⟨q,sm,by simp only; omega⟩
   ·exact ⟨c,by simp [hc],by simp only; omega⟩
  ·rcases dM.1 hx with hx|hx
   ·have:=hh.all x hx; simp only; omega
   ·simp at hx; subst hx; simp only; omega
theorem zN {l:List (Int×aa)} (hl: ∀ q∈l,q.2.Lo≤q.2.Hi):lv l (Co l):=by
 have key: ∀ (r d:List (Int×aa)) (h:aa),(∀ q∈r,q.2.Lo≤q.2.Hi)→lv d h→lv (d++r) (r.foldl (fun h q=>mA h q.2) h):=by
  intro r
  induction r with
  |nil=>intro d h _ hd; simpa using hd
  |cons q r ih=>
   intro d h hr hd
   have:=ih (d++[q]) (mA h q.2) (fun x hx=>hr x (df _ hx)) (vH hd (hr q sm))
   simpa using this
 have:=key l [] l1 hl xL
 rw [List.nil_append] at this
 exact this
def AJ (a b:List (Int×aa)):Prop:= ∀ x∈b,∃ y∈a,y.2.Lo≤x.2.Lo∧x.2.Hi≤y.2.Hi
theorem I2 {a b:List (Int×aa)} {h k:aa} (ha:lv a h) (hb:lv b k) (hab:AJ a b) (hba:AJ b a):h=k:=by
 rcases ha with ⟨rfl,rfl⟩|ha
 ·rcases hb with ⟨rfl,rfl⟩|hb
  ·rfl
  ·obtain ⟨x,hx,_⟩:=hb.lo
   obtain ⟨y,hy,_⟩:=hab x hx
   cases hy
 ·rcases hb with ⟨rfl,rfl⟩|hb
  ·obtain ⟨x,hx,_⟩:=ha.lo
   obtain ⟨y,hy,_⟩:=hba x hx
   cases hy
  ·have le: ∀ {a b:List (Int×aa)} {h k:aa},uO a h→uO b k→AJ a b→h.Lo≤k.Lo∧k.Hi≤h.Hi:=fun {a b h k} ha hb hab=>by
    obtain ⟨x,hx,ex⟩:=hb.lo
    obtain ⟨z,hz,ez⟩:=hb.hi
    obtain ⟨y,hy,ey⟩:=hab x hx
    obtain ⟨y',hy',ey'⟩:=hab z hz
    have A:=ha.all y hy
    have B:=ha.all y' hy'
    omega
   have A:=le ha hb hab
   have B:=le hb ha hba
   rw [aa.ext_iff]; omega
theorem vY {w:bO} {b:Nat} {mf mb:List (ax×Int)} {l:List (Int×aa)} {h:aa} (hf:qd mf (fwd w b)) (hb:rN mb (back w (b+1))) (nf:(mf.map (·.1)).Nodup) (nb:(mb.map (·.1)).Nodup)
 (hl: ∀ q∈l,q∈oa w b mf mb) (hl2: ∀ q∈oa w b mf mb,q∈l) (hh:lv l h):h=Co (lz w b):=
 I2 hh (zN fun q hq=>mN hq) (fun x hx=>by
  obtain ⟨q,hq,_,A,B⟩:=Hp hf hb nf nb hx
  exact ⟨q,hl2 q hq,A,B⟩) (fun x hx=>⟨x,IJ hf hb nf nb (hl x hx),Int.le_refl _,Int.le_refl _⟩)
def jy (w:bO) (m:List (ax×Int)):Bool:=m.any fun p=>nk w p.1
theorem yS {w:bO} {b:Nat} {m:List (ax×Int)} (h:qd m (fwd w b)) (nf:(m.map (·.1)).Nodup):jy w m=jy w (fwd w b):=by
 unfold jy
 rw [Bool.eq_iff_iff,List.any_eq_true,List.any_eq_true]
 constructor
 ·rintro ⟨p,hp,A⟩
  exact ⟨p,h.1 _ _ ((eJ nf).1 hp),A⟩
 ·rintro ⟨p,hp,A⟩
  obtain ⟨v,hv,_⟩:=h.2 p.1 p.2 hp
  exact ⟨(p.1,v),(eJ nf).2 hv,A⟩
def jw (w:bO) (k:Nat):List Int:=((List.range k).filter fun i=>jy w (fwd w i)).map fun (i:Nat)=>(i:Int)
def gl (w:bO):List Int:=jw w (w.n+1)
theorem Ar {w:bO} {k:Nat} (h:jy w (fwd w k)=true):jw w (k+1)=jw w k++[(k:Int)]:=by simp [jw,List.range_succ,h]
theorem C7 {w:bO} {k:Nat} (h:jy w (fwd w k)=false):jw w (k+1)=jw w k:=by simp [jw,List.range_succ,h]
theorem pW {w:bO} {k:Nat}:(jw w k).length≤k:=by
 unfold jw
 rw [List.length_map]
 exact Nat.le_trans (List.length_filter_le _ _) sm
end
section
open Go.RowKit
theorem CB {P:Program} {t:Nat} {k:IntKind} (hu:P.underlying t=some (.int k)) (e:Bool) (n:Nat) (v:Value) (w:World):(Instr.checkKey e (n+1) t v).run P w= .ok () w:=by
 unfold Instr.checkKey
 simp only [Sem.run_bind,run_underlying hu,Result.andThen]
 cases v<;>rfl
theorem wM {P:Program} {kt:Nat} {l:List (Nat×Nat)} (hl:fL P kt=some l) (e:Bool) (n:Nat) (cs:Array Value) (w:World)
 (hf: ∀ p∈l,(∃ v,(part p.1 cs p.2).run P w= .ok v w)∧ ∃ k,P.underlying p.1=some (.int k)):(Instr.checkKey e (n+2) kt (.agg cs)).run P w= .ok () w:=by
 unfold fL at hl
 cases hu:P.underlying kt with
 |none=>simp [hu] at hl
 |some d=>
  cases d<;>simp [hu] at hl
  rename_i fs
  obtain ⟨hn,hl⟩:=hl
  rw [show n+2=(n+1)+1 from rfl,Instr.checkKey]
  simp only [Sem.run_bind,run_underlying hu,Result.andThen_ok]
  rw [← Array.forIn_toList]
  have A: ∀ f∈fs.toList,(∃ v,(part f.type cs f.offset).run P w= .ok v w)∧ ∃ k,P.underlying f.type=some (.int k):=fun f hf'=>hf (f.type,f.offset) (by rw [← hl]; exact b_.2 ⟨f,hf',rfl⟩)
  have B: ∀ f∈fs.toList,f.name≠"_":=fun f hf'=>by
   obtain ⟨i,hi,rfl⟩:=List.getElem_of_mem hf'
   exact hn.1.1 i (by simpa using hi)
  clear hl hn hf
  generalize fs.toList=L at A B
  induction L with
  |nil=>simp
  |cons f L ih=>
   obtain ⟨⟨v,hv⟩,k,hk⟩:=A f sm
   have C:=B f sm
   simp only [List.forIn_cons,Sem.run_bind,C,ne_eq,not_false_eq_true,if_true,Result.andThen_ok,hv,CB hk,Sem.run_pure]
   exact ih (fun y hy=>A y (by simp [hy])) (fun y hy=>B y (by simp [hy]))
theorem yd {P:Program} {kt:Nat} {K:Type} [DecidableEq K] {kV:K→Value} (hw: ∀ (k:Value) (es:List MapEntry) (w:World),(Instr.findKey kt k es).run P w=(Instr.findAsking kt k es).run P w)
 (heq: ∀ x y w,(Op.equal kt (kV x) (kV y)).run P w= .ok (decide (x=y)) w) (inj: ∀ x y,kV x=kV y→x=y) (x:K) (w:World) (es:List MapEntry) (hk: ∀ e∈es,∃ k,e.key=kV k):
 ((Instr.findKey kt (kV x) es).run P w= .ok none w∧ ∀ e∈es,e.key≠kV x)∨ ∃ j e,(Instr.findKey kt (kV x) es).run P w= .ok (some (j,e.val)) w∧es[j]? =some e∧e.key=kV x:=by
 have key: ∀ (es:List MapEntry) (i:Nat),(∀ e∈es,∃ k,e.key=kV k)→((Instr.findAsking kt (kV x) es i).run P w= .ok none w∧ ∀ e∈es,e.key≠kV x)∨ ∃ j e,(Instr.findAsking kt (kV x) es i).run P w= .ok (some (i+j,e.val)) w∧es[j]? =some e∧e.key=kV x:=by
  intro es
  induction es with
  |nil=>intro i _; exact .inl ⟨by simp [Instr.findAsking],sm⟩
  |cons e es ih=>
   intro i B
   obtain ⟨k,A⟩:=B e sm
   by_cases h:x=k
   ·refine .inr ⟨0,e,?_,U,by rw [A,h]⟩
    subst h
    simp [Instr.findAsking,A,heq]
   ·rcases ih (i+1) (fun y hy=>B y (by simp [hy])) with ⟨C,D⟩|⟨j,e',C,D,E⟩
    ·refine .inl ⟨by simp [Instr.findAsking,A,heq,h,C],fun y hy=>?_⟩
     rcases bw.1 hy with rfl|hy
     ·rw [A]; exact fun q=>h (inj _ _ q).symm
     ·exact D y hy
    ·exact .inr ⟨j+1,e',by simp [Instr.findAsking,A,heq,h,C]; omega,by simpa using D,E⟩
 rw [hw]
 rcases key es 0 hk with h|⟨j,e,C,D,E⟩
 ·exact .inl h
 ·exact .inr ⟨j,e,by simpa using C,D,E⟩
theorem z4 {P:Program} {kt:Nat} {l:List (Nat×Nat)} (hl:fL P kt=some l) (k:Value) (es:List MapEntry) (w:World):(Instr.findKey kt k es).run P w=(Instr.findAsking kt k es).run P w:=by
 refine run_findKey_eq w ?_ k es
 unfold fL at hl
 cases hu:P.underlying kt with
 |none=>simp [hu] at hl
 |some d=>cases d<;>simp [hu] at hl ⊢
theorem Jh {P:Program} {kt:Nat} {K:Type} [DecidableEq K] {kV:K→Value} {l:List (Nat×Nat)} (hl:fL P kt=some l) (heq: ∀ x y w,(Op.equal kt (kV x) (kV y)).run P w= .ok (decide (x=y)) w) (inj: ∀ x y,kV x=kV y→x=y)
 (hb: ∀ x,Instr.sameBits 10000 (kV x) (kV x)=true) (hp: ∀ x w,∃ cs,kV x= .agg cs∧ ∀ p∈l,(∃ v,(part p.1 cs p.2).run P w= .ok v w)∧ ∃ k,P.underlying p.1=some (.int k)):qS P kt kV:=
 ⟨fun e x w=>by obtain ⟨cs,A,B⟩:=hp x w; rw [A]; exact wM hl e 9998 cs w B,fun x w es=>yd (z4 hl) heq inj x w es,hb,inj⟩
end
section
open Go.RowKit
set_option linter.unusedSectionVars false
theorem dJ {P:Program} {kt:Nat} (hk:P.underlying kt=some (.int .i64)):qS P kt (Value.int .i64):=by
 refine ⟨fun e x w=>CF hk e,fun x w es A=>?_,fun x=>by simp [Instr.sameBits],fun x y h=>by injection h⟩
 have key: ∀ (es:List MapEntry) (i:Nat),(∀ e∈es,∃ k:Int,e.key= .int .i64 k)→(Instr.findNow (.int .i64) (.int .i64 x) es i=some none∧ ∀ e∈es,e.key≠ .int .i64 x)∨ ∃ j e,Instr.findNow (.int .i64) (.int .i64 x) es i=some (some (i+j,e.val))∧es[j]? =some e∧e.key= .int .i64 x:=by
  intro es
  induction es with
  |nil=>intro i _; exact .inl ⟨rfl,sm⟩
  |cons e es ih=>
   intro i A
   obtain ⟨k,B⟩:=A e sm
   by_cases h:x=k
   ·subst h
    exact .inr ⟨0,e,by simp [Instr.findNow,Instr.sameNow,B],U,B⟩
   ·have hb:(x==k)=false:=by simpa using h
    rcases ih (i+1) (fun y hy=>A y (by simp [hy])) with ⟨C,D⟩|⟨j,e',C,D,E⟩
    ·refine .inl ⟨by simp [Instr.findNow,Instr.sameNow,B,hb,C],fun y hy=>?_⟩
     rcases bw.1 hy with rfl|hy
     ·rw [B]; intro q; injection q with _ q; exact h q.symm
     ·exact D y hy
    ·refine .inr ⟨j+1,e',?_,by simpa using D,E⟩
     simp only [Instr.findNow,Instr.sameNow,B,hb,if_true,C]
     simp; omega
 rcases key es 0 A with ⟨C,D⟩|⟨j,e,C,D,E⟩
 ·exact .inl ⟨MapKept.run_findKey hk C,D⟩
 ·exact .inr ⟨j,e,MapKept.run_findKey hk (by simpa using C),D,E⟩
theorem St.IF {S:BS} {w0 w w':World} {C:List aq} {A N:aq} (h:St S w0 C w) (i:Nat) (hA:C[i]? =some A) (k:du no w w') (hN:N.holds w') (hf: ∀ b,N.eK b→w.heap.size≤b∨A.eK b∧ ¬ A.wf b∧ ¬ N.wf b):St S w0 (N::C) w':=by
 have h':=h.same k
 have G:=aT hA
 have hi:=(aY.1 hA).1
 have B:C[i]=A:=(aY.1 hA).2
 refine ⟨h'.keeps,fun X hX=>?_,List.Pairwise.cons (fun X hX b hb hb'=>?_) h'.sep,fun X hX b hb=>?_,fun X hX b hb=>?_⟩
 ·rcases bw.1 hX with rfl|hX
  ·exact hN
  ·exact h'.holds X hX
 ·rcases hf b hb with E|⟨E,AA,H⟩
  ·have:=X.lt w (h.holds X hX) b hb'; omega
  ·refine ⟨H,?_⟩
   obtain ⟨j,hj,D⟩:=List.mem_iff_getElem.1 hX
   by_cases e:j=i
   ·subst e; rw [← D,B]; exact AA
   ·rcases Nat.lt_or_gt_of_ne e with F|F
    ·have:=fg.1 h.sep j i hj hi F b (by rw [D]; exact hb') (by rw [B]; exact E)
     rw [← D]; exact this.1
    ·have:=fg.1 h.sep i j hi hj F b (by rw [B]; exact E) (by rw [D]; exact hb')
     rw [← D]; exact this.2
 ·rcases bw.1 hX with rfl|hX
  ·rcases hf b (X.jE b hb) with E|⟨_,_,H⟩
   ·exact .inl (Nat.le_trans h.keeps.size E)
   ·exact absurd hb H
  ·exact h'.own X hX b hb
 ·rcases bw.1 hX with rfl|hX
  ·rcases hf b hb with E|⟨E,_,_⟩
   ·exact .inl (Nat.le_trans h.keeps.size E)
   ·exact h.seen A G b E
  ·exact h'.seen X hX b hb
section
variable {K:Type} [DecidableEq K] {kV:K→Value}
/-- an iterator over a map that is read alone -/
def wc (kV:K→Value) (r b:Nat) (m left:List (K×Value)) (cur:Option (K×Value)):aq where
 eK k:=k=r∨k=b
 wf k:=k=r
 holds w:=r≠b∧ ∃ (es:Array MapEntry) (c since:Nat) (seen:Array Nat) (st:Nat),w.heap[b]? =some (.map es c)∧hZ kV es c m∧w.heap[r]? =some (.mapIter (some b) since seen st)∧(∀ e∈es.toList,e.born<since)∧since≤st∧since≤c∧
  (leftOf es seen).toList.map (fun (e:MapEntry)=>(e.key,e.val))=left.map (fun p=>(kV p.1,p.2))∧
  ∀ p,cur=some p→ ∃ (e:MapEntry) (seen0:Array Nat),e∈es.toList∧seen=seen0.push e.born∧st=c∧e.key=kV p.1∧e.val=p.2
 wr:=false
 jE _ h:= .inl h
 whole h:=by cases h
 lt w h k hk:=by
  obtain ⟨_,es,c,since,seen,st,h1,_,h2,_⟩:=h
  rcases hk with rfl|rfl
  ·exact dG h2
  ·exact dG h1
 mZ w w' hk h:=by
  obtain ⟨hne,es,c,since,seen,st,h1,h2,h3,h4⟩:=h
  exact ⟨hne,es,c,since,seen,st,(hk b (.inr rfl)).trans h1,h2,(hk r (.inl rfl)).trans h3,h4⟩
theorem eQ {r b:Nat} {m left:List (K×Value)} {cur:Option (K×Value)}:(∀ w,(wc kV r b m left cur).holds w→(wc kV r b m left none).holds w)∧(∀ k,(wc kV r b m left none).eK k→(wc kV r b m left cur).eK k)∧ ∀ k,(wc kV r b m left none).wf k→(wc kV r b m left cur).wf k:=
 ⟨fun w h=>by
  obtain ⟨A,es,c,since,seen,st,B,C,D,E,F,h5',G,_⟩:=h
  exact ⟨A,es,c,since,seen,st,B,C,D,E,F,h5',G,fun p hp=>by cases hp⟩,fun _ h=>h,fun _ h=>h⟩
section
variable {E:eD} {ops:Array Oper} {Q:cP} {rest:List Oper} {D:List Deferred} {L:List (Nat×Value)} {C:List aq}
variable {dst:Option Tmp} {d:Nat} {ty:TypeId} {ps:String} {af:Array Edge} {g:Option (Nat×Bool)}
theorem jl {t kt et:TypeId} {xm:Operand} {b:Nat} {m:List (K×Value)} {A:aq} (i:Nat) (hg:iK ops L g=true) (hm:ev L xm=some (.map (some b))) (ht:E.P.underlying t=some (.map kt et)) (hA:C[i]? =some A) (hAf:A.eK b∧ ¬ A.wf b) (hC:ju C (gQ kV b m).holds) (hd:Nat.blt d E.n=true)
 (k: ∀ r,RJ E ops Q rest D ((d,.pointer (some ⟨r,0,none⟩))::L) (wc kV r b m m none::C)):RJ E ops Q (⟨some d,.range t xm,ty,ps,af,g⟩::rest) D L C:=by
 intro a w B hs
 have hd':d<E.n:=by rw [← Nat.blt_eq]; exact hd
 unfold pw
 rw [if_pos (dv B hg)]
 obtain ⟨es,c,he,hi⟩:=hs.has hC
 have G:b<w.heap.size:=dG he
 have F:(getObj b).run E.P w= .ok (.map es c) w:=MapKept.run_getObj_map he
 refine fX (v:= .pointer (some ⟨w.heap.size,0,none⟩)) (w':=w.alloc (.mapIter (some b) c #[] c)) sm ?_ ?_
 ·simp [execOp,Instr.range,B.ev hm,run_underlying ht,F,newObj,Sem.run]
 ·refine k _ _ _ (B.put hd' _) (hs.IF i hA (du.alloc no w _) ⟨om,es,c,c,#[],c,?_,hi,heap_alloc_new w _,hi.Gy,Nat.le_refl _,Nat.le_refl _,?_,fun p hp=>by cases hp⟩ (fun q hq=>?_))
  ·rw [Below.heap_alloc w _ b G]; exact he
  ·have:leftOf es #[]=es:=by unfold leftOf; exact Array.filter_eq_self.2 sm
   rw [this]; exact hi.list
  ·rcases hq with rfl|rfl
   ·exact .inl (Nat.le_refl _)
   ·refine .inr ⟨hAf.1,hAf.2,fun (e:q=w.heap.size)=>by omega⟩
theorem D5 (hinj: ∀ x y,kV x=kV y→x=y) {xi:Operand} {r b:Nat} {m left:List (K×Value)} {cur:Option (K×Value)} (i:Nat) (hg:iK ops L g=true) (hm:ev L xi=some (.pointer (some ⟨r,0,none⟩))) (hC:C[i]? =some (wc kV r b m left cur)) (hd:Nat.blt d E.n=true)
 (k0:left=[]→RJ E ops Q rest D ((d,.tuple [.bool false].toArray)::L) C)
 (k1: ∀ x v,(x,v)∈left→(left.map (·.1)).Nodup→RJ E ops Q rest D ((d,.tuple [.bool true,kV x,v].toArray)::L) (C.set i (wc kV r b m (bY left x) (some (x,v))))):
 RJ E ops Q (⟨some d,.next xi false,ty,ps,af,g⟩::rest) D L C:=by
 intro a w G hs
 have hd':d<E.n:=by rw [← Nat.blt_eq]; exact hd
 unfold pw
 rw [if_pos (dv G hg)]
 obtain ⟨R,es,c,since,seen,st,X,hi,Y,J,V,M,A,_⟩:=hs.holds _ (aT hC)
 rcases run_next_at (P:=E.P) w ty r b since st seen es c Y X J V with ⟨Z,hr⟩|⟨e,he,N,H,hr⟩
 ·refine fX (v:= .tuple #[.bool false]) (w':=w) sm ?_ ?_
  ·simp [execOp,G.ev hm,hr]
  ·refine k0 ?_ _ _ (G.put hd' _) hs
   have:(leftOf es seen).toList=[]:=by rw [← List.length_eq_zero_iff,Array.length_toList]; exact Z
   rw [this] at A
   exact List.map_eq_nil_iff.1 A.symm
 ·have O:(e.key,e.val)∈left.map (fun p=>(kV p.1,p.2)):=by rw [← A]; exact b_.2 ⟨e,he,rfl⟩
  obtain ⟨p,hp,S⟩:=b_.1 O
  obtain ⟨x,v⟩:=p
  simp only [Prod.mk.injEq] at S
  obtain ⟨hk,hv⟩:=S
  refine fX (v:= .tuple #[.bool true,e.key,e.val]) (w':=ChangeMaps.setBlock N r (.mapIter (some b) since (seen.push e.born) c)) sm ?_ ?_
  ·simp [execOp,G.ev hm,hr]
  ·rw [← hk,← hv]
   have AA:=tF hinj hi A
   have F:e∈es.toList:=by unfold leftOf at he; rw [Array.toList_filter] at he; exact (List.mem_filter.1 he).1
   have f:c=c:=rfl
   have B:N.heap=w.heap:=by rcases H with rfl|rfl<;>rfl
   refine k1 x v hp AA _ _ (G.put hd' _) (hs.mv i hC ⟨⟨R,es,c,since,seen.push e.born,c,?_,hi,?_,J,M,M,?_,fun q hq=>?_⟩,?_,fun q hq=> .inl hq,fun q hq=> .inl hq⟩)
   ·show (N.heap.setIfInBounds r _)[b]? =_
    rw [Array.getElem?_setIfInBounds_ne R,B]; exact X
   ·show (N.heap.setIfInBounds r _)[r]? =_
    rw [Array.getElem?_setIfInBounds_self_of_lt (by rw [B]; exact dG Y)]
   ·have T:leftOf es (seen.push e.born)=(leftOf es seen).filter (fun z=> !(z.born==e.born)):=by
     unfold leftOf
     rw [Array.filter_filter]
     congr 1
     funext z
     simp only [Array.contains_push,Bool.not_or]
     rw [Bool.and_comm]
    rw [T,Array.toList_filter]
    have key: ∀ (l:List MapEntry) (ll:List (K×Value)),(∀ z∈l,z∈es.toList)→l.map (fun (e:MapEntry)=>(e.key,e.val))=ll.map (fun p=>(kV p.1,p.2))→
     (l.filter (fun z=> !(z.born==e.born))).map (fun (e:MapEntry)=>(e.key,e.val))=(bY ll x).map (fun p=>(kV p.1,p.2)):=by
     intro l
     induction l with
     |nil=>intro ll _ h; cases ll with
      |nil=>rfl
      |cons p ll=>simp at h
     |cons z l ih=>
      intro ll hz h
      cases ll with
      |nil=>simp at h
      |cons p ll=>
       simp only [List.map_cons,List.cons.injEq,Prod.mk.injEq] at h
       have ih':=ih ll (fun y hy=>hz y (by simp [hy])) h.2
       have AB:(z.born=e.born)↔(p.1=x):=by
        constructor
        ·intro hb
         have:z=e:=zD hi.born (hz z sm) F hb
         rw [this] at h
         have:=h.1.1.symm.trans hk.symm
         exact hinj _ _ this
        ·intro hx
         have W:z.key=e.key:=by rw [h.1.1,hx,hk]
         rw [zz hinj hi (hz z sm) F W]
       unfold bY at ih' ⊢
       by_cases hx:p.1=x
       ·rw [List.filter_cons_of_neg (by simp [AB.2 hx]),List.filter_cons_of_neg (by simp [hx])]; exact ih'
       ·rw [List.filter_cons_of_pos (by simpa using fun hb=>hx (AB.1 hb)),List.filter_cons_of_pos (by simpa using hx)]
        simp only [List.map_cons,h.1.1,h.1.2,ih']
    exact key _ _ (fun z hz=>by unfold leftOf at hz; rw [Array.toList_filter] at hz; exact (List.mem_filter.1 hz).1) A
   ·cases hq
    exact ⟨e,seen,F,U,U,hk.symm,hv.symm⟩
   ·refine ⟨?_,?_,?_,?_,fun q hq hn=>?_⟩
    ·rcases H with rfl|rfl<;>rfl
    ·rcases H with rfl|rfl<;>rfl
    ·rcases H with rfl|rfl<;>rfl
    ·show w.heap.size≤(N.heap.setIfInBounds r _).size
     simp [B]
    ·show (N.heap.setIfInBounds r _)[q]? =_
     rw [Array.getElem?_setIfInBounds_ne (fun e=>hn e.symm),B]
theorem il {xi:Operand} {r b:Nat} {m left:List (K×Value)} {x:K} {v:Value} (i:Nat) (hg:iK ops L g=true) (hm:ev L xi=some (.pointer (some ⟨r,0,none⟩))) (hC:C[i]? =some (wc kV r b m left (some (x,v)))):
 SD E ops ⟨dst,.entry xi,ty,ps,af,g⟩ D L C (.tuple [kV x,v].toArray):=
 di hg sm fun a w F hs=>by
  obtain ⟨N,es,c,since,seen,st,J,hi,M,H,O,AA,G,B⟩:=hs.holds _ (aT hC)
  obtain ⟨e,A,he,rfl,rfl,hk,hv⟩:=B _ rfl
  have:=run_entry_at (P:=E.P) w r b since A es st e M J he hi.born
  simp [execOp,F.ev hm,this,hk,hv]
theorem iq (hinj: ∀ x y,kV x=kV y→x=y) {β:Type} {f:β→Value} {xi:Operand} {r b:Nat} {m:List (K×Value)} {ll:List (K×β)} {cur:Option (K×Value)} (i:Nat) (hg:iK ops L g=true) (hm:ev L xi=some (.pointer (some ⟨r,0,none⟩))) (hC:C[i]? =some (wc kV r b m (bK f ll) cur)) (hd:Nat.blt d E.n=true)
 (k0:ll=[]→RJ E ops Q rest D ((d,.tuple [.bool false].toArray)::L) C)
 (k1: ∀ x y,(x,y)∈ll→(ll.map (·.1)).Nodup→RJ E ops Q rest D ((d,.tuple [.bool true,kV x,f y].toArray)::L) (C.set i (wc kV r b m (bK f (bY ll x)) (some (x,f y))))):
 RJ E ops Q (⟨some d,.next xi false,ty,ps,af,g⟩::rest) D L C:=by
 refine D5 hinj i hg hm hC hd (fun h=>k0 (List.map_eq_nil_iff.1 h)) (fun x v B hn=>?_)
 obtain ⟨p,hp,A⟩:=b_.1 B
 simp only [Prod.mk.injEq] at A
 obtain ⟨rfl,rfl⟩:=A
 have:=k1 p.1 p.2 hp (by simpa [bK,Function.comp_def] using hn)
 rwa [ky] at this
theorem u9 {t kt et:TypeId} {xm xk xv:Operand} {b:Nat} {x:K} {v:Value} {m m':List (K×Value)} {C':List aq} (i:Nat) (hg:iK ops L g=true) (hm:ev L xm=some (.map (some b))) (hk:ev L xk=some (kV x)) (hv:ev L xv=some v)
 (ht:E.P.underlying t=some (.map kt et)) (hkt:qS E.P kt kV) (hC:C[i]? =some (gQ kV b m)) (hm':dN m x v=m') (hC':C.set i (gQ kV b m')=C') (k:RJ E ops Q rest D L C'):
 RJ E ops Q (⟨none,.insert t xm xk xv,ty,ps,af,g⟩::rest) D L C:=by
 subst hm' hC'
 intro a w A hs
 unfold pw
 rw [if_pos (dv A hg)]
 obtain ⟨es,c,he,hi⟩:=hs.holds _ (aT hC)
 have B:(getObj b).run E.P w= .ok (.map es c) w:=MapKept.run_getObj_map he
 rcases ni (P:=E.P) (w:=w) (x:=x) hkt hi with ⟨AA,F⟩|⟨j,N,AA,F,J⟩
 ·refine pq (w':={w with heap:=w.heap.setIfInBounds b (.map (es.push {key:=kV x,val:=v,born:=c}) (c+1))}) sm ?_ ?_
  ·simp [execOp,A.ev hm,A.ev hk,A.ev hv,Instr.mapUpdate,run_underlying ht,B,g5 hkt,AA,MapKept.run_setObj_map _ he]
  ·refine k _ _ ⟨A.defers,A.size,A.at_⟩ (hs.zI (b:=b) i hC U U (lZ _) (fun _ h=>h) ⟨_,_,nF he,?_⟩)
   have:dN m x v=m++[(x,v)]:=by unfold dN; rw [F]; rfl
   rw [this]; exact hi.push F v
 ·have M:=hi.size
  have G:j<es.size:=by have:=(aY.1 F).1; omega
  have H:(es[j]).key=kV x:=by
   have:=congrArg (fun l=>l[j]?) hi.list
   simp [G,F] at this
   exact this.1
  refine pq (w':={w with heap:=w.heap.setIfInBounds b (.map (es.modify j fun e=>{e with key:=kV x,val:=v}) c)}) sm ?_ ?_
  ·simp [execOp,A.ev hm,A.ev hk,A.ev hv,Instr.mapUpdate,run_underlying ht,B,g5 hkt,AA,MapKept.run_setObj_map _ he,Instr.keyThatStays,G,H,hkt.bits x]
  ·exact k _ _ ⟨A.defers,A.size,A.at_⟩ (hs.zI (b:=b) i hC U U (lZ _) (fun _ h=>h) ⟨_,_,nF he,hi.set F J v⟩)
end
end
end
section
open Go.RowKit
def O5 {σ:Type} (w0:World) (P:Program) (l:Nat) (step:σ→List Value→σ→Prop) (J:σ→aq→Prop) (Z:aq→Prop):Prop:=
 ∀ k x k' A w,step k x k'→J k A→w0.heap.size≤w.heap.size→A.holds w→YieldAt (Fw none) 0 P l x.toArray w fun e w'=>
  (e= .returned (.bool true)∧ ∃ B,J k' B∧Mv A B w w')∨(e= .returned (.bool false)∧ ∃ B,Z B∧Mv A B w w')
def Hv {σ:Type} (J:σ→aq→Prop) (Z:aq→Prop) (fin:σ→Prop) (A0:aq) (w0:World) (e:Ending) (w':World):Prop:=
 ∃ v,e= .returned v∧((∃ s B,fin s∧J s B∧Mv A0 B w0 w')∨ ∃ B,Z B∧Mv A0 B w0 w')
structure zY {σ:Type} (P:Program) (f:FuncId) (fi ca:List Value) (Cp:List aq) (s0:σ) (step:σ→List Value→σ→Prop) (fin:σ→Prop):Prop where
 go:pK P f=true
 run: ∀ (l:Nat) (J:σ→aq→Prop) (Z:aq→Prop) (A0:aq) (w:World),O5 w P l step J Z→J s0 A0→A0.holds w→(∀ A∈Cp,A.holds w)→(∀ A∈Cp,zK A0 A.ro)→
  Calls P f (fi++Value.func (.yield l) #[] #[]::ca).toArray w (Hv J Z fin A0 w)
theorem Fs {σ:Type} {J:σ→aq→Prop} {Z:aq→Prop} {n:σ} {fin:σ→Prop} {A0 B:aq} {w0 w:World} {C:List aq} {v:Value} (i:Nat) (hC:C[i]? =some B) (hfin:fin n) (hJ:J n B) (hF:Fo A0 w0 B) (hs:St ⟨A0.wf,fun _=>True⟩ w0 C w):Hv J Z fin A0 w0 (.returned v) w:=
 ⟨v,rfl,.inl ⟨n,B,hfin,hJ,hs.holds B (aT hC),hs.keeps,fun b hb=>(hs.own B (aT hC) b hb).symm,hF⟩⟩
theorem pH {σ:Type} {J:σ→aq→Prop} {Z:aq→Prop} {fin:σ→Prop} {A0 B:aq} {w0 w:World} {C:List aq} {v:Value} (i:Nat) (hC:C[i]? =some B) (hJ:Z B) (hF:Fo A0 w0 B) (hs:St ⟨A0.wf,fun _=>True⟩ w0 C w):Hv J Z fin A0 w0 (.returned v) w:=
 ⟨v,rfl,.inr ⟨B,hJ,hs.holds B (aT hC),hs.keeps,fun b hb=>(hs.own B (aT hC) b hb).symm,hF⟩⟩
theorem qq {σ:Type} {P:Program} {f:FuncId} {fn:Func} {c:Code} {fi ca:List Value} {Cp:List aq} {s0:σ} {step:σ→List Value→σ→Prop} {fin:σ→Prop} (hgo:pK P f=true) (hf:P.funcs[f]? =some fn) (hb:fn.body=some c) (hn:Nat.ble (fi.length+ca.length+1) fn.ntmps=true)
 (h: ∀ (l:Nat) (J:σ→aq→Prop) (Z:aq→Prop) (A0:aq) (w0:World) (Q:cP),O5 w0 P l step J Z→J s0 A0→Fo A0 w0 A0→
  (∀ D L C,LJ ⟨P,none,fn.ntmps,⟨A0.wf,fun _=>True⟩,w0⟩ fn (Hv J Z fin A0 w0) D L C→KJ ⟨P,none,fn.ntmps,⟨A0.wf,fun _=>True⟩,w0⟩ (Q .ret) D L C)→
  (∀ D L C,LJ ⟨P,none,fn.ntmps,⟨A0.wf,fun _=>True⟩,w0⟩ fn (Hv J Z fin A0 w0) D L C→KJ ⟨P,none,fn.ntmps,⟨A0.wf,fun _=>True⟩,w0⟩ (Q .normal) D L C)→
  WJ ⟨P,none,fn.ntmps,⟨A0.wf,fun _=>True⟩,w0⟩ c Q [] (Lp (fi++Value.func (.yield l) #[] #[]::ca)) (A0::Cp.map aq.ro)):zY P f fi ca Cp s0 step fin:=by
 refine ⟨hgo,fun l J Z A0 w hY hJ hA F E=>?_⟩
 refine z6 hf hb (by simpa [Nat.add_assoc] using hn) (h l J Z A0 w · hY hJ (fun b hb=> .inl hb)) ?_
 have G:=qi F
 refine ⟨du.refl _ _,fun A hA'=>?_,List.Pairwise.cons (fun B hB=>?_) G.sep,fun A hA' b hb=>?_,fun _ _ _ _=> .inr trivial⟩
 ·rcases bw.1 hA' with rfl|hA'
  ·exact hA
  ·exact G.holds A hA'
 ·obtain ⟨B',hB',rfl⟩:=b_.1 hB
  exact E B' hB'
 ·rcases bw.1 hA' with rfl|hA'
  ·exact .inr hb
  ·obtain ⟨B',hB',rfl⟩:=b_.1 hA'
   exact hb.elim
section
variable {E:eD} {ops:Array Oper} {Q:cP} {rest:List Oper} {D:List Deferred} {L:List (Nat×Value)} {C:List aq}
variable {d:Nat} {ty:TypeId} {ps:String} {af:Array Edge} {g:Option (Nat×Bool)}
/-- a call of yield -/
theorem jA {σ:Type} {fop:Operand} {xs:Array Operand} {ts:Array TypeId} {l:Nat} {k k':σ} {vs:List Value} {step:σ→List Value→σ→Prop} {J:σ→aq→Prop} {Z:aq→Prop} {A0 A:aq} {w1:World} (i:Nat) (hw1:w1.heap.size≤E.w0.heap.size) (hY:O5 w1 E.P l step J Z) (hJ:J k A) (hF:Fo A0 w1 A) (hg:iK ops L g=true) (hf:ev L fop=some (.func (.yield l) #[] #[]))
 (hx:evs L xs.toList=some vs) (hk:step k vs k') (hC:C[i]? =some A) (hd:Nat.blt d E.n=true)
 (k1: ∀ B,J k' B→Fo A0 w1 B→RJ E ops Q rest D ((d,.bool true)::L) (C.set i B))
 (k2: ∀ B,Z B→Fo A0 w1 B→RJ E ops Q rest D ((d,.bool false)::L) (C.set i B)):
 RJ E ops Q (⟨some d,.call {callee:= .value fop,args:=xs,argTypes:=ts},ty,ps,af,g⟩::rest) D L C:=by
 intro a w F hs
 have hd':d<E.n:=by rw [← Nat.blt_eq]; exact hd
 unfold pw
 rw [if_pos (dv F hg)]
 have K:xs.map a.eval=vs.toArray:=by
  have:=F.evs hx
  apply Array.ext'
  simp [this]
 obtain ⟨fn,tmps,assign,body,hy,hr⟩:=hY k vs k' A w hk hJ (Nat.le_trans hw1 hs.keeps.size) (hs.holds A (aT hC))
 have H:(execOp a.eval ⟨some d,.call {callee:= .value fop,args:=xs,argTypes:=ts},ty,ps,af,g⟩).run E.P w= .ok (.round l fn tmps assign body) w:=by
  simp [execOp,resolve,F.ev hf,Deferred.ofValue,invoke,K,hy]
 refine ⟨fun _ _=>trivial,?_⟩
 rw [Oper.semAt_eq _ _ _ sm,H]
 refine ⟨fun h=>by simp at h,?_⟩
 have G: ∀ (B:aq) (w':World),Mv A B w w'→Fo A0 w1 B:=fun B w' m b hb=>by
  rcases m.eK b hb with AA|AA
  ·exact hF b AA
  ·exact .inr (Nat.le_trans hw1 (Nat.le_trans hs.keeps.size AA))
 have hr':RoundIn (Fw E.r) 0 E.P l fn tmps assign body w _:=hr
 refine hr'.mono fun e w' he=>?_
 rcases he with ⟨rfl,B,hB,m⟩|⟨rfl,B,hB,m⟩
 ·exact k1 B hB (G B w' m) _ _ (F.put hd' _) (hs.mv i hC m)
 ·exact k2 B hB (G B w' m) _ _ (F.put hd' _) (hs.mv i hC m)
end
theorem l4 {σ:Type} {E:eD} {Q:cP} {D:gj} {L L0:cY} {C F:List aq} {g:Operand} {ps:Array Tmp} {assign body:Code} {f:FuncId} {fi ca:List Value} {Cp:List aq} {s0:σ} {step:σ→List Value→σ→Prop} {fin_:σ→Prop} {ι κ:Type}
 (inv:σ→ι→Prop) (Ci:σ→ι→List aq) (invx:Code→κ→Prop) (Cx:Code→κ→List aq) (isJ isF:List Nat) (y0:ι)
 (hr:E.r=none) (hg:ev L g=some (.func (.func f) fi.toArray ca.toArray)) (hs:zY E.P f fi ca Cp s0 step fin_)
 (hnd:decide (isJ++isF).Nodup=true) (hJ:kB C isJ=Ci s0 y0) (hF:kB C isF=F) (h0:inv s0 y0) (hCp: ∀ A∈Cp,∃ B∈F,HV B A)
 (hps: ∀ k x k',step k x k'→x.length=ps.size) (hpn:ps.toList.all (fun t=>Nat.blt t E.n)=true) (hL:ee L L0)
 (round: ∀ (k:σ) (x:List Value) (k':σ) (y:ι) (l:Nat) (ra rb:Loop) (S:BS) (w0:World) (K:Act→World→Prop) (Qr:cP),E.w0.heap.size≤w0.heap.size→step k x k'→inv k y→
  (∀ L' C',WJ ⟨E.P,some l,E.n,S,w0⟩ body Qr [] L' (ki l (.loop rb)::C')→KJ ⟨E.P,some l,E.n,S,w0⟩ K [] L' (ki l (.loop ra)::C'))→
  (∀ y' L' C',inv k' y'→(∀ w,St S w0 C' w→St S w0 (ki l (.loop rb)::Ci k' y') w)→KJ ⟨E.P,some l,E.n,S,w0⟩ (Qr .normal) [] L' C')→
  (∀ id z L' C',invx (.exit id) z→(∀ w,St S w0 C' w→St S w0 (ki l (.loop rb)::Cx (.exit id) z) w)→KJ ⟨E.P,some l,E.n,S,w0⟩ (Qr (.exit id)) [] L' C')→
  (∀ z L' C',invx .ret z→(∀ w,St S w0 C' w→St S w0 (ki l (.loop rb)::Cx .ret z) w)→KJ ⟨E.P,some l,E.n,S,w0⟩ (Qr .ret) [] L' C')→
  WJ ⟨E.P,some l,E.n,S,w0⟩ assign (Exit.then K (fun _ _ _=>False)) [] (yU ps.toList x L0) (ki l (.loop ra)::Ci k y))
 (fin: ∀ r s y,fin_ s→inv s y→KJ E (Q .normal) (kq r::D) L0 (ki r (.deferred (some []))::(F++Ci s y)))
 (finx: ∀ r id z,invx (.exit id) z→KJ E (Q (.exit id)) (kq r::D) L0 (ki r (.deferred (some []))::(F++Cx (.exit id) z)))
 (finr: ∀ r z,invx .ret z→KJ E (Q .ret) (kq r::D) L0 (ki r (.deferred (some []))::(F++Cx .ret z))):WJ E (.rangeFunc g ps assign body) Q D L C:=by
 intro a w hf q
 refine wpIn_rangeFunc fun fn _=>?_
 show ∃ l kq w₁ d w₁' f args w₂,(Instr.enterLoop fn a.tmps ps assign body E.r).run E.P w= .ok (l,kq) w₁∧_
 rw [hr]
 obtain ⟨rec,G⟩: ∃ rec:LoopState→Option Code→Loop,rec=fun st pe=>{state:=st,pending:=pe,fn,tmps:=a.tmps,params:=ps,assign,body,defers:=w.heap.size}:=⟨_,rfl⟩
 obtain ⟨W1,R⟩: ∃ W1,(w.alloc (.deferred (some []))).alloc (.loop (rec .ready none))=W1:=⟨_,rfl⟩
 have A2:a.eval g= .func (.func f) fi.toArray ca.toArray:=hf.ev hg
 have p:(Instr.enterLoop fn a.tmps ps assign body none).run E.P w= .ok (w.heap.size+1,[kq w.heap.size]) W1:=by
  rw [← R,G]; exact run_enterLoop_outer _ _ _ _ _
 -- the state with the record and the block
 have u:St E.S E.w0 ((ki (w.heap.size+1) (.loop (rec .ready none))::Ci s0 y0)++(ki w.heap.size (.deferred (some []))::F)) W1:=by
  have X:St E.S E.w0 (Ci s0 y0++F) w:=St.kB (isJ++isF) hnd (by have X:=hJ; have j:=hF; unfold Go.Proofs.YtlajhejcfcoddaaGreatDoor.kB at X j ⊢; rw [List.filterMap_append,X,j]) q
  have hn:JC w W1 [ki (w.heap.size+1) (.loop (rec .ready none)),ki w.heap.size (.deferred (some []))]:=by
   refine ⟨fun A hA=>?_,fun A hA b hb=>?_,?_⟩
   ·rcases bw.1 hA with rfl|hA
    ·show W1.heap[w.heap.size+1]? =_
     rw [← R]; have:=World.alloc_heap_new (w.alloc (.deferred (some []))) (.loop (rec .ready none)); rwa [World.size_alloc] at this
    ·simp only [bJ] at hA; subst hA
     show W1.heap[w.heap.size]? =_
     rw [← R]; exact (Below.heap_alloc _ _ _ sm).trans (World.alloc_heap_new w _)
   ·rcases bw.1 hA with rfl|hA
    ·have:b=w.heap.size+1:=hb
     omega
    ·simp only [bJ] at hA; subst hA
     have:b=w.heap.size:=hb
     omega
   ·refine List.Pairwise.cons (fun B hB b X j=>?_) (List.pairwise_singleton _ _)
    simp only [bJ] at hB; subst hB
    have V:b=w.heap.size+1:=X
    have O:b=w.heap.size:=j
    omega
  have hk:du no w W1:=by rw [← R]; exact (du.alloc no w _).trans (du.alloc no _ _)
  have j:=X.grow hk hn
  refine j.perm ?_
  simp only [List.cons_append,List.nil_append]
  exact List.Perm.cons _ (List.perm_middle.symm)
 have Y:=u.tied
 obtain ⟨H,A7⟩:=List.pairwise_cons.1 Y.sep
 have A0:=Y.holds _ (cq ..)
 let J:σ→aq→Prop:=fun k A=> ∃ y,inv k y∧A=bB (ki (w.heap.size+1) (.loop (rec .ready none))::Ci k y)
 let Z:aq→Prop:=fun A=> ∃ c z,(c= .ret∨ ∃ id,c= .exit id)∧invx c z∧A=bB (ki (w.heap.size+1) (.loop (rec .done (some c)))::Cx c z)
 refine ⟨w.heap.size+1,[kq w.heap.size],W1,{target:= .fn (.func f) ca.toArray,args:=fi.toArray++ #[.func (.yield (w.heap.size+1)) #[] #[]]},W1,f,
  (fi++Value.func (.yield (w.heap.size+1)) #[] #[]::ca).toArray,W1,p,?_,fun _ _=>trivial,?_,fun h=>by simp at h,?_⟩
 ·simp only [resolve,A2]
  simp [Deferred.ofValue,Act.eval]
 ·have:fi.toArray++ #[Value.func (.yield (w.heap.size+1)) #[] #[]]++ca.toArray=(fi++Value.func (.yield (w.heap.size+1)) #[] #[]::ca).toArray:=by simp
  simp [invoke,nL hs.go]
 ·refine (oY E.r (hs.run (w.heap.size+1) J Z _ W1 ?_ ⟨y0,h0,U⟩ A0 ?_ ?_)).mono ?_
  ·-- a round
   rintro k x k' A W hx ⟨y,hy,rfl⟩ A1 hA
   have hl:W.heap[w.heap.size+1]? =some (.loop (rec .ready none)):=hA.1 _ (cq ..)
   have AC:=run_yield (P:=E.P) (args:=x.toArray) hl (by rw [G]; simpa using hps k x k' hx)
   rw [G] at AC
   refine ⟨fn,_,assign,body,AC,roundIn_of_wpIn trivial ?_⟩
   let A:aq:=bB (ki (w.heap.size+1) (.loop (rec .ready none))::Ci k y)
   have A3:Fr E.n [] (yU ps.toList x L0) {tmps:=(ps.zip x.toArray).foldl (fun tmps (t,a)=>tmps.setIfInBounds t a) a.tmps,defers:=[]}:=by
    have X:=GV ps.toList x L0 a.tmps (fun t ht=>by have:=cN.1 hpn t ht; rwa [Nat.blt_eq] at this) ⟨rfl,hf.size,fun t v hv=>hf.at_ t v (hL t v hv)⟩
    rw [← Array.foldl_toList]
    simpa using X
   have o: ∀ (c:Option Code) (b:Bool),({rec .busy none with state:=if b then .ready else .done,pending:=c}:Loop)=rec (if b then .ready else .done) c:=fun c b=>by rw [G]
   have T: ∀ (c:Option Code) (N:World) (C':List aq) (S:BS),St S W (ki (w.heap.size+1) (.loop (rec .busy none))::C') N→
    ∃ M,(Instr.endRound (w.heap.size+1) c).run E.P N= .ok (.bool c.isNone) M∧St S W (ki (w.heap.size+1) (.loop (rec (if c.isNone then .ready else .done) c))::C') M:=fun c N C' S H=>by
    have AB:N.heap[w.heap.size+1]? =some (.loop (rec .busy none)):=H.holds _ (cq ..)
    refine ⟨_,run_endRound c AB,?_⟩
    have:=H.zI (b:=w.heap.size+1) (A':=ki (w.heap.size+1) (.loop (rec (if c.isNone then .ready else .done) c))) 0 rfl rfl rfl (iw _) (fun _ h=>h) (World.putObj_heap_same (dG AB))
    rw [o]
    exact this
   refine round k x k' y (w.heap.size+1) (rec .ready none) (rec .busy none) ⟨A.wf,A.eK⟩ W _ (roundPost E.P (w.heap.size+1) (fun e w'=>(e= .returned (.bool true)∧ ∃ B,J k' B∧Mv A B W w')∨(e= .returned (.bool false)∧ ∃ B,Z B∧Mv A B W w'))) (Nat.le_trans (Nat.le_trans q.keeps.size (by rw [← R]; simp; omega)) A1) hx hy ?_ ?_ ?_ ?_ _ _ A3 (St.Cu hA)
   ·intro L' C' hW a1 N i H
    have AB:N.heap[w.heap.size+1]? =some (.loop (rec .ready none)):=H.holds _ (cq ..)
    refine ⟨_,run_beginRound AB (by rw [G]),hW _ _ i ?_⟩
    have:=H.zI (b:=w.heap.size+1) (A':=ki (w.heap.size+1) (.loop (rec .busy none))) 0 rfl rfl rfl (iw _) (fun _ h=>h) (World.putObj_heap_same (dG AB))
    have e:({rec .ready none with state:= .busy}:Loop)=rec .busy none:=by rw [G]
    rw [e]; exact this
   ·intro y' L' C' hy' hC' a1 N i H
    obtain ⟨M,V,O⟩:=T none N _ _ (hC' _ H)
    exact ⟨_,M,V,.inl ⟨U,_,⟨y',hy',U⟩,Mv.of O⟩⟩
   ·intro id z L' C' hz hC' a1 N i H
    obtain ⟨M,V,O⟩:=T (some (.exit id)) N _ _ (hC' _ H)
    exact ⟨_,M,V,.inr ⟨U,_,⟨_,z,.inr ⟨id,U⟩,hz,U⟩,Mv.of O⟩⟩
   ·intro z L' C' hz hC' a1 N i H
    obtain ⟨M,V,O⟩:=T (some .ret) N _ _ (hC' _ H)
    exact ⟨_,M,V,.inr ⟨U,_,⟨_,z,.inl U,hz,U⟩,Mv.of O⟩⟩
  ·intro A hA
   obtain ⟨B,hB,hc⟩:=hCp A hA
   exact hc.holds _ (Y.holds B (df _ (df _ hB)))
  ·intro A hA b hb hb'
   obtain ⟨B,hB,hc⟩:=hCp A hA
   exact ⟨(H B (df _ hB) b hb (hc.eK b hb')).1,fun h=>h⟩
  ·rintro e w' ⟨v,rfl,hh⟩
   have AA:Fr E.n (kq w.heap.size::D) L0 {a with defers:=[kq w.heap.size]++a.defers}:=⟨by simp [hf.defers],hf.size,fun t v hv=>hf.at_ t v (hL t v hv)⟩
   have hleave: ∀ (st:LoopState) (c:Option Code) (C':List aq),st≠ .busy→Mv (bB (ki (w.heap.size+1) (.loop (rec .ready none))::Ci s0 y0)) (bB (ki (w.heap.size+1) (.loop (rec st c))::C')) W1 w'→
    ∃ M,(Instr.endLoop (w.heap.size+1)).run E.P w'= .ok c M∧St E.S E.w0 (ki w.heap.size (.deferred (some []))::(F++C')) M:=fun st c C' A5 m=>by
    have X:=(Y.mv 0 rfl m).jz
    have h1':St E.S E.w0 ((ki (w.heap.size+1) (.loop (rec st c))::C')++(ki w.heap.size (.deferred (some []))::F)) w':=X
    have AB:w'.heap[w.heap.size+1]? =some (.loop (rec st c)):=h1'.holds (ki (w.heap.size+1) (.loop (rec st c))) sm
    refine ⟨_,by have:=run_endLoop (P:=E.P) AB (by rw [G]; exact A5); rw [this,G],?_⟩
    have j:=h1'.zI (b:=w.heap.size+1) (A':=ki (w.heap.size+1) (.loop {rec st c with state:= .exhausted})) 0 rfl rfl rfl (iw _) (fun _ h=>h) (World.putObj_heap_same (dG AB))
    have h3:St E.S E.w0 (C'++(ki w.heap.size (.deferred (some []))::F)) _:=j.take (List.sublist_cons_self _ _)
    rw [G] at h3
    refine h3.perm ?_
    exact (List.perm_append_comm).trans sm
   rcases hh with ⟨s,B,A4,⟨y,hy,rfl⟩,m⟩|⟨B,⟨c,z,hc,hz,rfl⟩,m⟩
   ·obtain ⟨M,V,O⟩:=hleave .ready none _ sm m
    exact ⟨none,M,V,fin w.heap.size s y A4 hy _ _ AA O⟩
   ·obtain ⟨M,V,O⟩:=hleave .done (some c) _ sm m
    refine ⟨some c,M,V,?_⟩
    rcases hc with rfl|⟨id,rfl⟩
    ·exact wpIn_ret (finr w.heap.size z hz _ _ AA O)
    ·exact wpIn_exit (finx w.heap.size id z hz _ _ AA O)
end
section
open Go.RowKit
/-- where a row lies, and its capacity -/
abbrev RA:=OA×Nat
/-- what is asked of memory by all elements -/
def aX {M A:Type} (f:M→A→List aq):List M→List A→List aq
 |m::ms,a::asl=>f m a++aX f ms asl
 |_,_=>[]
theorem cD {M A:Type} {f:M→A→List aq}: ∀ {ms:List M} {asl:List A} {k:Nat} {m:M} {a:A} {X:aq},ms[k]? =some m→asl[k]? =some a→X∈f m a→X∈aX f ms asl
 |[],_,k,m,a,X,h,_,_=>by simp at h
 |_::_,[],k,m,a,X,_,h,_=>by simp at h
 |x::ms,y::asl,0,m,a,X,h,h2,hX=>by
  simp at h h2; subst h h2
  exact List.mem_append_left _ hX
 |x::ms,y::asl,k+1,m,a,X,h,h2,hX=>List.mem_append_right _ (cD (ms:=ms) (asl:=asl) (k:=k) (by simpa using h) (by simpa using h2) hX)
theorem iU {M A:Type} {f:M→A→List aq}: ∀ {ms:List M} {asl:List A} {X:aq},X∈aX f ms asl→ ∃ (k:Nat) (m:M) (a:A),ms[k]? =some m∧asl[k]? =some a∧X∈f m a
 |[],_,X,h=>by cases h
 |_::_,[],X,h=>by cases h
 |x::ms,y::asl,X,h=>by
  rcases dM.1 h with h|h
  ·exact ⟨0,x,y,U,U,h⟩
  ·obtain ⟨k,m,a,B,C,D⟩:=iU h
   exact ⟨k+1,m,a,by simpa using B,by simpa using C,D⟩
theorem k6 {M A:Type} {f:M→A→List aq}: ∀ {ms:List M} {asl:List A} {ns:List M} {bs:List A},ms.length=asl.length→aX f (ms++ns) (asl++bs)=aX f ms asl++aX f ns bs
 |[],[],ns,bs,_=>rfl
 |[],_::_,ns,bs,h=>by simp at h
 |_::_,[],ns,bs,h=>by simp at h
 |x::ms,y::asl,ns,bs,h=>by
  simp only [List.cons_append,aX,List.append_assoc]
  rw [k6 (by simpa using h)]
theorem eu {M A β:Type} {f:M→A→β} {ms:List M} {asl:List A} {k:Nat} {m:M} {a:A} (h:ms[k]? =some m) (h2:asl[k]? =some a):(List.zipWith f ms asl)[k]? =some (f m a):=by
 rw [List.getElem?_zipWith,h,h2]
theorem eN {C L:List aq} {A:aq} (i:Nat) (hC:C[i]? =some (eY L).ro) (hm:A∈L):ju C A.holds:=fun w hw=>hw _ (aT hC) A hm
theorem wu {C:List aq} {a:OA} {c e sz n:Nat} {es:List (List Value)} (h:ju C (own a c e sz es).holds) (hn:es.length=n):ju C (rd a n sz es).holds:=fun w hw=>by subst hn; exact oS (h w hw)
theorem cW {M A:Type} {f g:M→A→List aq} {ms:List M} {asl:List A} {C:List aq} (i:Nat) (hC:C[i]? =some (bB (aX g ms asl))) (h: ∀ m a w,(∀ X∈g m a,X.holds w)→ ∀ X∈f m a,X.holds w):ju C (eY (aX f ms asl)).holds:=fun w hw X hX=>by
 have hb:=hw _ (aT hC)
 obtain ⟨k,m,a,B,D,E⟩:=iU hX
 exact h m a w (fun Y hY=>hb.1 Y (cD B D hY)) X E
/-- a row that is part of another one -/
theorem Jw {C:List aq} {A:OA} {n k sz:Nat} {es:List (List Value)} (hR:ju C (rd A n sz es).holds) (hk:k≤n):ju C (rd A k sz (es.take k)).holds:=fun w hw=>by
 obtain ⟨D,E,F⟩:=hR w hw
 refine ⟨by rw [List.length_take,D]; omega,fun x hx=>E x (List.mem_of_mem_take hx),fun hp=>?_⟩
 have G:0<k:=Nat.pos_of_mul_pos_right hp
 have hs:0<sz:=Nat.pos_of_mul_pos_left hp
 obtain ⟨ad,hA,B⟩:=F (Nat.mul_pos om hs)
 refine ⟨ad,hA,fun i e j v he hv=>B i e j v ?_ hv⟩
 rw [List.getElem?_take] at he
 split at he
 ·exact he
 ·cases he
section
variable {E:eD} {ops:Array Oper} {Q:cP} {rest:List Oper} {D:List Deferred} {L:List (Nat×Value)} {C:List aq}
variable {d:Nat} {ty:TypeId} {ps:String} {af:Array Edge} {g:Option (Nat×Bool)}
/-- an element of a slice that is the head of a row -/
theorem Mr (k:Nat) {x ix:Operand} {A:OA} {n n' c sz e t:Nat} {es:List (List Value)} {j:Int} (h:bF E.n ops L d g x ix=some (.slice A n' c,.int .i64 j)) (hR:ju C (rd A n sz es).holds)
 (ht:tE E.P t=some (e,sz)) (hz:0<sz) (hj:j=(k:Int)) (hk:k<n') (hn:n'≤n):SE E ops ⟨some d,.indexAddr t x ix,ty,ps,af,g⟩ D L C (.pointer (kz A (k*sz))) d:=IA k h (Jw hR hn) ht hz hj hk
end
theorem St.tie {S:BS} {w0 w:World} {C:List aq} {A:aq} {L L':List aq} (h:St S w0 (A::bB L::C) w) (e:L++[A]=L'):St S w0 (bB L'::C) w:=by
 subst e
 have B:St S w0 (bB L::A::C) w:=h.perm (List.Perm.swap _ _ _)
 have D:St S w0 (L++(A::C)) w:=B.jz
 have E:St S w0 ((L++[A])++C) w:=by simpa using D
 exact E.tied
theorem St.Kx {S:BS} {w0 w:World} {C:List aq} (h:St S w0 C w):St S w0 (bB []::C) w:=St.tied (C1:=[]) h
section
variable {E:eD} {Q:cP} {D:List Deferred} {L:List (Nat×Value)} {C:List aq}
theorem nJ {c:Code} (h:WJ E c Q D L (bB []::C)):WJ E c Q D L C:=fun a w hf hs=>h a w hf hs.Kx
theorem G5 {ops:Array Oper} {rest:List Oper} (h:RJ E ops Q rest D L (bB []::C)):RJ E ops Q rest D L C:=fun a w hf hs=>h a w hf hs.Kx
theorem yl {K:Act→World→Prop} {C1:List aq} {A:aq} {X X':List aq} (i j:Nat) (hn:decide (j::i::(List.range C.length).filter fun k=>k != i&&k != j).Nodup=true) (hC:kB C (j::i::(List.range C.length).filter fun k=>k != i&&k != j)=A::bB X::C1) (e:X++[A]=X')
 (h:KJ E K D L (bB X'::C1)):KJ E K D L C:=fun a w hf hs=>h a w hf ((St.kB _ hn hC hs).tie e)
theorem N0 {ops:Array Oper} {rest:List Oper} {C1:List aq} {A:aq} {X X':List aq} (i j:Nat) (hn:decide (j::i::(List.range C.length).filter fun k=>k != i&&k != j).Nodup=true) (hC:kB C (j::i::(List.range C.length).filter fun k=>k != i&&k != j)=A::bB X::C1) (e:X++[A]=X')
 (h:RJ E ops Q rest D L (bB X'::C1)):RJ E ops Q rest D L C:=fun a w hf hs=>h a w hf ((St.kB _ hn hC hs).tie e)
end
end
section
open Go.RowKit
abbrev dm:aa→Value:=fun s=>vA (aa.cells s)
abbrev dH:ax→Value:=fun s=>vA (ax.cells s)
abbrev TM:=List (Int×aa)
abbrev FM:=List (ax×Int)
def e8 {α:Type} (m:α) (b:Nat):List Value:=[Value.map (some b)]
def nX (m:TM) (b:Nat):List aq:=[gQ iV b (bK dm m)]
def lD (m:FM) (b:Nat):List aq:=[gQ dH b (bK iV m)]
theorem ke {M A:Type} {f:M→A→List aq}: ∀ (m:M) (a:A) (w:World),(∀ X∈f m a,X.holds w)→ ∀ X∈f m a,X.holds w:=fun _ _ _ h=>h
/-- untied -/
theorem B4 {E:eD} {ops:Array Oper} {Q:cP} {rest:List Oper} {D:gj} {L:cY} {C X C1:List aq} (i:Nat) (hn:decide (i::(List.range C.length).filter fun k=>k != i).Nodup=true) (hC:kB C (i::(List.range C.length).filter fun k=>k != i)=bB X::C1)
 (h:RJ E ops Q rest D L (X++C1)):RJ E ops Q rest D L C:=fun a w hf hs=>h a w hf (St.jz (St.kB _ hn hC hs))
end
section
def cj (ln:cu) (rd:eC) (e:List Int) (tms:List TM):bO:=⟨rd.Start,rd.iL,e,tms,ln.dZ,ln.e7,(rd.aj.n:Int)⟩
def Ks (o:Int×aa):List Value:=[.int .i64 o.1,.agg (aa.cells o.2).toArray]
structure CY (w:bO):Prop where
 n:w.n≤6
 times:w.rX.length=w.n
 now:0≤w.Start∧w.Start≤w.iL∧w.iL≤86400000
 least: ∀ x∈w.nj,1≤x∧x≤500000000
 Nn: ∀ t∈w.rX,∀ p∈t,(0≤p.1∧p.1≤10)∧0≤p.2.Lo∧p.2.Lo≤p.2.Hi∧p.2.Hi≤86400000
theorem CY.opt {w:bO} (h:CY w) {b:Nat} {o:Int×aa} (ho:o∈iE w b):(-1≤o.1∧o.1≤10)∧0≤o.2.Lo∧o.2.Lo≤o.2.Hi∧o.2.Hi≤86400000:=by
 unfold iE sL at ho
 rcases bw.1 ho with rfl|ho
 ·have:=h.now; simp only; omega
 ·cases ht:w.rX[b]? with
  |none=>simp [ht] at ho
  |some t=>
   rw [ht] at ho
   have:=h.Nn t (aT ht) o ho
   omega
theorem CY.cd {w:bO} (h:CY w) (b:Nat):0≤cd w b∧cd w b≤500000000:=by
 unfold Go.Proofs.YtlajhejcfcoddaaGreatDoor.cd
 cases ht:w.nj[b]? with
 |none=>simp
 |some x=>have:=h.least x (aT ht); simp only [Option.getD_some]; omega
theorem uE (s:Int):(0≤(e9 s).right∧0≤(e9 s).fK)∧(e9 s).right+(e9 s).fK=1:=by unfold e9; split<;>simp
theorem Hs {w:bO} (h:CY w): ∀ (b:Nat) p,p∈fwd w b→(0≤p.2∧p.2≤86400000)∧(0≤p.1.right∧0≤p.1.fK)∧p.1.right+p.1.fK=(b:Int):=by
 intro b
 induction b with
 |zero=>
  intro p hp
  simp only [fwd,bJ] at hp
  subst hp
  have:=h.now; simp only; omega
 |succ b ih=>
  intro q hq
  obtain ⟨p,hp,o,ho,e⟩:=eV.1 hq
  have A:=ih p hp
  have B:=h.opt ho
  have C:=h.cd b
  have D:=h.now
  have E:=uE o.1
  unfold jT at e
  split at e
  ·simp only [Option.some.injEq] at e
   subst e
   simp only [d_]
   omega
  ·cases e
theorem Nx {w:bO} (h:CY w): ∀ (k:Nat) p,p∈bwd w k→(-(500000000*(k:Int))≤p.2∧p.2≤86400000)∧(0≤p.1.right∧0≤p.1.fK)∧p.1.right+p.1.fK≤(k:Int):=by
 intro k
 induction k with
 |zero=>
  intro p hp
  simp only [bwd,bJ] at hp
  subst hp
  have:=h.now; simp only; omega
 |succ k ih=>
  intro q hq
  simp only [bwd,bw,List.mem_flatMap,List.mem_filterMap] at hq
  rcases hq with rfl|⟨p,hp,o,ho,e⟩
  ·have:=h.now; simp only; omega
  ·have A:=ih p hp
   have B:=h.opt ho
   have C:=h.cd (w.n-(k+1))
   have D:=h.now
   have E:=uE o.1
   unfold mE at e
   split at e
   ·simp only [Option.some.injEq] at e
    subst e
    simp only [d_]
    omega
   ·cases e
theorem E0 {w:bO} (h:CY w) {b:Nat} {p:ax×Int} (hp:p∈back w b):(-3000000000≤p.2∧p.2≤86400000)∧(0≤p.1.right∧0≤p.1.fK)∧p.1.right+p.1.fK≤6:=by
 have:=Nx h _ _ hp
 have:=h.n
 omega
theorem ud {w:bO} {b:Nat} {t:TM} (ht:w.rX[b]? =some t) {o:Int×aa}:o∈iE w b↔o=(-1,⟨w.Start,w.iL⟩)∨o∈t:=by
 unfold iE sL; rw [ht]; simp
theorem kF {K β:Type} [DecidableEq K] {l:List (K×β)} {x:K} {y:β} (hn:(l.map (·.1)).Nodup) (hm:(x,y)∈l) {o:K×β} (h:o∈l):o∈bY l x∨o=(x,y):=by
 by_cases e:o.1=x
 ·right
  obtain ⟨k,v⟩:=o
  simp only at e
  subst e
  have B:=(jf hn).1 h
  have A:=(jf hn).1 hm
  rw [B] at A
  cases A; rfl
 ·exact .inl (jo.2 ⟨h,e⟩)
theorem CI {K β:Type} [DecidableEq K] {t l ys:List (K×β)} {x:K} {y:β} (hn:(l.map (·.1)).Nodup) (hm:(x,y)∈l) (h: ∀ o∈t,o∈l∨o∈ys): ∀ o∈t,o∈bY l x∨o∈ys++[(x,y)]:=fun o ho=>by
 rcases h o ho with h|h
 ·rcases kF hn hm h with h|h
  ·exact .inl h
  ·exact .inr (by simp [h])
 ·exact .inr (by simp [h])
theorem k7 {K β:Type} [DecidableEq K] {t l:List (K×β)} {x:K} (h: ∀ o∈l,o∈t): ∀ o∈bY l x,o∈t:=fun o ho=>h o (jo.1 ho).1
theorem F4 {w:bO} {m left:List (ax×Int)} (h: ∀ p∈m,p∈left∨nk w p.1=false) (h0:left=[]):jy w m=false:=by
 unfold jy
 rw [List.any_eq_false]
 intro p hp
 rcases h p hp with q|q
 ·rw [h0] at q; cases q
 ·simp [q]
theorem I4 {w:bO} {m:List (ax×Int)} {p:ax×Int} (hp:p∈m) (h:nk w p.1=true):jy w m=true:=List.any_eq_true.2 ⟨p,hp,h⟩
theorem Gk {w:bO} {m left:List (ax×Int)} {t:ax} {v:Int} (hn:(left.map (·.1)).Nodup) (hm:(t,v)∈left) (h: ∀ p∈m,p∈left∨nk w p.1=false) (hf:nk w t=false): ∀ p∈m,p∈bY left t∨nk w p.1=false:=fun p hp=>by
 rcases h p hp with q|q
 ·rcases kF hn hm q with q|q
  ·exact .inl q
  ·right; rw [q]; exact hf
 ·exact .inr q
/-- what the maps of a watch are -/
structure rI (w:bO) (fs:List (List (ax×Int))):Prop where
 len:fs.length=w.n+1
 min: ∀ (b:Nat) m,fs[b]? =some m→qd m (fwd w b)
 keys: ∀ (b:Nat) m,fs[b]? =some m→(m.map (·.1)).Nodup
structure pZ (w:bO) (bs:List (List (ax×Int))):Prop where
 len:bs.length=w.n+1
 max: ∀ (b:Nat) m,bs[b]? =some m→rN m (back w b)
 keys: ∀ (b:Nat) m,bs[b]? =some m→(m.map (·.1)).Nodup
theorem rI.mem {w:bO} {fs:List (List (ax×Int))} (h:rI w fs) {b:Nat} {m:List (ax×Int)} (hm:fs[b]? =some m) {p:ax×Int} (hp:p∈m):p∈fwd w b:=(h.min b m hm).1 _ _ ((eJ (h.keys b m hm)).1 hp)
theorem pZ.mem {w:bO} {fs:List (List (ax×Int))} (h:pZ w fs) {b:Nat} {m:List (ax×Int)} (hm:fs[b]? =some m) {p:ax×Int} (hp:p∈m):p∈back w b:=(h.max b m hm).1 _ _ ((eJ (h.keys b m hm)).1 hp)
theorem C_ {w:bO} {b:Nat} {t l ys:List (Int×aa)} (ht:w.rX[b]? =some t) (h: ∀ o∈t,o∈l∨o∈ys) (h0:l=[]) (hs:(-1,(⟨w.Start,w.iL⟩:aa))∈ys): ∀ o∈iE w b,o∈ys:=fun o ho=>by
 rcases (ud ht).1 ho with rfl|ho
 ·exact hs
 ·rcases h o ho with q|q
  ·rw [h0] at q; cases q
  ·exact q
end
section
/-- by these options all is yielded -/
def ks (w:bO) (b:Nat) (mf mb:List (ax×Int)) (os ys:List (Int×aa)):Prop:= ∀ o∈os,∀ p∈mf,∀ u∈mb,∀ q,lh w b p u o=some q→q∈ys
def ml (w:bO) (b:Nat) (mf mb:List (ax×Int)) (o:Int×aa) (left:List (ax×Int)) (ys:List (Int×aa)):Prop:= ∀ p∈mf,p∈left∨ ∀ u∈mb,∀ q,lh w b p u o=some q→q∈ys
def mm (w:bO) (b:Nat) (mb:List (ax×Int)) (o:Int×aa) (p:ax×Int) (left:List (ax×Int)) (ys:List (Int×aa)):Prop:= ∀ u∈mb,u∈left∨ ∀ q,lh w b p u o=some q→q∈ys
variable {w:bO} {b:Nat} {mf mb left:List (ax×Int)} {o x:Int×aa} {os ys:List (Int×aa)} {p u:ax×Int}
theorem ks.nil:ks w b mf mb [] ys:=fun o ho=>by cases ho
theorem ks.app (h:ks w b mf mb os ys):ks w b mf mb os (ys++[x]):=fun o ho p hp u hu q e=>List.mem_append_left _ (h o ho p hp u hu q e)
theorem ml.app (h:ml w b mf mb o left ys):ml w b mf mb o left (ys++[x]):=fun p hp=>(h p hp).imp id fun h u hu q e=>List.mem_append_left _ (h u hu q e)
theorem ml.start:ml w b mf mb o mf ys:=fun p hp=> .inl hp
theorem mm.start:mm w b mb o p mb ys:=fun p hp=> .inl hp
theorem mm.skip {t:ax} {v:Int} (hn:(left.map (·.1)).Nodup) (hm:(t,v)∈left) (h:mm w b mb o p left ys) (he:lh w b p (t,v) o=none):mm w b mb o p (bY left t) ys:=fun u hu=>by
 rcases h u hu with q|q
 ·rcases kF hn hm q with q|q
  ·exact .inl q
  ·right; intro z hz; rw [q,he] at hz; cases hz
 ·exact .inr q
theorem mm.Px {t:ax} {v:Int} (hn:(left.map (·.1)).Nodup) (hm:(t,v)∈left) (h:mm w b mb o p left ys) (he:lh w b p (t,v) o=some x):mm w b mb o p (bY left t) (ys++[x]):=fun u hu=>by
 rcases h u hu with q|q
 ·rcases kF hn hm q with q|q
  ·exact .inl q
  ·right; intro z hz; rw [q,he] at hz; cases hz; simp
 ·right; intro z hz; exact List.mem_append_left _ (q z hz)
theorem ml.next {t:ax} {v:Int} {l2:List (ax×Int)} (hn:(left.map (·.1)).Nodup) (hm:(t,v)∈left) (h:ml w b mf mb o left ys) (hq:mm w b mb o (t,v) l2 ys) (h0:l2=[]):ml w b mf mb o (bY left t) ys:=fun p hp=>by
 rcases h p hp with q|q
 ·rcases kF hn hm q with q|q
  ·exact .inl q
  ·right; intro u hu z hz; subst q
   rcases hq u hu with q|q
   ·rw [h0] at q; cases q
   ·exact q z hz
 ·exact .inr q
theorem ks.next (h:ks w b mf mb os ys) (hp:ml w b mf mb o left ys) (h0:left=[]):ks w b mf mb (os++[o]) ys:=fun o' ho p hp' u hu q e=>by
 rcases dM.1 ho with ho|ho
 ·exact h o' ho p hp' u hu q e
 ·simp only [bJ] at ho; subst ho
  rcases hp p hp' with z|z
  ·rw [h0] at z; cases z
  ·exact z u hu q e
theorem ks.fin (h:ks w b mf mb os ys) (ho: ∀ o∈iE w b,o∈os): ∀ q∈oa w b mf mb,q∈ys:=fun q hq=>by
 obtain ⟨o,A,p,B,u,C,e⟩:=gK.1 hq
 exact h o (ho o A) p B u C q e
theorem Ds (h:max (p.2+cd w b) o.2.Lo≤min u.2 o.2.Hi) (h2:nk w (d_ (d_ p.1 u.1) (e9 o.1))=true):lh w b p u o=some (o.1,⟨max (p.2+cd w b) o.2.Lo,min u.2 o.2.Hi⟩):=by
 unfold lh iH ue; rw [if_pos ⟨h,h2⟩]
theorem Hr (h: ¬ max (p.2+cd w b) o.2.Lo≤min u.2 o.2.Hi):lh w b p u o=none:=by
 unfold lh iH; rw [if_neg (fun q=>h q.1)]
theorem D0 (h2:nk w (d_ (d_ p.1 u.1) (e9 o.1))=false):lh w b p u o=none:=by
 unfold lh ue; rw [if_neg (fun q=>by rw [h2] at q; exact absurd q.2 dc)]
theorem l5 {v:Int} (h:w.nj[b]? =some v):cd w b=v:=by unfold cd; rw [h]; rfl
theorem yz {t q:ax} {v z y:Int} (hy:w.nj[b]? =some y) (h:max (v+y) o.2.Lo≤min z o.2.Hi) (h2:nk w (d_ (d_ t q) (e9 o.1))=true):lh w b (t,v) (q,z) o=some (o.1,⟨max (v+y) o.2.Lo,min z o.2.Hi⟩):=by
 have e:=l5 hy
 subst e
 exact Ds h h2
theorem C3 {t q:ax} {v z y:Int} (hy:w.nj[b]? =some y) (h: ¬ max (v+y) o.2.Lo≤min z o.2.Hi):lh w b (t,v) (q,z) o=none:=by
 have e:=l5 hy
 subst e
 exact Hr h
theorem mW {m:List (ax×Int)} {k:ax} {y:Int} (h:(m.map (·.1)).Nodup):((dN m k y).map (·.1)).Nodup:=by
 unfold dN
 by_cases hx:(m.lookup k).isSome
 ·rw [if_pos hx,List.map_map]
  have e:m.map ((fun p=>p.1)∘fun p=>if p.1=k then (k,y) else p)=m.map (·.1):=by
   apply List.map_congr_left
   intro p _
   simp only [Function.comp]
   split
   ·rename_i e; exact e.symm
   ·rfl
  rw [e]; exact h
 ·rw [if_neg hx,List.map_append,List.nodup_append]
  refine ⟨h,sm,?_⟩
  intro a ha c hc
  simp only [List.map_cons,List.map_nil,bJ] at hc
  rw [hc]
  obtain ⟨p,hp,rfl⟩:=b_.1 ha
  have hn:m.lookup k=none:=by cases h0:m.lookup k with
   |none=>rfl
   |some v=>exact absurd (by rw [h0]; rfl) hx
  exact iB.1 hn p hp
theorem x3 {m:List (ax×Int)} {q:ax×Int} (h:(m.map (·.1)).Nodup):((nG m q).map (·.1)).Nodup:=by
 unfold nG; split
 ·exact mW h
 ·split
  ·exact mW h
  ·exact h
theorem xV {m:List (ax×Int)} {q:ax×Int} (h:(m.map (·.1)).Nodup):((nA m q).map (·.1)).Nodup:=by
 unfold nA; split
 ·exact mW h
 ·split
  ·exact mW h
  ·exact h
/-- a map of the first times, on its way -/
structure uN (w:bO) (b:Nat) (m:List (ax×Int)):Prop where
 snd:sj m (fwd w (b+1))
 keys:(m.map (·.1)).Nodup
structure sB (w:bO) (b:Nat) (m:List (ax×Int)):Prop where
 snd:sj m (back w b)
 keys:(m.map (·.1)).Nodup
 zero: ∃ v,m.lookup ⟨0,0⟩=some v∧w.iL≤v
theorem Hn (h:max (p.2+cd w b) o.2.Lo≤min o.2.Hi w.iL):jT w b p o=some (d_ p.1 (e9 o.1),max (p.2+cd w b) o.2.Lo):=by unfold jT; rw [if_pos h]
theorem Jp (h: ¬ max (p.2+cd w b) o.2.Lo≤min o.2.Hi w.iL):jT w b p o=none:=by unfold jT; rw [if_neg h]
theorem FD (h:o.2.Lo≤min p.2 o.2.Hi):mE w b p o=some (d_ p.1 (e9 o.1),min p.2 o.2.Hi-cd w b):=by unfold mE; rw [if_pos h]
theorem Ig (h: ¬ o.2.Lo≤min p.2 o.2.Hi):mE w b p o=none:=by unfold mE; rw [if_neg h]
theorem uN.start:uN w b []:=⟨fun t v h=>by simp at h,List.nodup_nil⟩
theorem uN.add {m:List (ax×Int)} {q:ax×Int} (h:uN w b m) (hp:p∈fwd w b) (ho:o∈iE w b) (he:jT w b p o=some q):uN w b (nG m q):=⟨CD h.snd (eV.2 ⟨p,hp,o,ho,he⟩),x3 h.keys⟩
theorem sB.start (hb:b<w.n):sB w b [(⟨0,0⟩,w.iL)]:=⟨fun t v h=>by
 obtain ⟨rfl,rfl⟩:=ny.1 h
 exact (np hb).2 (.inl U),sm,w.iL,ny.2 ⟨U,U⟩,Int.le_refl _⟩
theorem sB.add {m:List (ax×Int)} {q:ax×Int} (hb:b<w.n) (h:sB w b m) (hp:p∈back w (b+1)) (ho:o∈iE w b) (he:mE w b p o=some q):sB w b (nA m q):=⟨Dw h.snd ((np hb).2 (.inr ⟨p,hp,o,ho,he⟩)),xV h.keys,by
 obtain ⟨v,A,C⟩:=h.zero
 obtain ⟨v',B,D⟩:=oK (q:=q) _ _ A
 exact ⟨v',B,om⟩⟩
theorem hP.none_ {m:List (ax×Int)} (h:hP w b m p os) (he:jT w b p o=none):hP w b m p (os++[o]):=h.add (tT.refl _) fun q hq=>by rw [he] at hq; cases hq
theorem hP.Fa {m:List (ax×Int)} {q:ax×Int} (h:hP w b m p os) (he:jT w b p o=some q):hP w b (nG m q) p (os++[o]):=h.add rZ fun q' hq=>by rw [he] at hq; cases hq; exact CG
theorem ij.none_ {m:List (ax×Int)} (h:ij w b m p os) (he:mE w b p o=none):ij w b m p (os++[o]):=h.add (uK.refl _) fun q hq=>by rw [he] at hq; cases hq
theorem ij.Fa {m:List (ax×Int)} {q:ax×Int} (h:ij w b m p os) (he:mE w b p o=some q):ij w b (nA m q) p (os++[o]):=h.add oK fun q' hq=>by rw [he] at hq; cases hq; exact Dd
/-- what of a map of the beam before is used already -/
def jm (w:bO) (b:Nat) (mb m left:List (ax×Int)):Prop:= ∀ p∈mb,p∈left∨hP w b m p (iE w b)
def iN (w:bO) (b:Nat) (mb m left:List (ax×Int)):Prop:= ∀ p∈mb,p∈left∨ij w b m p (iE w b)
theorem jm.start {m:List (ax×Int)}:jm w b mb m mb:=fun p hp=> .inl hp
theorem iN.start {m:List (ax×Int)}:iN w b mb m mb:=fun p hp=> .inl hp
theorem jm.lower {m m':List (ax×Int)} (h:jm w b mb m left) (hl:tT m m'):jm w b mb m' left:=fun p hp=>(h p hp).imp id fun h=>h.lower hl
theorem iN.upper {m m':List (ax×Int)} (h:iN w b mb m left) (hl:uK m m'):iN w b mb m' left:=fun p hp=>(h p hp).imp id fun h=>h.upper hl
theorem jm.next {m:List (ax×Int)} {t:ax} {v:Int} (hn:(left.map (·.1)).Nodup) (hm:(t,v)∈left) (h:jm w b mb m left) (hd:hP w b m (t,v) os) (ho: ∀ o∈iE w b,o∈os):jm w b mb m (bY left t):=fun p hp=>by
 rcases h p hp with q|q
 ·rcases kF hn hm q with q|q
  ·exact .inl q
  ·right; rw [q]; exact hd.sub ho
 ·exact .inr q
theorem iN.next {m:List (ax×Int)} {t:ax} {v:Int} (hn:(left.map (·.1)).Nodup) (hm:(t,v)∈left) (h:iN w b mb m left) (hd:ij w b m (t,v) os) (ho: ∀ o∈iE w b,o∈os):iN w b mb m (bY left t):=fun p hp=>by
 rcases h p hp with q|q
 ·rcases kF hn hm q with q|q
  ·exact .inl q
  ·right; rw [q]; exact hd.sub ho
 ·exact .inr q
theorem jm.fin {m:List (ax×Int)} (h:jm w b mb m left) (h0:left=[]): ∀ p∈mb,hP w b m p (iE w b):=fun p hp=>by
 rcases h p hp with q|q
 ·rw [h0] at q; cases q
 ·exact q
theorem iN.fin {m:List (ax×Int)} (h:iN w b mb m left) (h0:left=[]): ∀ p∈mb,ij w b m p (iE w b):=fun p hp=>by
 rcases h p hp with q|q
 ·rw [h0] at q; cases q
 ·exact q
end
section
def ld (a b:aa):aa:=⟨a.Lo+b.Lo,a.Hi+b.Hi⟩
def dC:aa:=⟨0,0⟩
def jI (a:aa) (l:List aa):aa:=l.foldl ld a
def kl (z:aa):Prop:=(-1000000000≤z.Lo∧z.Lo≤1000000000)∧ -1000000000≤z.Hi∧z.Hi≤1000000000
theorem v8 {a:aa} {l:List aa} {i:Nat} {z:aa} (h:l[i]? =some z):jI a (l.take (i+1))=ld (jI a (l.take i)) z:=by
 rw [List.take_add_one,h]; unfold jI; simp
theorem KV {a:aa} {l:List aa} (ha:kl a) (hl: ∀ z∈l,kl z): ∀ i:Nat,(-1000000000-1000000000*(i:Int)≤(jI a (l.take i)).Lo∧(jI a (l.take i)).Lo≤1000000000+1000000000*(i:Int))∧ -1000000000-1000000000*(i:Int)≤(jI a (l.take i)).Hi∧(jI a (l.take i)).Hi≤1000000000+1000000000*(i:Int):=by
 intro i
 induction i with
 |zero=>unfold kl at ha; simp [jI]; omega
 |succ i ih=>
  cases h:l[i]? with
  |none=>rw [List.take_add_one,h]; simp only [Option.toList_none,List.append_nil]; omega
  |some z=>
   have hz:=hl z (aT h)
   unfold kl at hz
   rw [v8 h]
   simp only [ld]
   omega
theorem HD {a:aa} {l:List aa} {i:Nat} (h:l.length≤i):jI a (l.take i)=jI a l:=by rw [List.take_of_length_le h]
theorem l7 {a z:aa}:vA (aa.cells (jI a [z]))=vA (aa.cells (ld a z)):=rfl
theorem zh {a y z:aa}:vA (aa.cells (jI a [y,z]))=vA (aa.cells (ld (ld a y) z)):=rfl
/-- how long the run is from one mark, over so many stretches; by how much it falls -/
def dQ (ts:List ai) (f:Nat):Nat→aa
 |0=>dC
 |k+1=>match ts[f+k]? with
  |some x=>ld (dQ ts f k) x.jH
  |none=>dQ ts f k
def fq (ts:List ai) (f:Nat):Nat→aa
 |0=>dC
 |k+1=>match ts[f+k]? with
  |some x=>ld (fq ts f k) x.kx
  |none=>fq ts f k
theorem nT {ts:List ai} {f k:Nat} {x:ai} (h:ts[f+k]? =some x):dQ ts f (k+1)=ld (dQ ts f k) x.jH:=by simp [dQ,h]
theorem nM {ts:List ai} {f k:Nat} {x:ai} (h:ts[f+k]? =some x):fq ts f (k+1)=ld (fq ts f k) x.kx:=by simp [fq,h]
theorem kQ {ts:List ai} (ht: ∀ x∈ts,bH x) (f:Nat): ∀ k:Nat,(0≤(dQ ts f k).Lo∧(dQ ts f k).Lo≤(dQ ts f k).Hi)∧(dQ ts f k).Hi≤30000*(k:Int):=by
 intro k
 induction k with
 |zero=>simp [dQ,dC]
 |succ k ih=>
  simp only [dQ]
  cases h:ts[f+k]? with
  |none=>simp only; omega
  |some x=>
   have hx:=(ht x (aT h)).2.1
   simp only [dp] at hx
   simp only [ld]
   omega
theorem Bs {ts:List ai} (ht: ∀ x∈ts,bH x) (f:Nat): ∀ k:Nat,(0≤(fq ts f k).Lo∧(fq ts f k).Lo≤(fq ts f k).Hi)∧(fq ts f k).Hi≤5000*(k:Int):=by
 intro k
 induction k with
 |zero=>simp [fq,dC]
 |succ k ih=>
  simp only [fq]
  cases h:ts[f+k]? with
  |none=>simp only; omega
  |some x=>
   have hx:=(ht x (aT h)).2.2.1
   simp only [dp] at hx
   simp only [ld]
   omega
theorem oO {ts:List ai} (ht: ∀ x∈ts,bH x) {f k:Nat} (hk:k≤13):kl (dQ ts f k):=by
 have:=kQ ht f k; unfold kl; omega
theorem ta {ts:List ai} (ht: ∀ x∈ts,bH x) {f k:Nat} (hk:k≤13):kl (fq ts f k):=by
 have:=Bs ht f k; unfold kl; omega
theorem qX {x:ai} (h:bH x):kl x.jH:=by have:=h.2.1; simp only [dp] at this; unfold kl; omega
theorem qU {x:ai} (h:bH x):kl x.kx:=by have:=h.2.2.1; simp only [dp] at this; unfold kl; omega
theorem we {ts:List ai} (h: ¬ (if cO ts=true then (0:Int) else 10)=0):cO ts=false∧(if cO ts=true then (0:Int) else 10)=10:=by
 cases ht:cO ts with
 |true=>rw [ht] at h; exact absurd rfl h
 |false=>exact ⟨rfl,rfl⟩
theorem AV {ts:List ai} (h:(if cO ts=true then (0:Int) else 10)=0):cO ts=true:=by
 cases ht:cO ts with
 |true=>rfl
 |false=>rw [ht] at h; exact absurd h dc
/-- what the iterator of marks yields -/
def qf (ts:List ai) (f:Nat):List (List Value):=(List.range (ts.length-f+1)).map fun (k:Nat)=>[.agg (dQ ts f k).cells.toArray,.agg (fq ts f k).cells.toArray]
theorem qo {ts:List ai} {f:Nat}:(qf ts f).length=ts.length-f+1:=by simp [qf]
theorem vN {ts:List ai} {f k:Nat} (h:k≤ts.length-f):(qf ts f)[k]? =some [.agg (dQ ts f k).cells.toArray,.agg (fq ts f k).cells.toArray]:=by
 simp [qf,List.getElem?_range (show k<ts.length-f+1 by omega)]
theorem CT {ts:List ai} {f k:Nat} {x:List Value} (h:(qf ts f)[k]? =some x):k≤ts.length-f∧x=[.agg (dQ ts f k).cells.toArray,.agg (fq ts f k).cells.toArray]:=by
 have hi:k<ts.length-f+1:=by
  have:=(aY.1 h).1
  simpa [qf] using this
 rw [vN om] at h
 exact ⟨om,(Option.some.inj h).symm⟩
theorem An {ts:List ai} {f:Nat}: ∀ x∈qf ts f,x.length=2:=fun x hx=>by
 obtain ⟨k,_,rfl⟩:=b_.1 hx; rfl
end
section
def eE (ts:List ai) (s:ck):Prop:=(0≤s.aP∧s.aP<(ts.length:Int))∧ ∃ x,ts[s.aP.toNat]? =some x∧dp s.lp 0 (x.jH.Lo-1)
noncomputable instance (ts:List ai) (s:ck):Decidable (eE ts s):=Classical.propDecidable _
theorem zw {ts:List ai} {s:ck} {x:ai} (h:0≤s.aP∧s.aP<(ts.length:Int)) (hx:ts[s.aP.toNat]? =some x):eE ts s↔dp s.lp 0 (x.jH.Lo-1):=
 ⟨fun A=>by obtain ⟨y,hy,B⟩:=A.2; rw [hx] at hy; cases hy; exact B,fun A=>⟨h,x,hx,A⟩⟩
theorem yA {ts:List ai} {s:ck} (h: ¬ (0≤s.aP∧s.aP<(ts.length:Int))): ¬ eE ts s:=fun A=>h A.1
theorem wH {ts:List ai} {s:ck} (ht: ∀ x∈ts,bH x) (h:eE ts s):(0≤s.lp.Lo∧s.lp.Lo≤s.lp.Hi)∧s.lp.Hi≤30000:=by
 obtain ⟨x,hx,A⟩:=h.2
 have:=(ht x (aT hx)).2.1
 simp only [dp] at A this
 omega
theorem Bb {ts:List ai} {a:ck}:vB (decide (∀ s∈[a],eE ts s))=vB (decide (eE ts a)):=congrArg _ (gd.2 sm)
theorem AA {ts:List ai} {a b:ck}:vB (decide (∀ s∈[a,b],eE ts s))=vB (decide (eE ts a∧eE ts b)):=congrArg _ (gd.2 sm)
def mV (z:aa):aa:=⟨-z.Hi,-z.Lo⟩
def HU (ts:List ai) (s:ck):aa:=ld (dQ ts 0 s.aP.toNat) s.lp
noncomputable def B_ (ts:List ai) (s:ck):Int:=if cO ts=true then (if eE ts s then 0 else 12) else 10
noncomputable def K7 (ts:List ai) (s:ck):aa:=if B_ ts s=0 then HU ts s else dC
theorem ED {ts:List ai} {s:ck} (h:cO ts=false):B_ ts s=10∧K7 ts s=dC:=by
 have e:B_ ts s=10:=by unfold B_; rw [h]; rfl
 exact ⟨e,by unfold K7; rw [e]; rfl⟩
theorem Ft {ts:List ai} {s:ck} (h:cO ts=true) (h2: ¬ eE ts s):B_ ts s=12∧K7 ts s=dC:=by
 have e:B_ ts s=12:=by unfold B_; rw [if_pos h,if_neg h2]
 exact ⟨e,by unfold K7; rw [e]; rfl⟩
theorem tY {ts:List ai} {s:ck} (h:cO ts=true) (h2:eE ts s):B_ ts s=0∧K7 ts s=HU ts s:=by
 have e:B_ ts s=0:=by unfold B_; rw [if_pos h,if_pos h2]
 exact ⟨e,if_pos e⟩
theorem Ca {ts:List ai} {s:ck} (h:cO ts=true):B_ ts s=0↔eE ts s:=by
 unfold B_; rw [if_pos h]; split<;>simp [*]
def tQ (ts:List ai) (a b:ck):aa:=dQ ts (min a.aP b.aP).toNat (max a.aP b.aP-min a.aP b.aP).toNat
def i_ (ts:List ai) (a b:ck):aa:=ld (ld (if b.aP<a.aP then mV (tQ ts a b) else tQ ts a b) b.lp) (mV a.lp)
noncomputable def kG (ts:List ai) (a b:ck):Int:=if cO ts=true then (if eE ts a∧eE ts b then 0 else 12) else 10
noncomputable def jQ (ts:List ai) (a b:ck):aa:=if kG ts a b=0 then i_ ts a b else dC
theorem q_ {ts:List ai} {a b:ck} (h:cO ts=false):kG ts a b=10∧jQ ts a b=dC:=by
 have e:kG ts a b=10:=by unfold kG; rw [h]; rfl
 exact ⟨e,by unfold jQ; rw [e]; rfl⟩
theorem nC {ts:List ai} {a b:ck} (h:cO ts=true) (h2: ¬ (eE ts a∧eE ts b)):kG ts a b=12∧jQ ts a b=dC:=by
 have e:kG ts a b=12:=by unfold kG; rw [if_pos h,if_neg h2]
 exact ⟨e,by unfold jQ; rw [e]; rfl⟩
theorem j7 {ts:List ai} {a b:ck} (h:cO ts=true) (h2:eE ts a∧eE ts b):kG ts a b=0∧jQ ts a b=i_ ts a b:=by
 have e:kG ts a b=0:=by unfold kG; rw [if_pos h,if_pos h2]
 exact ⟨e,if_pos e⟩
theorem wX {z:aa} (h:kl z):kl (mV z):=by unfold kl mV at *; simp only; omega
theorem ow {ts:List ai} {s:ck} (ht: ∀ x∈ts,bH x) (h:eE ts s):kl s.lp:=by have:=wH ht h; unfold kl; omega
theorem K3 {ts:List ai} {a b:ck} (ht: ∀ x∈ts,bH x) (hl:ts.length≤12) (ha:eE ts a) (hb:eE ts b):(0≤(tQ ts a b).Lo∧(tQ ts a b).Lo≤(tQ ts a b).Hi)∧(tQ ts a b).Hi≤360000:=by
 have h:=kQ ht (min a.aP b.aP).toNat (max a.aP b.aP-min a.aP b.aP).toNat
 have A:=ha.1
 have B:=hb.1
 unfold tQ
 omega
theorem uC {ts:List ai} {a b:ck} (ht: ∀ x∈ts,bH x) (hl:ts.length≤12) (ha:eE ts a) (hb:eE ts b):(-400000≤(i_ ts a b).Lo∧(i_ ts a b).Lo≤(i_ ts a b).Hi)∧(i_ ts a b).Hi≤400000:=by
 have h:=K3 ht hl ha hb
 have A:=wH ht ha
 have B:=wH ht hb
 unfold i_ ld mV
 split<;>simp only <;>omega
theorem Oa {ts:List ai} {s:ck} (ht: ∀ x∈ts,bH x) (hl:ts.length≤12) (h:eE ts s):(0≤(HU ts s).Lo∧(HU ts s).Lo≤(HU ts s).Hi)∧(HU ts s).Hi≤400000:=by
 have A:=kQ ht 0 s.aP.toNat
 have B:=wH ht h
 have C:=h.1
 unfold HU ld
 simp only; omega
theorem CA {α:Type} {p:Nat→α→Bool} {l:List α}:((l.zipIdx.filter fun q=>p q.2 q.1).map fun q=>(q.2:Int))=[]↔ ∀ (i:Nat) x,l[i]? =some x→p i x=false:=by
 rw [List.map_eq_nil_iff,List.filter_eq_nil_iff]
 constructor
 ·intro h i x hx
  have:=h (x,i) (by rw [List.mem_zipIdx_iff_getElem?]; simpa using hx)
  simpa using this
 ·rintro h ⟨x,i⟩ hm
  rw [List.mem_zipIdx_iff_getElem?] at hm
  simpa using h i x (by simpa using hm)
/-- the places of a list at which something is so -/
def p4 {α:Type} (p:Nat→α→Bool) (l:List α) (n:Nat):List Int:=(((l.take n).zipIdx.filter fun q=>p q.2 q.1).map fun q=>(q.2:Int))
theorem FR {α:Type} {p:Nat→α→Bool} {l:List α} {i:Nat} {x:α} (hx:l[i]? =some x) (h:p i x=true):p4 p l (i+1)=p4 p l i++[(i:Int)]:=by
 have hi:=(aY.1 hx).1
 unfold p4
 rw [List.take_add_one,hx,List.zipIdx_append,List.filter_append,List.map_append]
 simp [Nat.min_eq_left (Nat.le_of_lt hi),h]
theorem Ij {α:Type} {p:Nat→α→Bool} {l:List α} {i:Nat} {x:α} (hx:l[i]? =some x) (h:p i x=false):p4 p l (i+1)=p4 p l i:=by
 have hi:=(aY.1 hx).1
 unfold p4
 rw [List.take_add_one,hx,List.zipIdx_append,List.filter_append,List.map_append]
 simp [Nat.min_eq_left (Nat.le_of_lt hi),h]
theorem zp {α:Type} {p:Nat→α→Bool} {l:List α} {n:Nat}:(p4 p l n).length≤n:=by
 unfold p4
 rw [List.length_map]
 refine Nat.le_trans (List.length_filter_le _ _) ?_
 rw [List.length_zipIdx,List.length_take]; omega
def E_ {α:Type} (p:Nat→α→Bool) (l:List α):List Int:=p4 p l l.length
theorem IZ {α:Type} {p:Nat→α→Bool} {l:List α} {n:Nat} (h:n=l.length):p4 p l n=E_ p l:=by rw [h]; rfl
theorem D1 {α:Type} {p:Nat→α→Bool} {l:List α}:(E_ p l).length=0↔ ∀ (i:Nat) x,l[i]? =some x→p i x=false:=by
 unfold E_ p4
 rw [List.length_eq_zero_iff,List.take_length]
 exact CA
end
section
theorem vx (p:Int→Bool) (n:Nat): ∃ r:Int,r=((List.range n).findIdx fun (k:Nat)=>p (k:Int):Nat):=⟨_,rfl⟩
noncomputable def g3 (p:Int→Bool) (n:Nat):Int:=Classical.choose (vx p n)
theorem pM (p:Int→Bool) (n:Nat):g3 p n=((List.range n).findIdx fun (k:Nat)=>p (k:Int):Nat):=Classical.choose_spec (vx p n)
theorem mB {p:Int→Bool} {n:Nat}:0≤g3 p n∧g3 p n≤n:=by
 rw [pM]
 have:=List.findIdx_le_length (xs:=List.range n) (p:=fun (k:Nat)=>p (k:Int))
 rw [List.length_range] at this
 omega
theorem qV {p:Int→Bool} {n:Nat} {x:Int} (h0:0≤x) (h:x<g3 p n):p x=false:=by
 have hb:=mB (p:=p) (n:=n)
 rw [pM] at h
 have B:x.toNat<(List.range n).findIdx fun (k:Nat)=>p (k:Int):=by omega
 have A:=List.not_of_lt_findIdx B
 simp only [List.getElem_range] at A
 rw [show (x.toNat:Int)=x by omega] at A
 simpa using A
theorem vM {p:Int→Bool} {n:Nat} (h:g3 p n<n):p (g3 p n)=true:=by
 rw [pM] at h ⊢
 have A:((List.range n).findIdx fun (k:Nat)=>p (k:Int))<(List.range n).length:=by rw [List.length_range]; omega
 have:=List.findIdx_getElem (w:=A)
 simpa using this
theorem vV {p:Int→Bool} {n:Nat} {r:Int} (h0:0≤r) (hn:r<n) (hr:p r=true) (hb: ∀ x,0≤x→x<r→p x=false):g3 p n=r:=by
 have A:=mB (p:=p) (n:=n)
 rcases Int.lt_trichotomy (g3 p n) r with h|h|h
 ·have:=hb _ A.1 h
  have e:=vM (p:=p) (n:=n) om
  rw [e] at this; cases this
 ·exact h
 ·have:=qV h0 h
  rw [hr] at this; cases this
end
section
def sK (n by_:Int):Int:=(n+by_-1)/by_
/-- by how much a sync may be off -/
def xq (c:av) (at_:Int) (x:cv):Int:=sK (c.eh*max (at_-x.At) (x.At-at_)) 1000000
def lS (c:av) (at_:Int) (s:aa) (x:cv):aa:=⟨max s.Lo (x.fE.Lo-xq c at_ x),min s.Hi (x.fE.Hi+xq c at_ x)⟩
def fH (c:av) (at_:Int) (k:Nat):aa:=(c.bj.take k).foldl (lS c at_) ⟨-1099511627776,1099511627776⟩
def iv (c:av) (at_:Int):aa:=c.bj.foldl (lS c at_) ⟨-1099511627776,1099511627776⟩
theorem kY {c:av} {at_:Int} {k:Nat} {x:cv} (h:c.bj[k]? =some x):fH c at_ (k+1)=lS c at_ (fH c at_ k) x:=by
 unfold fH; rw [List.take_add_one,h,List.foldl_append]; rfl
theorem nR {c:av} {at_:Int} {k:Nat} (h:c.bj.length≤k):fH c at_ k=iv c at_:=by unfold fH iv; rw [List.take_of_length_le h]
def jx (c:av) (i:Nat):Int:=if i=0 then-1 else ((c.bj[i-1]?).map (·.At)).getD 0
def eI (c:av) (i:Nat) (x:cv):Prop:=(jx c i<x.At∧x.At≤86400000)∧ -10000≤x.fE.Lo∧x.fE.Lo≤x.fE.Hi∧x.fE.Hi≤10000
def mx (c:av) (x o:cv):Prop:=x.fE.Lo-o.fE.Hi≤sK (c.eh*(x.At-o.At)) 1000000∧o.fE.Lo-x.fE.Hi≤sK (c.eh*(x.At-o.At)) 1000000
structure eP (c:av):Prop where
 rG:0≤c.eh∧c.eh≤1000
 len:1≤c.bj.length∧c.bj.length≤5
 sync: ∀ (i:Nat) x,c.bj[i]? =some x→eI c i x
 pair: ∀ (i k:Nat) x o,c.bj[i]? =some x→k<i→c.bj[k]? =some o→mx c x o
noncomputable instance (c:av):Decidable (eP c):=Classical.propDecidable _
theorem fx {c:av} {i:Nat} (h:i=0):jx c i= -1:=if_pos h
theorem tH {c:av} {i:Nat} {y:cv} (h:0<i) (hy:c.bj[i-1]? =some y):jx c i=y.At:=by unfold jx; rw [if_neg om,hy]; rfl
theorem mK {c:av} {i:Nat} {y:cv} (hy:c.bj[i]? =some y):jx c (i+1)=y.At:=by unfold jx; rw [if_neg om,Nat.add_sub_cancel,hy]; rfl
/-- the times of the syncs -/
theorem Jq {c:av} (h: ∀ (i:Nat) x,c.bj[i]? =some x→eI c i x): ∀ (i:Nat) x,c.bj[i]? =some x→0≤x.At∧ ∀ (k:Nat) o,k<i→c.bj[k]? =some o→o.At<x.At:=by
 intro i
 induction i with
 |zero=>
  intro x hx
  have:=(h 0 x hx).1.1
  rw [fx rfl] at this
  exact ⟨om,fun k o hk=>by omega⟩
 |succ i ih=>
  intro x hx
  have hi:=(aY.1 hx).1
  have hy:c.bj[i]? =some (c.bj[i]'om):=fT om
  have B:=ih _ hy
  have A:=(h (i+1) x hx).1.1
  rw [mK hy] at A
  refine ⟨om,fun k o hk ho=>?_⟩
  by_cases e:k=i
  ·subst e; rw [hy] at ho; cases ho; exact A
  ·have:=B.2 k o om ho; omega
theorem eP.wq {c:av} (h:eP c) {i:Nat} {x:cv} (hx:c.bj[i]? =some x):(0≤x.At∧x.At≤86400000)∧ -10000≤x.fE.Lo∧x.fE.Lo≤x.fE.Hi∧x.fE.Hi≤10000:=by
 have A:=h.sync i x hx
 exact ⟨⟨(Jq h.sync i x hx).1,A.1.2⟩,A.2⟩
theorem BE {d a b:Int} (hd:0≤d∧d≤1000) (ha:0≤a∧a≤90000000) (hb:0≤b∧b≤90000000):0≤d*max (a-b) (b-a)∧d*max (a-b) (b-a)≤90000000000:=by
 have:=Lq (a:=d) (b:=max (a-b) (b-a)) (A:=1000) (B:=90000000) hd.1 hd.2 om om
 omega
theorem wK {c:av} {at_:Int} {x:cv} (hd:0≤c.eh∧c.eh≤1000) (ha:0≤at_∧at_≤90000000) (hx:0≤x.At∧x.At≤86400000):0≤xq c at_ x∧xq c at_ x≤90001:=by
 have h:=BE hd ha (show 0≤x.At∧x.At≤90000000 by omega)
 unfold xq sK; omega
theorem yE {c:av} {at_:Int} (h:eP c) (ha:0≤at_∧at_≤90000000): ∀ k:Nat,(-1099511627776≤(fH c at_ k).Lo∧(fH c at_ k).Lo≤10000)∧ -10000≤(fH c at_ k).Hi∧(fH c at_ k).Hi≤1099511627776:=by
 intro k
 induction k with
 |zero=>simp [fH]
 |succ k ih=>
  cases hx:c.bj[k]? with
  |none=>unfold fH at ih ⊢; rw [List.take_add_one,hx]; simpa using ih
  |some x=>
   have hb:=h.wq hx
   have ho:=wK h.rG ha hb.1
   rw [kY hx]
   unfold lS
   simp only
   omega
theorem uj {c:av} {at_:Int} (h:eP c) (ha:0≤at_∧at_≤90000000):(-110000≤(iv c at_).Lo∧(iv c at_).Lo≤10000)∧ -10000≤(iv c at_).Hi∧(iv c at_).Hi≤110000:=by
 obtain ⟨n,hn⟩: ∃ n,c.bj.length=n+1:=⟨c.bj.length-1,by have:=h.len; omega⟩
 have hx:c.bj[n]? =some (c.bj[n]'om):=fT om
 have hb:=h.wq hx
 have ho:=wK h.rG ha hb.1
 have A:=yE h ha n
 rw [← nR (k:=n+1) om,kY hx]
 unfold lS
 simp only
 omega
/-- as time goes on, time and what a clock may be ahead, together, never go back -/
theorem Al {c:av} (h:eP c) {a b:Int} (ha:0≤a) (hab:a≤b) (hb:b≤90000000): ∀ k:Nat,(a+(fH c a k).Lo≤b+(fH c b k).Lo∨(fH c a k).Lo= -1099511627776)∧a+(fH c a k).Hi≤b+(fH c b k).Hi:=by
 have step: ∀ (x:cv),0≤x.At∧x.At≤86400000→ ∀ a b:Int,0≤a→a≤b→b≤90000000→xq c a x≤xq c b x+(b-a)∧xq c b x≤xq c a x+(b-a):=by
  intro x hx a b ha hab hb
  have hd:=h.rG
  have e: ∀ u v:Int,u≤v+1000000*(b-a)→sK u 1000000≤sK v 1000000+(b-a):=by intro u v C; unfold sK; omega
  have m: ∀ p q:Int,p≤q+(b-a)→c.eh*p≤c.eh*q+1000000*(b-a):=by
   intro p q A
   have D:c.eh*p≤c.eh*(q+(b-a)):=Int.mul_le_mul_of_nonneg_left A hd.1
   have E:c.eh*(q+(b-a))=c.eh*q+c.eh*(b-a):=Int.mul_add _ _ _
   have F:c.eh*(b-a)≤1000*(b-a):=Int.mul_le_mul_of_nonneg_right hd.2 om
   omega
  exact ⟨e _ _ (m _ _ om),e _ _ (m _ _ om)⟩
 intro k
 induction k with
 |zero=>simp [fH]; omega
 |succ k ih=>
  cases hx:c.bj[k]? with
  |none=>
   have e: ∀ t,fH c t (k+1)=fH c t k:=fun t=>by unfold fH; rw [List.take_add_one,hx]; simp
   rw [e,e]; exact ih
  |some x=>
   have hs:=h.wq hx
   have:=step x hs.1 a b ha hab hb
   have B:=wK (at_:=a) h.rG ⟨ha,om⟩ hs.1
   rw [kY hx,kY hx]
   unfold lS
   simp only
   omega
theorem mU {c:av} (h:eP c) {a b:Int} (ha:0≤a) (hab:a≤b) (hb:b≤90000000):a+(iv c a).Lo≤b+(iv c b).Lo∧a+(iv c a).Hi≤b+(iv c b).Hi:=by
 have A:=Al h ha hab hb c.bj.length
 have B:=uj h (at_:=a) ⟨ha,om⟩
 rw [nR (Nat.le_refl _),nR (Nat.le_refl _)] at A
 omega
noncomputable def kp (l:bo) (i:Nat):Int:=match l.ab[i]? with
 |some b=>if i=0 then (HU l.aN b.lu).Lo else (match l.ab[i-1]? with
  |some a=>(i_ l.aN a.lu b.lu).Lo
  |none=>0)
 |none=>0
theorem wa {l:bo} {b:bM} (h:l.ab[0]? =some b):kp l 0=(HU l.aN b.lu).Lo:=by unfold kp; rw [h]; rfl
theorem yX {l:bo} {i:Nat} {a b:bM} (hi:0<i) (h:l.ab[i]? =some b) (ha:l.ab[i-1]? =some a):kp l i=(i_ l.aN a.lu b.lu).Lo:=by unfold kp; rw [h,ha]; simp only; rw [if_neg om]
def iW (l:bo) (b:bM):Prop:=eE l.aN b.lu∧0≤b.kX∧b.kX<(l.ak.length:Int)
def gE (l:bo):Prop:=(1≤l.gN∧l.gN≤5000)∧(1≤(l.ak.length:Int)∧(l.ak.length:Int)≤4)∧(1≤(l.ab.length:Int)∧(l.ab.length:Int)≤6)∧(0≤l.bS∧l.bS≤(l.ab.length:Int)-1)∧(0≤l.e7∧l.e7≤3)∧0≤l.dZ∧l.dZ≤3
structure mu (l:bo):Prop where
 head:gE l
 clock: ∀ c∈l.ak,eP c
 uT: ∀ b∈l.ab,iW l b
 N4: ∀ i,i<l.ab.length→1≤kp l i
noncomputable instance (l:bo):Decidable (mu l):=Classical.propDecidable _
noncomputable def eU (l:bo):Int:=if cO l.aN=true then (if mu l then 0 else 50) else 10
theorem vR {l:bo} (h:cO l.aN=false):eU l=10:=by unfold eU; rw [h]; rfl
theorem ov {l:bo} (h:cO l.aN=true) (h2: ¬ mu l):eU l=50:=by unfold eU; rw [if_pos h,if_neg h2]
theorem uD {l:bo} (h:cO l.aN=true) (h2:mu l):eU l=0:=by unfold eU; rw [if_pos h,if_pos h2]
theorem ji {l:bo} (h:eU l=0):cO l.aN=true∧mu l:=by
 unfold eU at h
 split at h
 ·split at h
  ·exact ⟨asm,asm⟩
  ·omega
 ·omega
theorem F_ {l:bo} (ht:cO l.aN=true) (hb: ∀ b∈l.ab,iW l b) (i:Nat): -400000≤kp l i∧kp l i≤400000:=by
 have A:=jh ht
 have hl:=jR ht
 unfold kp
 cases h:l.ab[i]? with
 |none=>simp
 |some b=>
  have B:=(hb b (aT h)).1
  simp only
  split
  ·have:=Oa A hl B; omega
  ·cases h2:l.ab[i-1]? with
   |none=>simp
   |some a=>
    have C:=(hb a (aT h2)).1
    have:=uC A hl C B
    simp only; omega
def qK (l:bo) (s:aH):av:=((l.ab[s.fD.toNat]?).bind fun b=>l.ak[b.kX.toNat]?).getD ⟨0,[]⟩
def jP (c:av) (r t:Int):Bool:=decide (r≤t+(iv c t).Hi)
def jU (c:av) (r t:Int):Bool:=decide (r<t+(iv c t).Lo)
noncomputable def qs (c:av) (r:Int):aa:=⟨g3 (jP c r) 86400001,g3 (jU c r) 86400001-1⟩
noncomputable def eT (l:bo) (s:aH):aa:=qs (qK l s) s.Read
noncomputable def pX (l:bo) (i:Nat):Int:=sK (1000*kp l i) l.gN
end
section
open Go.RowKit
def xI (n:Int):Int:=IntKind.i64.wrap n
theorem xD {n:Int} (h:oZ n):xI n=n:=mH h
theorem My (n:Int): -9223372036854775808≤xI n∧xI n≤9223372036854775807:=by
 unfold xI
 rw [IntKind.wrap_i64]
 omega
section
variable {P:Program} {t:TypeId} {x y:Operand} {a b:Int}
theorem Ma:gO P .add t x y (.int .i64 a) (.int .i64 b) (.int .i64 (xI (a+b))):=fun w=>by simp [eqGuard_add,binOp_add,Op.intArith,xI]
theorem Gw:gO P .sub t x y (.int .i64 a) (.int .i64 b) (.int .i64 (xI (a-b))):=fun w=>by simp [eqGuard_sub,binOp_sub,Op.intArith,xI]
theorem Ll:gO P .mul t x y (.int .i64 a) (.int .i64 b) (.int .i64 (xI (a*b))):=fun w=>by simp [eqGuard_mul,binOp_mul,Op.intArith,xI]
end
/-- divided, and rounded up, as it comes out -/
def Nz (n by_:Int):Int:=(xI (xI (n+by_)-1)).tdiv by_
theorem LV {a b:Int} (ha: -9223372036854775808≤a∧a≤9223372036854775807) (hb:2≤b):oZ (a.tdiv b):=by
 have A:a.tdiv b=a/b+if a % b≠0∧a<0 then 1 else 0:=by
  rcases Int.lt_or_le a 0 with h|h
  ·rw [Int.tdiv_eq_ediv]
   have:b.sign=1:=Int.sign_eq_one_of_pos om
   rw [this]
   by_cases hd:b∣a
   ·have:a % b=0:=Int.emod_eq_zero_of_dvd hd
    simp [hd,this]
   ·have:a % b≠0:=fun e=>hd (Int.dvd_of_emod_eq_zero e)
    have hn: ¬ 0≤a:=by omega
    simp [hd,this,h,hn]
  ·rw [Int.tdiv_eq_ediv_of_nonneg h]
   have: ¬ a<0:=by omega
   simp [this]
 have B:a/b*b+a % b=a:=by rw [Int.mul_comm]; exact Int.mul_ediv_add_emod a b
 have C:0≤a % b:=Int.emod_nonneg _ om
 have D:a % b<b:=Int.emod_lt_of_pos _ om
 have E: -9223372036854775808≤a/b∧a/b≤4611686018427387904:=by
  constructor
  ·refine Int.le_ediv_of_mul_le om ?_
   have:(-9223372036854775808:Int)*b≤ -9223372036854775808*1:=Int.mul_le_mul_of_nonpos_left om om
   omega
  ·refine Int.ediv_le_of_le_mul om ?_
   have:(4611686018427387904:Int)*2≤4611686018427387904*b:=Int.mul_le_mul_of_nonneg_left hb om
   omega
 rw [A]
 unfold oZ
 split<;>omega
theorem L8 {n by_:Int} (h0:0≤n) (h1:n≤1000000000000000000) (hb:1≤by_∧by_≤1000000000000):Nz n by_=(n+by_-1)/by_:=by
 unfold Nz
 rw [xD (show oZ (n+by_) from ⟨om,om⟩),xD (show oZ (n+by_-1) from ⟨om,om⟩),Int.tdiv_eq_ediv_of_nonneg om]
end
section
def kO (c:av) (i:Nat) (x:cv) (k:Nat):Prop:=eI c i x∧ ∀ (j:Nat) o,j<k→c.bj[j]? =some o→mx c x o
def pQ (c:av) (n:Nat):Prop:= ∀ (i:Nat) x,i<n→c.bj[i]? =some x→kO c i x i
noncomputable instance (c:av) (i:Nat) (x:cv) (k:Nat):Decidable (kO c i x k):=Classical.propDecidable _
instance (c:av) (i:Nat) (x:cv):Decidable (eI c i x):=by unfold eI; infer_instance
theorem AU {c:av} {i:Nat} {x:cv}:kO c i x 0↔eI c i x:=⟨fun h=>h.1,fun h=>⟨h,fun j o hj=>by omega⟩⟩
theorem p8 {c:av} {i k:Nat} {x o:cv} (h:c.bj[k]? =some o):kO c i x (k+1)↔kO c i x k∧mx c x o:=by
 constructor
 ·intro hr
  exact ⟨⟨hr.1,fun j o' hj ho=>hr.2 j o' om ho⟩,hr.2 k o om h⟩
 ·rintro ⟨hr,hp⟩
  refine ⟨hr.1,fun j o' hj ho=>?_⟩
  by_cases e:j=k
  ·subst e; rw [h] at ho; cases ho; exact hp
  ·exact hr.2 j o' om ho
theorem Eb {c:av}:pQ c 0:=fun i x hi=>by omega
theorem D_ {c:av} {i:Nat} {x:cv} (h:pQ c i) (hx:c.bj[i]? =some x) (hr:kO c i x i):pQ c (i+1):=fun j y hj hy=>by
 by_cases e:j=i
 ·subst e; rw [hx] at hy; cases hy; exact hr
 ·exact h j y om hy
theorem EV {c:av} {i:Nat} {x:cv} (hx:c.bj[i]? =some x) (h: ¬ kO c i x i): ¬ eP c:=fun hc=>h ⟨hc.sync i x hx,fun j o hj ho=>hc.pair i j x o hx hj ho⟩
theorem Cz {c:av} (h1:0≤c.eh∧c.eh≤1000) (h2:1≤c.bj.length∧c.bj.length≤5) (h:pQ c c.bj.length):eP c:=
 ⟨h1,h2,fun i x hx=>(h i x (aY.1 hx).1 hx).1,fun i k x o hx hk ho=>(h i x (aY.1 hx).1 hx).2 k o hk ho⟩
/-- syncs so far -/
theorem qQ {c:av} {n:Nat} (h: ∀ (i:Nat) x,i<n→c.bj[i]? =some x→eI c i x): ∀ (i:Nat) x,i<n→c.bj[i]? =some x→0≤x.At∧ ∀ (k:Nat) o,k<i→c.bj[k]? =some o→o.At<x.At:=by
 intro i
 induction i with
 |zero=>
  intro x hn hx
  have:=(h 0 x hn hx).1.1
  rw [fx rfl] at this
  exact ⟨om,fun k o hk=>by omega⟩
 |succ i ih=>
  intro x hn hx
  have hi:=(aY.1 hx).1
  have hy:c.bj[i]? =some (c.bj[i]'om):=fT om
  have B:=ih _ om hy
  have A:=(h (i+1) x hn hx).1.1
  rw [mK hy] at A
  refine ⟨om,fun k o hk ho=>?_⟩
  by_cases e:k=i
  ·subst e; rw [hy] at ho; cases ho; exact A
  ·have:=B.2 k o om ho; omega
theorem GD {c:av} {i:Nat} (hi:i≤c.bj.length) (h: ∀ (j:Nat) y,j<i→c.bj[j]? =some y→eI c j y): -1≤jx c i∧jx c i≤86400000:=by
 cases i with
 |zero=>rw [fx rfl]; omega
 |succ i=>
  have hy:c.bj[i]? =some (c.bj[i]'om):=fT om
  have A:=(qQ (n:=i+1) h i _ om hy).1
  have B:=(h i _ om hy).1.2
  rw [mK hy]; omega
theorem Lf {c:av} {i:Nat} (hi:i≤c.bj.length) (h:pQ c i): -1≤jx c i∧jx c i≤86400000:=GD hi fun j y hj hy=>(h j y hj hy).1
theorem qT {c:av} {i k:Nat} {x o:cv} (hs: ∀ (j:Nat) y,j<i→c.bj[j]? =some y→eI c j y) (hx:c.bj[i]? =some x) (hok:eI c i x) (hk:k<i) (ho:c.bj[k]? =some o):
 (0≤o.At∧o.At<x.At∧x.At≤86400000)∧(-10000≤x.fE.Lo∧x.fE.Lo≤x.fE.Hi∧x.fE.Hi≤10000)∧ -10000≤o.fE.Lo∧o.fE.Lo≤o.fE.Hi∧o.fE.Hi≤10000:=by
 have h: ∀ (j:Nat) y,j<i+1→c.bj[j]? =some y→eI c j y:=fun j y hj hy=>by
  by_cases e:j=i
  ·subst e; rw [hx] at hy; cases hy; exact hok
  ·exact hs j y om hy
 have A:=(qQ h i x om hx).2 k o hk ho
 have B:=(qQ h k o om ho).1
 exact ⟨⟨B,A,hok.1.2⟩,hok.2,(h k o om ho).2⟩
theorem Jb {d a b:Int} (hd:0≤d∧d≤1000) (h:0≤b∧b<a∧a≤86400000):Nz (xI (d*xI (a-b))) 1000000=sK (d*(a-b)) 1000000:=by
 have C:0≤d*(a-b)∧d*(a-b)≤90000000000:=by
  have:=Lq (a:=d) (b:=a-b) (A:=1000) (B:=90000000) hd.1 hd.2 om om
  omega
 rw [xD (show oZ (a-b) from ⟨om,om⟩),xD (show oZ (d*(a-b)) from ⟨om,om⟩),L8 C.1 om om]
 rfl
/-- what is asked of a line, however wrong it is -/
structure eA (l:bo) (asl:List RA):Prop where
 ux:l.aN.length≤1000000
 side: ∀ x∈l.aN,0≤x.ir∧x.ir≤255
 s_:l.ak.length≤1000000
 o4:asl.length=l.ak.length
 tW:l.ab.length≤1000000
 Mi: ∀ (k:Nat) m (a:RA),l.ak[k]? =some m→asl[k]? =some a→m.bj.length≤a.2∧m.bj.length≤1000000
noncomputable instance (l:bo):Decidable (gE l):=by unfold gE; infer_instance
noncomputable instance (l:bo) (b:bM):Decidable (iW l b):=Classical.propDecidable _
theorem vp {l:bo} (h:gE l) (h2: ∀ c∈l.ak,eP c) (h3: ∀ b∈l.ab,iW l b) (h4: ∀ i,i<l.ab.length→1≤kp l i):mu l:=⟨h,h2,h3,h4⟩
theorem zP {l:bo}:((!(l.ak.any fun m=> !decide (eP m)))=true)↔ ∀ c∈l.ak,eP c:=by simp
theorem Dk {l:bo}:((!(l.ab.any fun b=> !decide (iW l b)))=true)↔ ∀ b∈l.ab,iW l b:=by simp
theorem pg {c:av} (h:eP c) {r x:Int} (h0:0≤x) (h1:x<86400001):
 (x<g3 (jP c r) 86400001→jP c r x=false)∧(g3 (jP c r) 86400001≤x→jP c r x=true)∧(x<g3 (jU c r) 86400001→jU c r x=false)∧(g3 (jU c r) 86400001≤x→jU c r x=true):=by
 have up: ∀ (q:Int→Bool),(∀ a b,0≤a→a≤b→b<86400001→q a=true→q b=true)→g3 q 86400001≤x→q x=true:=fun q hq hx=>by
  have hb:=mB (p:=q) (n:=86400001)
  exact hq _ _ hb.1 hx h1 (vM om)
 refine ⟨qV h0,up _ fun a b ha A hb hq=>?_,qV h0,up _ fun a b ha A hb hq=>?_⟩
 ·have:=mU h ha A om
  simp only [jP,decide_eq_true_eq] at hq ⊢; omega
 ·have:=mU h ha A om
  simp only [jU,decide_eq_true_eq] at hq ⊢; omega
theorem Ad {l:bo} {s:aH} {b:bM} {c:av} (hb:l.ab[s.fD.toNat]? =some b) (hc:l.ak[b.kX.toNat]? =some c):qK l s=c:=by
 unfold qK; rw [hb]; simp only [Option.bind_some]; rw [hc]; rfl
end
section
def ku (sg:List aH) (i:Nat):aH:=if i=0 then ⟨-1,0⟩ else (sg[i-1]?).getD ⟨-1,0⟩
theorem iX {sg:List aH} {i:Nat} {s:aH} (h:sg[i]? =some s):ku sg (i+1)=s:=by unfold ku; rw [if_neg om,Nat.add_sub_cancel,h]; rfl
def iJ (l:bo) (s:aH):Prop:=(0≤s.fD∧s.fD≤(l.ab.length:Int)-1)∧0≤s.Read∧s.Read≤86400000
def g9 (l:bo) (sg:List aH) (i:Nat) (s:aH):Prop:=iJ l s∧ ¬ s.fD<(ku sg i).fD∧ ¬ (s.fD=(ku sg i).fD∧s.Read≤(ku sg i).Read)
def oL (l:bo) (sg:List aH) (i:Nat):Prop:= ∀ (j:Nat) s,j<i→sg[j]? =some s→g9 l sg j s
structure fh (l:bo) (r:dw):Prop where
 time:0≤r.Start∧r.Start≤r.iL∧r.iL≤86400000
 len:r.aj.length≤10
 sig: ∀ (i:Nat) s,r.aj[i]? =some s→g9 l r.aj i s
noncomputable instance (l:bo) (r:dw):Decidable (fh l r):=Classical.propDecidable _
theorem vX {l:bo} {sg:List aH}:oL l sg 0:=fun j s hj=>absurd hj (Nat.not_lt_zero _)
theorem jZ {l:bo} {sg:List aH} {i:Nat} {s:aH} (h:oL l sg i) (hs:sg[i]? =some s) (ho:g9 l sg i s):oL l sg (i+1):=fun j z hj hz=>by
 rcases Nat.lt_or_ge j i with q|q
 ·exact h j z q hz
 ·obtain rfl:j=i:=by omega
  rw [hs] at hz; cases hz; exact ho
theorem yL {l:bo} {r:dw} {i:Nat} (h1:0≤r.Start∧r.Start≤r.iL∧r.iL≤86400000) (h2:r.aj.length≤10) (h:oL l r.aj i) (hi:r.aj.length≤i):fh l r:=
 ⟨h1,h2,fun j s hs=>h j s (by have:=(aY.1 hs).1; omega) hs⟩
noncomputable def l6 (l:bo) (sg:List aH) (b k:Nat):Option (Int×aa):=(sg[k]?).bind fun s=>if s.fD=(b:Int)∧(eT l s).Lo≤(eT l s).Hi then some ((k:Int),eT l s) else none
noncomputable def jO (l:bo) (sg:List aH) (i b:Nat):TM:=(List.range i).filterMap (l6 l sg b)
noncomputable def bZ (l:bo) (sg:List aH) (i:Nat):List TM:=(List.range l.ab.length).map (jO l sg i)
noncomputable def cZ (l:bo) (n:Nat):List Int:=(List.range n).map (pX l)
theorem rV {l:bo} {n:Nat}:cZ l (n+1)=cZ l n++[pX l n]:=by simp [cZ,List.range_succ]
theorem cT {l:bo} {n:Nat}:(cZ l n).length=n:=by simp [cZ]
theorem fu {l:bo} {sg:List aH} {i:Nat}:(bZ l sg i).length=l.ab.length:=by simp [bZ]
theorem pf {l:bo} {sg:List aH} {i b:Nat} (h:b<l.ab.length):(bZ l sg i)[b]? =some (jO l sg i b):=by simp [bZ,h]
theorem nS {l:bo} {sg:List aH} {b k:Nat} {q:Int×aa}:l6 l sg b k=some q↔ ∃ s,sg[k]? =some s∧(s.fD=(b:Int)∧(eT l s).Lo≤(eT l s).Hi)∧q=((k:Int),eT l s):=by
 unfold l6
 cases h:sg[k]? with
 |none=>simp
 |some s=>
  simp only [Option.bind_some,Option.some.injEq]
  by_cases e:s.fD=(b:Int)∧(eT l s).Lo≤(eT l s).Hi
  ·rw [if_pos e]
   constructor
   ·intro h; cases h; exact ⟨s,rfl,e,rfl⟩
   ·rintro ⟨s',rfl,_,rfl⟩; rfl
  ·rw [if_neg e]
   constructor
   ·intro h; cases h
   ·rintro ⟨s',rfl,e',_⟩; exact absurd e' e
theorem s8 {l:bo} {sg:List aH} {i b:Nat} {q:Int×aa}:q∈jO l sg i b↔ ∃ k,k<i∧ ∃ s,sg[k]? =some s∧(s.fD=(b:Int)∧(eT l s).Lo≤(eT l s).Hi)∧q=((k:Int),eT l s):=by
 unfold jO
 simp only [List.mem_filterMap,List.mem_range,nS]
theorem j2 {l:bo} {sg:List aH} {i b:Nat}:jO l sg (i+1) b=jO l sg i b++(l6 l sg b i).toList:=by
 unfold jO
 rw [List.range_succ,List.filterMap_append]
 congr 1
theorem tc {l:bo} {sg:List aH}:bZ l sg 0=List.replicate l.ab.length []:=by
 unfold bZ
 rw [List.eq_replicate_iff]
 refine ⟨sm,fun t ht=>?_⟩
 obtain ⟨b,_,rfl⟩:=b_.1 ht
 rfl
theorem nZ {l:bo} {sg:List aH} {i:Nat} {s:aH} (hs:sg[i]? =some s) (h: ¬ (eT l s).Lo≤(eT l s).Hi):bZ l sg (i+1)=bZ l sg i:=by
 unfold bZ
 apply List.map_congr_left
 intro b _
 rw [j2]
 have:l6 l sg b i=none:=by
  cases e:l6 l sg b i with
  |none=>rfl
  |some q=>obtain ⟨s',A,⟨_,B⟩,_⟩:=nS.1 e; rw [hs] at A; cases A; exact absurd B h
 rw [this]; simp
theorem o6 {l:bo} {sg:List aH} {i:Nat} {s:aH} (hs:sg[i]? =some s) (hb:0≤s.fD∧s.fD≤(l.ab.length:Int)-1) (h:(eT l s).Lo≤(eT l s).Hi) {x:TM} (hx:(bZ l sg i)[s.fD.toNat]? =some x):
 (bZ l sg i).set s.fD.toNat (dN x (i:Int) (eT l s))=bZ l sg (i+1):=by
 have A:s.fD.toNat<l.ab.length:=by omega
 rw [pf A] at hx
 cases hx
 have B:dN (jO l sg i s.fD.toNat) (i:Int) (eT l s)=jO l sg (i+1) s.fD.toNat:=by
  have hn:(jO l sg i s.fD.toNat).lookup (i:Int)=none:=iB.2 fun p hp e=>by
   obtain ⟨k,hk,_,_,_,rfl⟩:=s8.1 hp
   simp only at e; omega
  have ho:l6 l sg s.fD.toNat i=some ((i:Int),eT l s):=nS.2 ⟨s,hs,⟨om,h⟩,rfl⟩
  rw [j2,ho]
  unfold dN; rw [hn]; rfl
 rw [B]
 apply List.ext_getElem?
 intro b
 rw [List.getElem?_set]
 by_cases e:s.fD.toNat=b
 ·rw [if_pos e,fu,← e,if_pos A,pf A]
 ·rw [if_neg e]
  by_cases hb':b<l.ab.length
  ·rw [pf hb',pf hb',j2]
   have:l6 l sg b i=none:=by
    cases e2:l6 l sg b i with
    |none=>rfl
    |some q=>obtain ⟨s',C,⟨D,_⟩,_⟩:=nS.1 e2; rw [hs] at C; cases C; exact absurd om e
   rw [this]; simp
  ·rw [List.getElem?_eq_none (by rw [fu]; omega),List.getElem?_eq_none (by rw [fu]; omega)]
noncomputable def cz (l:bo) (r:dw):bO:=⟨r.Start,r.iL,cZ l l.ab.length,bZ l r.aj r.aj.length,l.dZ,l.e7,(r.aj.length:Int)⟩
theorem GQ {l:bo} (ht:cO l.aN=true) (h:mu l) {i:Nat} (hi:i<l.ab.length):1≤pX l i∧pX l i≤500000000:=by
 have A:=F_ ht h.uT i
 have B:=h.N4 i hi
 have C:=h.head.1
 unfold pX sK
 refine ⟨(Int.le_ediv_iff_mul_le om).2 om,?_⟩
 have:(1000*kp l i+l.gN-1)/l.gN≤1000*kp l i+l.gN-1:=Int.ediv_le_self _ om
 omega
theorem Ia (l:bo) (s:aH):0≤(eT l s).Lo∧(eT l s).Hi≤86400000:=by
 have A:=mB (p:=jP (qK l s) s.Read) (n:=86400001)
 have B:=mB (p:=jU (qK l s) s.Read) (n:=86400001)
 unfold eT qs
 simp only
 omega
theorem lg {l:bo} {r:dw} (ht:cO l.aN=true) (h:mu l) (hr:fh l r):CY (cz l r):=by
 have hh:=h.head
 unfold gE at hh
 refine ⟨?_,by simp [cz,fu,bO.n,cT],hr.time,fun x hx=>?_,fun t A p hp=>?_⟩
 ·show (cZ l l.ab.length).length≤6
  rw [cT]; omega
 ·obtain ⟨i,hi,rfl⟩:=b_.1 hx
  exact GQ ht h (List.mem_range.1 hi)
 ·obtain ⟨b,hb,rfl⟩:=b_.1 A
  obtain ⟨k,hk,s,hs,⟨_,B⟩,rfl⟩:=s8.1 hp
  have C:=Ia l s
  have D:=hr.len
  simp only
  omega
noncomputable def ed (l:bo) (r:dw) (me:Int):Int:=if eU l=0 then (if fh l r then (if me=0 then (if gl (cz l r)=[] then 8 else 0) else me) else 51) else eU l
theorem gH {l:bo} {r:dw} {me:Int} (h: ¬ eU l=0):ed l r me=eU l:=if_neg h
theorem cJ {l:bo} {r:dw} {me:Int} (h:eU l=0) (h2: ¬ fh l r):ed l r me=51:=by unfold ed; rw [if_pos h,if_neg h2]
theorem oH {l:bo} {r:dw} {me:Int} (h:eU l=0) (h2:fh l r) (h3: ¬ me=0):ed l r me=me:=by unfold ed; rw [if_pos h,if_pos h2,if_neg h3]
theorem gh {l:bo} {r:dw} {me:Int} (h:eU l=0) (h2:fh l r) (h3:me=0) (h4:gl (cz l r)=[]):ed l r me=8:=by unfold ed; rw [if_pos h,if_pos h2,if_pos h3,if_pos h4]
theorem lX {l:bo} {r:dw} {me:Int} (h:eU l=0) (h2:fh l r) (h3:me=0) (h4: ¬ gl (cz l r)=[]):ed l r me=0:=by unfold ed; rw [if_pos h,if_pos h2,if_pos h3,if_neg h4]
theorem iu {l:bo} {r:dw} {me:Int} (h:ed l r me=0):eU l=0∧fh l r∧me=0∧ ¬ gl (cz l r)=[]:=by
 unfold ed at h
 split at h
 ·split at h
  ·split at h
   ·split at h
    ·omega
    ·exact ⟨asm,asm,asm,asm⟩
   ·omega
  ·omega
 ·omega
end
section
def m6 (l:List Int):Int:=(l.drop 1).foldl min (l.headD 0)
def oW (l:List Int):Int:=(l.drop 1).foldl max (l.headD 0)
theorem EW {l:List Int} {i:Nat} {x:Int} (h:l[i]? =some x) (hi:1≤i):m6 (l.take (i+1))=min (m6 (l.take i)) x:=by
 have e:l.take (i+1)=l.take i++[x]:=by rw [List.take_add_one,h]; rfl
 have hl:1≤(l.take i).length:=by have:=(aY.1 h).1; rw [List.length_take]; omega
 rw [e]
 cases ht:l.take i with
 |nil=>rw [ht] at hl; simp at hl
 |cons y ys=>simp [m6,List.foldl_append]
theorem G9 {l:List Int} {i:Nat} {x:Int} (h:l[i]? =some x) (hi:1≤i):oW (l.take (i+1))=max (oW (l.take i)) x:=by
 have e:l.take (i+1)=l.take i++[x]:=by rw [List.take_add_one,h]; rfl
 have hl:1≤(l.take i).length:=by have:=(aY.1 h).1; rw [List.length_take]; omega
 rw [e]
 cases ht:l.take i with
 |nil=>rw [ht] at hl; simp at hl
 |cons y ys=>simp [oW,List.foldl_append]
theorem C4 {l:List Int} {x:Int} (h:l[0]? =some x):m6 (l.take 1)=x:=by
 cases l with
 |nil=>simp at h
 |cons y ys=>simp at h; subst h; simp [m6]
theorem DI {l:List Int} {x:Int} (h:l[0]? =some x):oW (l.take 1)=x:=by
 cases l with
 |nil=>simp at h
 |cons y ys=>simp at h; subst h; simp [oW]
theorem yG: ∀ (l:List Int) (a:Int),(l.foldl min a=a∨l.foldl min a∈l)∧l.foldl min a≤a∧ ∀ x∈l,l.foldl min a≤x
 |[],a=>⟨.inl rfl,sm,sm⟩
 |y::l,a=>by
  obtain ⟨A,C,B⟩:=yG l (min a y)
  simp only [List.foldl_cons]
  refine ⟨?_,om,?_⟩
  ·rcases A with A|A
   ·rw [A]
    rcases Int.le_total a y with q|q
    ·left; omega
    ·right; rw [show min a y=y by omega]; simp
   ·right; exact df _ A
  ·intro x hx
   rcases bw.1 hx with rfl|hx
   ·omega
   ·exact B x hx
theorem zb: ∀ (l:List Int) (a:Int),(l.foldl max a=a∨l.foldl max a∈l)∧a≤l.foldl max a∧ ∀ x∈l,x≤l.foldl max a
 |[],a=>⟨.inl rfl,sm,sm⟩
 |y::l,a=>by
  obtain ⟨A,C,B⟩:=zb l (max a y)
  simp only [List.foldl_cons]
  refine ⟨?_,om,?_⟩
  ·rcases A with A|A
   ·rw [A]
    rcases Int.le_total a y with q|q
    ·right; rw [show max a y=y by omega]; simp
    ·left; omega
   ·right; exact df _ A
  ·intro x hx
   rcases bw.1 hx with rfl|hx
   ·omega
   ·exact B x hx
theorem JR {l:List Int} (h:l≠[]):m6 l∈l∧ ∀ x∈l,m6 l≤x:=by
 cases l with
 |nil=>exact absurd rfl h
 |cons y ys=>
  obtain ⟨A,B,C⟩:=yG ys y
  refine ⟨?_,fun x hx=>?_⟩
  ·rcases A with A|A
   ·simp [m6,A]
   ·exact df _ (by simpa [m6] using A)
  ·rcases bw.1 hx with rfl|hx
   ·simpa [m6] using B
   ·simpa [m6] using C x hx
theorem JS {l:List Int} (h:l≠[]):oW l∈l∧ ∀ x∈l,x≤oW l:=by
 cases l with
 |nil=>exact absurd rfl h
 |cons y ys=>
  obtain ⟨A,B,C⟩:=zb ys y
  refine ⟨?_,fun x hx=>?_⟩
  ·rcases A with A|A
   ·simp [oW,A]
   ·exact df _ (by simpa [oW] using A)
  ·rcases bw.1 hx with rfl|hx
   ·simpa [oW] using B
   ·simpa [oW] using C x hx
noncomputable def gk (l:bo) (r:dw):List Int:=if ed l r 0=0 then gl (cz l r) else []
theorem jr {l:bo} {r:dw} (h:ed l r 0=0):gk l r=gl (cz l r):=if_pos h
theorem lU {l:bo} {r:dw} (h: ¬ ed l r 0=0):gk l r=[]:=if_neg h
theorem v_ {l:bo} {r:dw} (h:ed l r 0=0):gk l r≠[]:=by rw [jr h]; exact (iu h).2.2.2
theorem ui {l:bo} {r:dw} (h:ed l r 0=0):1≤(gk l r).length:=List.length_pos_iff.2 (v_ h)
theorem s9 {l:bo} {r:dw}:(gk l r).length≤100:=by
 unfold gk
 split
 ·rename_i h
  obtain ⟨A,B,_⟩:=iu h
  obtain ⟨ht,ho⟩:=ji A
  have:=(lg ht ho B).n
  have C:=pW (w:=cz l r) (k:=(cz l r).n+1)
  unfold gl; omega
 ·simp
noncomputable def eZ (l:bo) (r:dw):Int:=if ed l r 0=0 then (if l.bS<m6 (gk l r) then 2 else if oW (gk l r)≤l.bS then 0 else 1) else 0
noncomputable def iS (l:bo) (b:Int):Int:=if 0≤b∧b≤(l.ab.length:Int)-1 then 0 else 2
theorem Gh {l:bo} {b:Int} (h:0≤b∧b≤(l.ab.length:Int)-1):iS l b=0:=if_pos h
theorem AD {l:bo} {b:Int} (h:iS l b=0):0≤b∧b≤(l.ab.length:Int)-1:=by
 unfold iS at h
 split at h
 ·assumption
 ·omega
noncomputable def lj (l:bo) (r:dw) (b:Nat):aa:=Co (lz (cz l r) b)
noncomputable def db (l:bo) (r:dw) (b:Int):Int:=if ed l r (iS l b)=0 then (if lj l r b.toNat=l1 then 6 else 0) else ed l r (iS l b)
noncomputable def eO (l:bo) (r:dw) (b:Int):aa:=if db l r b=0 then lj l r b.toNat else dC
theorem mw {l:bo} {r:dw} {b:Int} (h: ¬ ed l r (iS l b)=0):db l r b=ed l r (iS l b)∧eO l r b=dC:=by
 have e:db l r b=ed l r (iS l b):=if_neg h
 exact ⟨e,by unfold eO; rw [if_neg (by rw [e]; exact h)]⟩
theorem yQ {l:bo} {r:dw} {b:Nat} (h:ed l r (iS l b)=0) (h2:lj l r b=l1):db l r b=6∧eO l r b=dC:=by
 have e:db l r b=6:=by unfold db; rw [if_pos h,Int.toNat_natCast,if_pos h2]
 exact ⟨e,by unfold eO; rw [if_neg (by rw [e]; omega)]⟩
theorem r_ {l:bo} {r:dw} {b:Nat} (h:ed l r (iS l b)=0) (h2: ¬ lj l r b=l1):db l r b=0∧eO l r b=lj l r b:=by
 have e:db l r b=0:=by unfold db; rw [if_pos h,Int.toNat_natCast,if_neg h2]
 exact ⟨e,by unfold eO; rw [if_pos e,Int.toNat_natCast]⟩
theorem FY {w:bO} (h:CY w) {b:Nat} {q:Int×aa} (hq:q∈lz w b):0≤q.2.Lo∧q.2.Lo≤q.2.Hi∧q.2.Hi≤86400000:=by
 have A:=mN hq
 obtain ⟨o,ho,p,hp,u,hu,e⟩:=gK.1 hq
 obtain ⟨_,_,rfl⟩:=iD.1 e
 have B:=h.opt ho
 simp only [iH] at A ⊢
 omega
theorem tS {l:bo} {r:dw} {b:Int} (h:db l r b=0):0≤(eO l r b).Lo∧(eO l r b).Lo≤(eO l r b).Hi∧(eO l r b).Hi≤86400000:=by
 have ho:ed l r (iS l b)=0:=by
  by_cases e:ed l r (iS l b)=0
  ·exact e
  ·rw [(mw e).1] at h; exact absurd h e
 obtain ⟨B,C,_⟩:=iu ho
 obtain ⟨ht,A⟩:=ji B
 have hw:=lg ht A C
 have hv:eO l r b=lj l r b.toNat:=by unfold eO; rw [if_pos h]
 have hn:lj l r b.toNat≠l1:=fun e=>by unfold db at h; rw [if_pos ho,if_pos e] at h; omega
 have hh:=zN (l:=lz (cz l r) b.toNat) fun q hq=>mN hq
 rw [hv]
 unfold lj at hn ⊢
 rcases hh with ⟨_,e⟩|hh
 ·exact absurd e hn
 ·obtain ⟨x,hx,ex⟩:=hh.lo
  obtain ⟨y,hy,ey⟩:=hh.hi
  have:=FY hw hx
  have:=FY hw hy
  have:=hh.le
  omega
noncomputable def qn (l:bo) (r:dw):aa:=if db l r l.bS=0 then ⟨(eO l r l.bS).Lo-r.Start,(eO l r l.bS).Hi-r.Start⟩ else dC
theorem wF {l:bo} {r:dw} (h:db l r l.bS=0):qn l r=⟨(eO l r l.bS).Lo-r.Start,(eO l r l.bS).Hi-r.Start⟩:=if_pos h
theorem KW {l:bo} {r:dw} (h: ¬ db l r l.bS=0):qn l r=dC:=if_neg h
theorem oP {l:bo} {r:dw} {b:Int} (h:db l r b=0):fh l r:=by
 by_cases e:ed l r (iS l b)=0
 ·exact (iu e).2.1
 ·rw [(mw e).1] at h; exact absurd h e
theorem wb {k:List (Int×aa)} {h:aa} {q:Int×aa} {z:aa} (hh:lv k h) (hq:q.2.Lo≤q.2.Hi) (hz:mA h q.2=z):lv (k++[q]) z:=by subst hz; exact vH hh hq
end
section
set_option maxRecDepth 20000
def Ns:ai:=⟨1,⟨10000,10200⟩,⟨0,100⟩,⟨0,0⟩,0,0⟩
def uW:av:=⟨100,[⟨0,⟨0,2⟩⟩,⟨100000,⟨5,6⟩⟩]⟩
def Mf (o:Int):bM:=⟨⟨0,⟨o,o⟩⟩,0⟩
def mF (f:Int):bo:=⟨[Ns],2000,[uW],[Mf 1000,Mf 4000,Mf 9000],1,f,1⟩
def lx:dw:=⟨10000,20000,[⟨0,10600⟩,⟨0,11000⟩,⟨1,12600⟩]⟩
theorem F8:cO [Ns]=true:=by decide
theorem ua:eP uW:=by
 have hi: ∀ (i:Nat) (x:cv),uW.bj[i]? =some x→i=0∧x=⟨0,⟨0,2⟩⟩∨i=1∧x=⟨100000,⟨5,6⟩⟩:=fun i x h=>by
  match i with
  |0=>left; simp [uW] at h; exact ⟨rfl,h.symm⟩
  |1=>right; simp [uW] at h; exact ⟨rfl,h.symm⟩
  |n+2=>simp [uW] at h
 refine ⟨dc,dc,fun i x hx=>?_,fun i k x o hx hk ho=>?_⟩
 ·rcases hi i x hx with ⟨rfl,rfl⟩|⟨rfl,rfl⟩<;>(unfold eI; decide)
 ·rcases hi i x hx with ⟨rfl,rfl⟩|⟨rfl,rfl⟩
  ·omega
  ·rcases hi k o ho with ⟨rfl,rfl⟩|⟨rfl,rfl⟩
   ·unfold mx; decide
   ·omega
theorem wU {o:Int} (h:0≤o∧o<10000):eE [Ns] ⟨0,⟨o,o⟩⟩:=⟨sm,Ns,rfl,by show o≤o∧0≤o∧o≤10000-1; omega⟩
theorem I9 {f:Int} (hf:0≤f∧f≤3):mu (mF f):=by
 refine ⟨?_,fun c hc=>?_,fun b hb=>?_,fun i hi=>?_⟩
 ·unfold gE; simp [mF]; omega
 ·simp [mF] at hc; subst hc; exact ua
 ·simp [mF] at hb
  rcases hb with rfl|rfl|rfl
  ·exact ⟨wU om,by simp [Mf,mF]⟩
  ·exact ⟨wU om,by simp [Mf,mF]⟩
  ·exact ⟨wU om,by simp [Mf,mF]⟩
 ·have A:i<3:=hi
  have:i=0∨i=1∨i=2:=by omega
  rcases this with rfl|rfl|rfl
  ·show (1:Int)≤kp (mF 0) 0; decide
  ·show (1:Int)≤kp (mF 0) 1; decide
  ·show (1:Int)≤kp (mF 0) 2; decide
def lH:bo:=mF 1
theorem JU:eU lH=0:=uD F8 (I9 om)
theorem xx {r x:Int} (h0:0<x) (h1:x≤86400000) (hy:jP uW r x=true) (hn:jP uW r (x-1)=false):g3 (jP uW r) 86400001=x:=
 vV om om hy fun z hz A=>by
  cases e:jP uW r z with
  |false=>rfl
  |true=>
   unfold jP at e hn
   have:=(mU ua hz (show z≤x-1 by omega) om).2
   have B:=of_decide_eq_true e
   have C:=of_decide_eq_false hn
   omega
theorem xj {r x:Int} (h0:0<x) (h1:x≤86400000) (hy:jU uW r x=true) (hn:jU uW r (x-1)=false):g3 (jU uW r) 86400001=x:=
 vV om om hy fun z hz A=>by
  cases e:jU uW r z with
  |false=>rfl
  |true=>
   unfold jU at e hn
   have:=(mU ua hz (show z≤x-1 by omega) om).1
   have B:=of_decide_eq_true e
   have C:=of_decide_eq_false hn
   omega
theorem NL:qs uW 10600=⟨10596,10602⟩:=by unfold qs; rw [xx (x:=10596) om om dc dc,xj (x:=10603) om om dc dc]; rfl
theorem NI:qs uW 11000=⟨10996,11002⟩:=by unfold qs; rw [xx (x:=10996) om om dc dc,xj (x:=11003) om om dc dc]; rfl
theorem Od:qs uW 12600=⟨12596,12602⟩:=by unfold qs; rw [xx (x:=12596) om om dc dc,xj (x:=12603) om om dc dc]; rfl
def NU (f:Int):bO:=⟨10000,20000,[500,1500,2500],[[(0,⟨10596,10602⟩),(1,⟨10996,11002⟩)],[(2,⟨12596,12602⟩)],[]],1,f,3⟩
theorem M9 (f:Int):eT (mF f) ⟨0,10600⟩=⟨10596,10602⟩:=NL
theorem NW (f:Int):eT (mF f) ⟨0,11000⟩=⟨10996,11002⟩:=NI
theorem Mq (f:Int):eT (mF f) ⟨1,12600⟩=⟨12596,12602⟩:=Od
theorem Fu (f:Int):bZ (mF f) lx.aj 3=[[(0,⟨10596,10602⟩),(1,⟨10996,11002⟩)],[(2,⟨12596,12602⟩)],[]]:=by
 have o: ∀ b:Nat,jO (mF f) lx.aj 3 b=(l6 (mF f) lx.aj b 0).toList++((l6 (mF f) lx.aj b 1).toList++(l6 (mF f) lx.aj b 2).toList):=fun b=>by
  rw [j2,j2,j2]; simp [jO]
 have A: ∀ b:Nat,l6 (mF f) lx.aj b 0=if (0:Int)=(b:Int) then some (0,⟨10596,10602⟩) else none:=fun b=>by
  show (if (0:Int)=(b:Int)∧(eT (mF f) ⟨0,10600⟩).Lo≤(eT (mF f) ⟨0,10600⟩).Hi then some ((0:Int),eT (mF f) ⟨0,10600⟩) else none)=_
  rw [M9]; by_cases h:(0:Int)=(b:Int)
  ·rw [if_pos h,if_pos ⟨h,dc⟩]<;>rfl
  ·rw [if_neg h,if_neg fun q=>h q.1]
 have B: ∀ b:Nat,l6 (mF f) lx.aj b 1=if (0:Int)=(b:Int) then some (1,⟨10996,11002⟩) else none:=fun b=>by
  show (if (0:Int)=(b:Int)∧(eT (mF f) ⟨0,11000⟩).Lo≤(eT (mF f) ⟨0,11000⟩).Hi then some ((1:Int),eT (mF f) ⟨0,11000⟩) else none)=_
  rw [NW]; by_cases h:(0:Int)=(b:Int)
  ·rw [if_pos h,if_pos ⟨h,dc⟩]<;>rfl
  ·rw [if_neg h,if_neg fun q=>h q.1]
 have C: ∀ b:Nat,l6 (mF f) lx.aj b 2=if (1:Int)=(b:Int) then some (2,⟨12596,12602⟩) else none:=fun b=>by
  show (if (1:Int)=(b:Int)∧(eT (mF f) ⟨1,12600⟩).Lo≤(eT (mF f) ⟨1,12600⟩).Hi then some ((2:Int),eT (mF f) ⟨1,12600⟩) else none)=_
  rw [Mq]; by_cases h:(1:Int)=(b:Int)
  ·rw [if_pos h,if_pos ⟨h,dc⟩]<;>rfl
  ·rw [if_neg h,if_neg fun q=>h q.1]
 show [jO (mF f) lx.aj 3 0,jO (mF f) lx.aj 3 1,jO (mF f) lx.aj 3 2]=_
 rw [o,o,o,A,A,A,B,B,B,C,C,C]
 rfl
theorem zj (f:Int):cz (mF f) lx=NU f:=by
 unfold cz NU
 rw [show lx.aj.length=3 from rfl,Fu]
 rfl
theorem JA (f:Int):fh (mF f) lx:=by
 refine ⟨dc,dc,fun i s hs=>?_⟩
 match i with
 |0=>simp [lx] at hs; subst hs; unfold g9 iJ; simp [mF,ku]
 |1=>simp [lx] at hs; subst hs; unfold g9 iJ; simp [mF,ku,lx]
 |2=>simp [lx] at hs; subst hs; unfold g9 iJ; simp [mF,ku,lx]
 |n+3=>simp [lx] at hs
theorem Hw:gl (cz lH lx)=[2,3]:=by rw [show cz lH lx=NU 1 from zj 1]; decide
theorem E3:ed lH lx 0=0:=lX JU (JA 1) rfl (by rw [Hw]; decide)
theorem Hm {b:Nat} (hb:b<3):ed lH lx (iS lH b)=0:=by rw [Gh (by show 0≤(b:Int)∧(b:Int)≤3-1; omega)]; exact E3
theorem IM {b:Nat} {z:aa} (hb:b<3) (hz:Co (lz (NU 1) b)=z) (hn:z≠l1):db lH lx b=0∧eO lH lx b=z:=by
 have e:lj lH lx b=z:=by unfold lj; rw [show cz lH lx=NU 1 from zj 1]; exact hz
 have h:=r_ (Hm hb) (by rw [e]; exact hn)
 exact ⟨h.1,h.2.trans e⟩
theorem uz:db lH lx 1=0∧eO lH lx 1=⟨12596,12602⟩:=IM (b:=1) om dc dc
theorem AK:db lH lx lH.bS=0∧qn lH lx=⟨2596,2602⟩:=by
 refine ⟨uz.1,?_⟩
 rw [wF (l:=lH) (r:=lx) uz.1]
 rw [show eO lH lx lH.bS=⟨12596,12602⟩ from uz.2]
 rfl
theorem ND (f:Int) {a:OA} {c:Nat} (hc:2≤c):eA (mF f) [(a,c)]:=by
 refine ⟨by simp [mF],?_,by simp [mF],U,by simp [mF],fun k m a' hm ha=>?_⟩
 ·intro x hx; simp [mF] at hx; subst hx; simp [Ns]
 ·match k with
  |0=>simp [mF] at hm ha; subst hm; subst ha; simp [uW]; exact hc
  |n+1=>simp at ha
end
section
def mX (l:bo):Prop:=(20<(l.aN.length:Int)∨8<(l.ak.length:Int)∨10<(l.ab.length:Int))∨ ∃ c∈l.ak,10<(c.bj.length:Int)
noncomputable instance (l:bo):Decidable (mX l):=Classical.propDecidable _
/-- what is asked of a line that comes in -/
structure lM (l:bo) (az:List RA):Prop where
 ux:l.aN.length≤9223372036854775807
 side: ∀ x∈l.aN,0≤x.ir∧x.ir≤255
 s_:l.ak.length≤9223372036854775807
 o4:az.length=l.ak.length
 tW:l.ab.length≤9223372036854775807
 Mi: ∀ (k:Nat) m (a:RA),l.ak[k]? =some m→az[k]? =some a→m.bj.length≤a.2∧m.bj.length≤9223372036854775807
def wV (l:bo) (i:Nat):Prop:= ∀ (j:Nat) c,j<i→l.ak[j]? =some c→(c.bj.length:Int)≤10
theorem GI {l:bo} {i:Nat} (h: ¬ (20<(l.aN.length:Int))∧ ¬ (8<(l.ak.length:Int))∧ ¬ (10<(l.ab.length:Int))) (hi:l.ak.length≤i) (hs:wV l i): ¬ mX l:=by
 rintro (A|⟨c,hc,B⟩)
 ·omega
 ·obtain ⟨k,hk⟩:=List.getElem?_of_mem hc
  have:=hs k c (by have:=(aY.1 hk).1; omega) hk
  omega
theorem Fk {l:bo} {i:Nat} {c:av} (hc:l.ak[i]? =some c) (h:10<(c.bj.length:Int)):mX l:= .inr ⟨c,aT hc,h⟩
theorem kE {α:Type} {l:List α} {P:Nat→α→Prop} {i:Nat} {x:α} (h: ∀ (j:Nat) y,j<i→l[j]? =some y→P j y) (hx:l[i]? =some x) (hp:P i x): ∀ (j:Nat) y,j<i+1→l[j]? =some y→P j y:=fun j y hj hy=>by
 by_cases e:j=i
 ·subst e; rw [hx] at hy; cases hy; exact hp
 ·exact h j y om hy
theorem uP {α:Type} {l:List α} {P:Nat→α→Prop} {i:Nat} (hi:l.length≤i) (h: ∀ (j:Nat) y,j<i→l[j]? =some y→P j y): ∀ (j:Nat) y,l[j]? =some y→P j y:=fun j y hy=>h j y (by have:=(aY.1 hy).1; omega) hy
theorem tM {α:Type} {l:List α} {P:α→Prop} {i:Nat} (hi:l.length≤i) (h: ∀ (j:Nat) y,j<i→l[j]? =some y→P y): ∀ y∈l,P y:=fun y hy=>by
 obtain ⟨k,hk⟩:=List.getElem?_of_mem hy
 exact uP (P:=fun _ y=>P y) hi h k y hk
theorem Ex {l:bo} (h: ¬ mX l):(l.aN.length:Int)≤20∧(l.ak.length:Int)≤8∧(l.ab.length:Int)≤10∧ ∀ c∈l.ak,(c.bj.length:Int)≤10:=by
 unfold mX at h
 rw [not_or] at h
 refine ⟨om,om,om,fun c hc=>?_⟩
 have:=h.2
 rcases Int.lt_or_le 10 (c.bj.length:Int) with q|q
 ·exact absurd ⟨c,hc,q⟩ this
 ·exact q
theorem lM.small {l:bo} {az:List RA} (h:lM l az) (hg: ¬ mX l):eA l az:=by
 have A:=Ex hg
 exact ⟨om,h.side,om,h.o4,om,fun k m a hm ha=>⟨(h.Mi k m a hm ha).1,by have:=A.2.2.2 m (aT hm); omega⟩⟩
def BA (c:av) (x:cv) (k:Nat):Prop:= ∀ (j:Nat) o,j<k→c.bj[j]? =some o→mx c x o
def qz (c:av) (m:Nat):Prop:= ∀ (i:Nat) x,i<m→c.bj[i]? =some x→BA c x i
theorem Fy {c:av} {m:Nat} (h1:0≤c.eh∧c.eh≤1000) (h2:1≤c.bj.length∧c.bj.length≤5) (hs: ∀ (i:Nat) x,c.bj[i]? =some x→eI c i x) (hm:c.bj.length≤m) (hp:qz c m):eP c:=
 ⟨h1,h2,hs,fun i k x o hx hk ho=>hp i x (by have:=(aY.1 hx).1; omega) hx k o hk ho⟩
theorem z9 {c:av} {m k:Nat} (h:qz c m) (hk: ∀ y,c.bj[m]? =some y→BA c y k) (e:k=m):qz c (m+1):=by
 subst e
 intro i x hi hx
 by_cases e:i=k
 ·subst e; exact hk x hx
 ·exact h i x om hx
def gu (ts:List ai) (n:Nat):List aa:=(List.range n).map fun k=>dQ ts 0 k
theorem yf {ts:List ai} {n:Nat}:gu ts (n+1)=gu ts n++[dQ ts 0 n]:=by simp [gu,List.range_succ]
theorem mY {ts:List ai} {n:Nat}:(gu ts n).length=n:=by simp [gu]
theorem nP {ts:List ai} {n k:Nat} {x:aa} (h:(gu ts n)[k]? =some x):x=dQ ts 0 k:=by
 unfold gu at h
 rw [eX] at h
 cases hk:(List.range n)[k]? with
 |none=>simp [hk] at h
 |some v=>
  have:=aY.1 hk
  simp at this
  simp [hk] at h
  rw [← h,← this.2]
theorem AQ {ts:List ai} {a b:ck} (h:b.aP<a.aP):i_ ts a b=mV (i_ ts b a):=by
 unfold i_
 rw [if_pos h,if_neg om]
 unfold tQ
 rw [Int.min_comm b.aP a.aP,Int.max_comm b.aP a.aP]
 unfold mV ld
 simp only [aa.mk.injEq]
 omega
theorem oJ {ts:List ai} {a b:ck} (h: ¬ b.aP<a.aP):i_ ts a b=ld (ld (dQ ts a.aP.toNat (b.aP-a.aP).toNat) b.lp) (mV a.lp):=by
 unfold i_ tQ
 rw [if_neg h,Int.min_eq_left om,Int.max_eq_right om]
end
section
def jk (m:List aw) (a:cL):List aq:=rd a.1.1 m.length 7 (List.zipWith aw.cells m a.2)::aX aw.ja m a.2
structure Ky (h:List aw) (a:cL):Prop where
 len:h.length≤1000000
 o4:a.2.length=h.length
 sig: ∀ d∈h,d.c_.aj.length≤1000000
structure eF (r:bX) (az:List RA) (ha:List cL):Prop where
 line:eA r.ar az
 je:r.aU.length≤1000000
 draw:r.bV.length≤12
 iZ:r.aB.length≤1000000
 has:ha.length=r.aB.length
 oQ: ∀ (k:Nat) h (a:cL),r.aB[k]? =some h→ha[k]? =some a→Ky h a
structure Cj (r:bX) (az:List RA) (ha:List cL):Prop where
 line:lM r.ar az
 je:r.aU.length≤9223372036854775807
 draw:r.bV.length≤9223372036854775807
 iZ:r.aB.length≤9223372036854775807
 has:ha.length=r.aB.length
 oQ: ∀ (k:Nat) h (a:cL),r.aB[k]? =some h→ha[k]? =some a→h.length≤9223372036854775807∧a.2.length=h.length∧ ∀ d∈h,d.c_.aj.length≤9223372036854775807
def vE (h:List aw):Prop:=8<(h.length:Int)∨ ∃ d∈h,15<(d.c_.aj.length:Int)
def wZ (r:bX):Prop:=(mX r.ar∨8<(r.aU.length:Int)∨8<(r.bV.length:Int)∨5<(r.aB.length:Int))∨ ∃ h∈r.aB,vE h
noncomputable instance (r:bX):Decidable (wZ r):=Classical.propDecidable _
theorem JM {r:bX} (h: ¬ wZ r): ¬ mX r.ar∧(r.aU.length:Int)≤8∧(r.bV.length:Int)≤8∧(r.aB.length:Int)≤5∧ ∀ h∈r.aB,(h.length:Int)≤8∧ ∀ d∈h,(d.c_.aj.length:Int)≤15:=by
 unfold wZ at h
 obtain ⟨A,B⟩:=not_or.1 h
 obtain ⟨C,E⟩:=not_or.1 A
 refine ⟨C,om,om,om,fun x hx=>?_⟩
 have hn: ¬ vE x:=fun q=>B ⟨x,hx,q⟩
 obtain ⟨F,D⟩:=not_or.1 hn
 refine ⟨om,fun d hd=>?_⟩
 rcases Int.lt_or_le 15 (d.c_.aj.length:Int) with q|q
 ·exact absurd ⟨d,hd,q⟩ D
 ·exact q
theorem Cj.small {r:bX} {az:List RA} {ha:List cL} (h:Cj r az ha) (hg: ¬ wZ r):eF r az ha:=by
 have B:=JM hg
 refine ⟨h.line.small B.1,om,om,om,h.has,fun k x a hx A=>?_⟩
 have C:=B.2.2.2.2 x (aT hx)
 have D:=h.oQ k x a hx A
 exact ⟨om,D.2.1,fun d hd=>by have:=C.2 d hd; omega⟩
def nB (r:dw):Prop:=r.Start=0∧r.iL=0∧(r.aj.length:Int)=0
instance (r:dw):Decidable (nB r):=by unfold nB; infer_instance
def fQ (s:aa):Prop:=1≤s.Lo∧s.Lo≤s.Hi∧s.Hi≤600000
instance (s:aa):Decidable (fQ s):=by unfold fQ; infer_instance
def iO (l:bo) (d:aw):Prop:=if d.Out=true then d.fp=false∧d.Time=dC∧nB d.c_ else if d.fp=true then fQ d.Time∧nB d.c_ else db l d.c_ l.bS=0∧d.Time=dC
noncomputable instance (l:bo) (d:aw):Decidable (iO l d):=Classical.propDecidable _
noncomputable def dA (l:bo) (d:aw):aa:=if d.Out=true∨d.fp=true then d.Time else qn l d.c_
/-- which kind a descent is of -/
def m_ (d:aw):Int:=if d.Out=true then 0 else if d.fp=true then 1 else 2
theorem Jn {w:bO} (h:CY w): ∀ (b:Nat) (p:ax×Int),p∈fwd w b→w.Start≤p.2:=by
 have hl: ∀ b,0≤cd w b:=fun b=>by
  unfold cd
  cases e:w.nj[b]? with
  |none=>simp
  |some x=>have:=h.least x (aT e); simp; omega
 intro b
 induction b with
 |zero=>intro p hp; simp only [fwd,bJ] at hp; subst hp; exact Int.le_refl _
 |succ b ih=>
  intro q hq
  obtain ⟨p,hp,o,ho,e⟩:=eV.1 hq
  unfold jT at e
  split at e
  ·simp only [Option.some.injEq] at e
   subst e
   have:=ih p hp
   have:=hl b
   simp only; omega
  ·cases e
theorem BU {l:bo} {r:dw} {b:Int} (h:db l r b=0):r.Start≤(eO l r b).Lo:=by
 have ho:ed l r (iS l b)=0:=by
  by_cases e:ed l r (iS l b)=0
  ·exact e
  ·rw [(mw e).1] at h; exact absurd h e
 obtain ⟨B,C,_⟩:=iu ho
 obtain ⟨ht,A⟩:=ji B
 have hw:=lg ht A C
 have hv:eO l r b=lj l r b.toNat:=by unfold eO; rw [if_pos h]
 have hn:lj l r b.toNat≠l1:=fun e=>by unfold db at h; rw [if_pos ho,if_pos e] at h; omega
 have hh:=zN (l:=lz (cz l r) b.toNat) fun q hq=>mN hq
 rw [hv]
 unfold lj at hn ⊢
 rcases hh with ⟨_,e⟩|hh
 ·exact absurd e hn
 ·obtain ⟨x,hx,ex⟩:=hh.lo
  obtain ⟨o,ho,p,hp,u,hu,e⟩:=gK.1 hx
  obtain ⟨_,_,rfl⟩:=iD.1 e
  have D:r.Start≤p.2:=Jn hw _ p hp
  have E:0≤cd (cz l r) b.toNat:=by
   unfold cd
   cases e:(cz l r).nj[b.toNat]? with
   |none=>simp
   |some x=>have:=hw.least x (aT e); simp; omega
  simp only [iH] at ex
  omega
theorem Bx {l:bo} {d:aw} (h:iO l d):0≤(dA l d).Lo∧(dA l d).Lo≤(dA l d).Hi∧(dA l d).Hi≤86400000:=by
 unfold iO at h
 unfold dA
 split at h
 ·rename_i q; rw [if_pos (Or.inl q),h.2.1]; simp [dC]
 ·rename_i q
  split at h
  ·rename_i A
   rw [if_pos (Or.inr A)]
   obtain ⟨⟨B,C,D⟩,_⟩:=h
   omega
  ·rename_i A
   rw [if_neg (fun z=>z.elim q A),wF h.1]
   have B:=tS h.1
   have C:=(oP h.1).time
   have D:=BU h.1
   simp only
   omega
theorem IB {l:bo} {d:aw} (h:d.Out=true):dA l d=d.Time:=if_pos (Or.inl h)
theorem wE {l:bo} {d:aw} (h:d.Out=false∧d.fp=true):dA l d=d.Time:=if_pos (Or.inr h.2)
theorem qy {l:bo} {d:aw} (h:d.Out=false∧d.fp=false):dA l d=qn l d.c_:=if_neg (by simp [h])
theorem GR {l:bo} {d:aw} (h:d.Out=true):iO l d=(d.fp=false∧d.Time=dC∧nB d.c_):=if_pos h
theorem tL {l:bo} {d:aw} (h:d.Out=false∧d.fp=true):iO l d=(fQ d.Time∧nB d.c_):=by unfold iO; rw [if_neg (by simp [h]),if_pos h.2]
theorem qx {l:bo} {d:aw} (h:d.Out=false∧d.fp=false):iO l d=(db l d.c_ l.bS=0∧d.Time=dC):=by unfold iO; rw [if_neg (by simp [h]),if_neg (by simp [h])]
structure fm (r:bX):Prop where
 num:1≤(r.aU.length:Int)∧(r.aU.length:Int)≤5
 DU:0≤r.iP∧r.iP≤5
 nh:1≤(r.aB.length:Int)∧(r.aB.length:Int)≤3
 ids: ∀ (i:Nat) x,r.aU[i]? =some x→(0≤x∧x≤9999)∧ ∀ y,0<i→r.aU[i-1]? =some y→y<x
 draw:r.bV.Perm ((List.range r.aU.length).map fun (k:Nat)=>(k:Int))
 oQ: ∀ h∈r.aB,h.length=r.aU.length∧ ∀ d∈h,iO r.ar d
noncomputable instance (r:bX):Decidable (fm r):=Classical.propDecidable _
noncomputable def cG (r:bX):Int:=if eU r.ar=0 then (if fm r then 0 else 60) else eU r.ar
end
section
theorem mo {α β:Type} {f g:α→Option β}: ∀ {l:List α},(∀ x∈l,f x=g x)→l.filterMap f=l.filterMap g
 |[],_=>rfl
 |x::l,h=>by simp only [List.filterMap_cons,h x cq,mo (l:=l) (fun y hy=>h y (df _ hy))]
abbrev gG:=List (Int×aa)
/-- the sum of a sled in some heats, the first ones -/
noncomputable def fF (l:bo) (hs:List (List aw)) (i:Nat):Nat→Option aa
 |0=>some ⟨0,0⟩
 |k+1=>match fF l hs i k,(hs[k]?).bind (·[i]?) with
  |some s,some d=>if d.Out=true then none else some ⟨s.Lo+(dA l d).Lo/10,s.Hi+(dA l d).Hi/10⟩
  |_,_=>none
noncomputable def dD (l:bo) (hs:List (List aw)) (n h i:Nat):gG:=(List.range n).filterMap fun q=>(fF l hs q (if q<i then h+1 else h)).map fun s=>((q:Int),s)
noncomputable def dV (r:bX) (k:Nat):gG:=(List.range r.aU.length).filterMap fun q=>(fF r.ar r.aB q k).map fun s=>((q:Int),s)
noncomputable def ay (r:bX):gG:=dV r r.aB.length
section
variable {l:bo} {hs:List (List aw)} {n h i q:Nat} {s:aa} {d:aw}
theorem yV:dD l hs n h 0=(List.range n).filterMap fun q=>(fF l hs q h).map fun s=>((q:Int),s):=by
 unfold dD
 apply mo
 intro q _
 rw [if_neg (Nat.not_lt_zero _)]
theorem Ih:dD l hs n h n=dD l hs n (h+1) 0:=by
 rw [yV]
 unfold dD
 apply mo
 intro q hq
 rw [if_pos (List.mem_range.1 hq)]
theorem Dl {x:List aw} (hx:hs[h]? =some x) (hd:x[i]? =some d) (ho:d.Out=true):fF l hs i (h+1)=none:=by
 unfold fF
 rw [hx]
 simp only [Option.bind_some,hd]
 cases fF l hs i h with
 |none=>rfl
 |some s=>simp [ho]
theorem z8 (h0:fF l hs i h=none):fF l hs i (h+1)=none:=by unfold fF; rw [h0]
theorem Ay {x:List aw} (hx:hs[h]? =some x) (hd:x[i]? =some d) (ho: ¬ d.Out=true) (hs0:fF l hs i h=some s):fF l hs i (h+1)=some ⟨s.Lo+(dA l d).Lo/10,s.Hi+(dA l d).Hi/10⟩:=by
 unfold fF
 rw [hx,hs0]
 simp only [Option.bind_some,hd,if_neg ho]
end
section
variable {l:bo} {hs:List (List aw)} {n h i q:Nat} {s t:aa}
theorem Mc {K β:Type} [DecidableEq K] {L Y:List (K×β)} {t:K}:(L++Y).lookup t=match L.lookup t with |some v=>some v|none=>Y.lookup t:=by
 induction L with
 |nil=>rfl
 |cons p L ih=>
  obtain ⟨k,u⟩:=p
  by_cases e:t==k
  ·simp [List.lookup,e]
  ·have:(t==k)=false:=by simpa using e
   simp only [List.cons_append,List.lookup,this,ih]
theorem o8 {f:Nat→Option aa}: ∀ (n i:Nat),((List.range n).filterMap fun q=>(f q).map fun s=>((q:Int),s)).lookup (i:Int)=if i<n then f i else none
 |0,i=>by simp
 |n+1,i=>by
  rw [List.range_succ,List.filterMap_append,Mc,o8 n i]
  by_cases c:i<n
  ·rw [if_pos c,if_pos om]
   cases e:f i with
   |some s=>rfl
   |none=>
    simp only
    cases e2:f n with
    |none=>simp [e2]
    |some u=>
     have:((i:Int)==(n:Int))=false:=by simp only [beq_eq_false_iff_ne,ne_eq]; omega
     simp [e2,List.lookup,this]
  ·rw [if_neg c]
   simp only
   by_cases A:i=n
   ·subst A
    rw [if_pos om]
    cases e2:f i with
    |none=>simp [e2]
    |some u=>simp [e2]
   ·rw [if_neg om]
    have:((i:Int)==(n:Int))=false:=by simp only [beq_eq_false_iff_ne,ne_eq]; omega
    cases e2:f n with
    |none=>simp [e2]
    |some u=>simp [e2,List.lookup,this]
theorem te:(dD l hs n h i).lookup (q:Int)=if q<n then fF l hs q (if q<i then h+1 else h) else none:=o8 n q
theorem L6 {f g:Nat→Option aa} {n i:Nat} (hi:i<n) {s:aa} (hf:(f i).isSome=true) (hg:g i=some s) (hfg: ∀ q,q≠i→f q=g q):dN ((List.range n).filterMap fun q=>(f q).map fun s=>((q:Int),s)) (i:Int) s=(List.range n).filterMap fun q=>(g q).map fun s=>((q:Int),s):=by
 unfold dN
 rw [if_pos (by rw [o8,if_pos hi]; exact hf),List.map_filterMap]
 apply mo
 intro q _
 by_cases e:q=i
 ·subst e
  obtain ⟨u,hu⟩:=Option.isSome_iff_exists.1 hf
  rw [hu,hg]; simp
 ·rw [hfg q e]
  cases g q with
  |none=>rfl
  |some u=>
   have: ¬ ((q:Int)=(i:Int)):=by omega
   simp [this]
theorem KB {f g:Nat→Option aa} {n i:Nat} (hg:g i=none) (hfg: ∀ q,q≠i→f q=g q):bY ((List.range n).filterMap fun q=>(f q).map fun s=>((q:Int),s)) (i:Int)=(List.range n).filterMap fun q=>(g q).map fun s=>((q:Int),s):=by
 unfold bY
 rw [List.filter_filterMap]
 apply mo
 intro q _
 by_cases e:q=i
 ·subst e
  rw [hg]
  cases f q with
  |none=>rfl
  |some u=>simp
 ·rw [hfg q e]
  cases g q with
  |none=>rfl
  |some u=>
   have: ¬ ((q:Int)=(i:Int)):=by omega
   simp [this]
theorem Jm (hi:i<n) (h0:(fF l hs i h).isSome=true) (h1:fF l hs i (h+1)=some s):dN (dD l hs n h i) (i:Int) s=dD l hs n h (i+1):=by
 unfold dD
 refine L6 hi (by rw [if_neg (Nat.lt_irrefl i)]; exact h0) (by rw [if_pos (Nat.lt_succ_self i)]; exact h1) fun q hq=>?_
 by_cases c:q<i
 ·rw [if_pos c,if_pos om]
 ·rw [if_neg c,if_neg om]
theorem Bu (h1:fF l hs i (h+1)=none):bY (dD l hs n h i) (i:Int)=dD l hs n h (i+1):=by
 unfold dD
 refine KB (by rw [if_pos (Nat.lt_succ_self i)]; exact h1) fun q hq=>?_
 by_cases c:q<i
 ·rw [if_pos c,if_pos om]
 ·rw [if_neg c,if_neg om]
end
def lF (m:gG) (i:Int):gG:=m.filter fun p=> !decide (p.1=i)
def g8 (m:gG) (i n:Int):Nat:=(lF m i).countP fun p=>decide (p.2.Hi<n)
def j3 (m:gG) (i n:Int):Nat:=(lF m i).countP fun p=>decide (p.2.Lo<n)
def iT (m:gG) (i:Int) (own:aa):List Int:=own.Lo::((lF m i).flatMap fun p=>[p.2.Lo+1,p.2.Hi+1]).filter fun n=>decide (own.Lo≤n∧n≤own.Hi)
def pT (m:gG) (i:Int) (own:aa) (k:Int):Prop:= ∃ n∈iT m i own,(g8 m i n:Int)+1≤k∧k≤(j3 m i n:Int)+1
noncomputable instance (m:gG) (i:Int) (own:aa) (k:Int):Decidable (pT m i own k):=Classical.propDecidable _
noncomputable def dq (m:gG) (i:Int) (own:aa):List Int:=((List.range m.length).map fun (k:Nat)=>(k:Int)+1).filter fun k=>decide (pT m i own k)
section
variable {m:gG} {i:Int} {own:aa}
/-- what a point stands for -/
theorem EF {x:Int} (h1:own.Lo≤x) (h2:x≤own.Hi): ∃ n∈iT m i own,n≤x∧g8 m i n=g8 m i x∧j3 m i n=j3 m i x:=by
 -- the greatest point that is no greater
 have key: ∀ (d:Nat) (x:Int),own.Lo≤x→x≤own.Hi→(x-own.Lo).toNat=d→ ∃ n∈iT m i own,n≤x∧g8 m i n=g8 m i x∧j3 m i n=j3 m i x:=by
  intro d
  induction d with
  |zero=>
   intro x h1 h2 hd
   have:x=own.Lo:=by omega
   exact ⟨own.Lo,cq ..,om,by rw [this],by rw [this]⟩
  |succ d ih=>
   intro x h1 h2 hd
   by_cases c:x∈iT m i own
   ·exact ⟨x,c,Int.le_refl _,U,U⟩
   ·obtain ⟨n,hn,D,B,C⟩:=ih (x-1) om om om
    have A: ∀ p∈lF m i,p.2.Lo+1≠x∧p.2.Hi+1≠x:=fun p hp=>by
     constructor<;>intro e<;>apply c<;>refine df _ (List.mem_filter.2 ⟨List.mem_flatMap.2 ⟨p,hp,by rw [← e]; simp⟩,dB ⟨h1,h2⟩⟩)
    refine ⟨n,hn,om,?_,?_⟩
    ·rw [B]
     unfold g8
     apply List.countP_congr
     intro p hp
     have:=(A p hp).2
     rw [decide_eq_true_eq,decide_eq_true_eq]
     omega
    ·rw [C]
     unfold j3
     apply List.countP_congr
     intro p hp
     have:=(A p hp).1
     rw [decide_eq_true_eq,decide_eq_true_eq]
     omega
 exact key _ x h1 h2 U
theorem EJ {n:Int} (ho:own.Lo≤own.Hi) (h:n∈iT m i own):own.Lo≤n∧n≤own.Hi:=by
 rcases bw.1 h with rfl|h
 ·omega
 ·exact of_decide_eq_true (List.mem_filter.1 h).2
/-- a rank comes about at some sum -/
theorem xY (ho:own.Lo≤own.Hi) {k:Int}:pT m i own k↔ ∃ x,own.Lo≤x∧x≤own.Hi∧(g8 m i x:Int)+1≤k∧k≤(j3 m i x:Int)+1:=by
 constructor
 ·rintro ⟨n,hn,A,B⟩
  have:=EJ ho hn
  exact ⟨n,this.1,this.2,A,B⟩
 ·rintro ⟨x,A,B,E,F⟩
  obtain ⟨n,hn,_,C,D⟩:=EF (m:=m) (i:=i) A B
  exact ⟨n,hn,by rw [C]; exact E,by rw [D]; exact F⟩
theorem Fc (hi:m.lookup i≠none) {x:Int}:j3 m i x+1≤m.length:=by
 unfold j3
 refine Nat.lt_of_le_of_lt List.countP_le_length ?_
 unfold lF
 obtain ⟨v,hv⟩:=Option.ne_none_iff_exists'.1 hi
 have hm: ∃ p∈m,p.1=i:=by
  clear hi
  induction m with
  |nil=>simp at hv
  |cons p m ih=>
   obtain ⟨a,b⟩:=p
   by_cases e:i=a
   ·exact ⟨_,cq ..,e.symm⟩
   ·have:(i==a)=false:=by simpa using e
    simp only [List.lookup,this] at hv
    obtain ⟨p,hp,e⟩:=ih hv
    exact ⟨p,df _ hp,e⟩
 obtain ⟨p,hp,e⟩:=hm
 refine Nat.lt_of_le_of_ne (List.length_filter_le _ _) fun q=>?_
 have:=(List.filter_eq_self (p:=fun p:Int×aa=> !decide (p.1=i))).1 (List.filter_sublist.eq_of_length q) p hp
 simp [e] at this
theorem Ed (hi:m.lookup i≠none) {k:Int}:k∈dq m i own↔pT m i own k:=by
 unfold dq
 rw [List.mem_filter,b_,decide_eq_true_eq]
 constructor
 ·rintro ⟨_,h⟩; exact h
 ·intro h
  refine ⟨?_,h⟩
  obtain ⟨n,_,A,B⟩:=h
  have:=Fc hi (x:=n)
  exact ⟨(k-1).toNat,List.mem_range.2 om,om⟩
end
end
section
def oI (l:List Int):List (List Value):=l.map fun x=>[vI x]
theorem qw {l:List Int}:(oI l).length=l.length:=by simp [oI]
theorem CM {l:List Int} {k:Nat} {x:Int} (h:l[k]? =some x):(oI l)[k]? =some [vI x]:=by simp [oI,h]
theorem Dt {l:List Int} {k:Nat} {x:List Value} (h:(oI l)[k]? =some x): ∃ y,l[k]? =some y∧x=[vI y]:=by
 simp only [oI,eX,Option.map_eq_some_iff] at h
 obtain ⟨y,hy,rfl⟩:=h
 exact ⟨y,hy,U⟩
theorem zW {l:List Int}: ∀ x∈oI l,x.length=1:=fun x hx=>by
 simp only [oI,b_] at hx
 obtain ⟨y,_,rfl⟩:=hx
 rfl
theorem u3 {l:List Int}:l.take (oI l).length=l:=by rw [qw,List.take_of_length_le (Nat.le_refl _)]
theorem kD {l:List Int} {k:Nat} {x:Int} (h:l[k]? =some x):l.take (k+1)=l.take k++[x]:=by
 rw [List.take_add_one,h]; rfl
def cV (l:List Int):List Int:=l.mergeSort fun a b=>decide (a≤b)
theorem fJ {l:List Int}:(cV l).Perm l:=List.mergeSort_perm _ _
theorem lI {l:List Int}:(cV l).Pairwise (· ≤ ·):=by
 have:=List.pairwise_mergeSort (le:=fun (a b:Int)=>decide (a≤b)) (fun a b c A B=>by simp at A B ⊢; omega) (fun a b=>by simp; omega) l
 exact this.imp fun h=>by simpa using h
@[simp] theorem fO {l:List Int}:(cV l).length=l.length:=fJ.length_eq
theorem ou {l m:List Int} (h1:m.Perm l) (h2:m.Pairwise (· ≤ ·)):m=cV l:=pG (h1.trans fJ.symm) h2 lI
end
section
open Go.RowKit
def sC (s:bk):List Value:=[vS s.a s.n s.c]
theorem D6: ∀ s,(sC s).length=1:=fun s=>rfl
theorem KL (l:List bk): ∀ v∈(l.map sC).flatten,v.oneCell'=true:=l3 (fun s=>rfl) l
def Ei (l:List aa) (a:RA):bk:=⟨a.1,l.length,a.2⟩
def DV (l:List aa) (a:RA):List Value:=[vS a.1 l.length a.2]
def HT (l:List aa) (a:RA):List aq:=[rd a.1 l.length 2 (l.map aa.cells)]
def Ej (l:List aa) (a:RA):List aq:=[own a.1 a.2 FQ 2 (l.map aa.cells)]
theorem Cw {ls:List (List aa)} {az:List RA}:(List.zipWith Ei ls az).map sC=List.zipWith DV ls az:=by
 rw [List.map_zipWith]; rfl
theorem qC: ∀ (m:List aa) (a:RA) (w:World),(∀ X∈Ej m a,X.holds w)→ ∀ X∈HT m a,X.holds w:=fun m a w h X hX=>by
 simp only [HT,bJ] at hX
 subst hX
 have:=oS (h _ (bJ.2 rfl))
 simpa using this
theorem zZ {l:List (List aa)} {bz:List RA}:(bB (aX Ej l bz)).wr=true:=by
 show (aX Ej l bz).all (·.wr)=true
 rw [cN]
 intro X hX
 obtain ⟨k,m,a,_,_,h⟩:=iU hX
 simp only [Ej,bJ] at h
 subst h; rfl
theorem lK {ls:List (List aa)} {az:List RA} (h:az.length=ls.length):(List.zipWith DV ls az).length=ls.length:=by simp [h]
noncomputable def g4 (r:bX) (i:Nat):List (List aa):=(r.aB.take i).map fun h=>h.map (dA r.ar)
noncomputable def cU (r:bX):List (List aa):=g4 r r.aB.length
section
variable {r:bX} {i:Nat} {h:List aw} {tz:List RA} {a:RA}
theorem rK (hh:r.aB[i]? =some h):g4 r (i+1)=g4 r i++[h.map (dA r.ar)]:=by unfold g4; rw [List.take_add_one,hh,List.map_append]; rfl
theorem mz (hi:i≤r.aB.length):(g4 r i).length=i:=by unfold g4; rw [List.length_map,List.length_take]; omega
theorem dT:(cU r).length=r.aB.length:=mz (Nat.le_refl _)
theorem zL (hh:r.aB[i]? =some h):(cU r)[i]? =some (h.map (dA r.ar)):=by
 unfold cU g4
 rw [List.take_length,eX,hh]; rfl
theorem vn {m:List aa} (hh:r.aB[i]? =some h) (hm:(cU r)[i]? =some m):m=h.map (dA r.ar):=by
 rw [zL hh] at hm
 exact (Option.some.inj hm).symm
theorem yN (hh:r.aB[i]? =some h) (hl:tz.length=i):List.zipWith Ei (g4 r (i+1)) (tz++[a])=List.zipWith Ei (g4 r i) tz++[Ei (h.map (dA r.ar)) a]:=by
 have hi:=(aY.1 hh).1
 rw [rK hh,List.zipWith_append (by rw [mz om,hl])]
 rfl
theorem Gr (hh:r.aB[i]? =some h) (hl:tz.length=i):aX Ej (g4 r i) tz++[own a.1 a.2 FQ 2 ((h.map (dA r.ar)).map aa.cells)]=aX Ej (g4 r (i+1)) (tz++[a]):=by
 have hi:=(aY.1 hh).1
 rw [rK hh,k6 (by rw [mz om,hl])]
 simp [aX,Ej]
end
theorem vm {lo hi:Int} {l:List Int}:n7 lo hi l=true↔ ∀ x∈l,lo≤x∧x≤hi:=by
 unfold n7
 rw [Bool.not_eq_true',List.any_eq_false]
 constructor
 ·intro h x hx; have:=h x hx; simp only [decide_eq_true_eq] at this; omega
 ·intro h x hx; have:=h x hx; simp only [decide_eq_true_eq]; omega
abbrev Mj (n:Nat):List Int:=(List.range n).map fun (k:Nat)=>(k:Int)
theorem zS (n:Nat):(Mj n).Pairwise (· ≤ ·):=by
 unfold Mj
 rw [List.pairwise_map]
 exact List.pairwise_lt_range.imp fun h=>by omega
theorem sf {l:List Int} {n:Nat} (h:l.Perm (Mj n)):cV l=Mj n:=(ou h.symm (zS n)).symm
theorem Dx {l:List Int} {n:Nat} (hl:l.length=n) (h: ∀ j,j<n→ ∀ x,(cV l)[j]? =some x→x=(j:Int)):l.Perm (Mj n):=by
 have e:cV l=Mj n:=by
  apply List.ext_getElem
  ·simp [hl]
  ·intro j A B
   have C:j<n:=by simpa using B
   have:=h j C _ (fT A)
   simpa using this
 rw [← e]; exact fJ.symm
def pc (r:bX) (i:Nat):Prop:= ∀ j,j<i→(∀ x,(cV r.bV)[j]? =some x→x=(j:Int))∧ ∀ x y,r.aU[j]? =some x→0<j→r.aU[j-1]? =some y→y<x
def Az (r:bX) (h:List aw):Prop:=h.length=r.aU.length∧ ∀ d∈h,iO r.ar d
def kM (r:bX) (i:Nat):Prop:= ∀ (j:Nat) h,j<i→r.aB[j]? =some h→Az r h
def ph (l:bo) (h:List aw) (k:Nat):Prop:= ∀ (j:Nat) d,j<k→h[j]? =some d→iO l d
section
variable {r:bX} {i:Nat}
theorem zX:pc r 0:=fun j hj=>absurd hj (Nat.not_lt_zero _)
theorem uA {x:Int} (h:pc r i) (hd:(cV r.bV)[i]? =some x) (e:x=(i:Int)) (hs: ∀ x y,r.aU[i]? =some x→0<i→r.aU[i-1]? =some y→y<x):pc r (i+1):=fun j hj=>by
 rcases Nat.lt_or_ge j i with q|q
 ·exact h j q
 ·obtain rfl:j=i:=by omega
  exact ⟨fun y hy=>by rw [hd] at hy; cases hy; exact e,hs⟩
theorem Bg:kM r 0:=fun j h hj=>absurd hj (Nat.not_lt_zero _)
theorem Ag {h:List aw} (hh:kM r i) (hx:r.aB[i]? =some h) (ho:Az r h):kM r (i+1):=fun j y hj hy=>by
 rcases Nat.lt_or_ge j i with q|q
 ·exact hh j y q hy
 ·obtain rfl:j=i:=by omega
  rw [hx] at hy; cases hy; exact ho
theorem x_ {l:bo} {h:List aw}:ph l h 0:=fun j d hj=>absurd hj (Nat.not_lt_zero _)
theorem zc {l:bo} {h:List aw} {d:aw} (ht:ph l h i) (hx:h[i]? =some d) (ho:iO l d):ph l h (i+1):=fun j y hj hy=>by
 rcases Nat.lt_or_ge j i with q|q
 ·exact ht j y q hy
 ·obtain rfl:j=i:=by omega
  rw [hx] at hy; cases hy; exact ho
theorem Jl {h:List aw} (hl:h.length=r.aU.length) (ht:ph r.ar h i) (hi:h.length≤i):Az r h:=⟨hl,fun d hd=>by
 obtain ⟨j,hj⟩:=List.getElem?_of_mem hd
 exact ht j d (by have:=(aY.1 hj).1; omega) hj⟩
theorem EK {n:Nat} (hn:n=r.aU.length) (h1:1≤(r.aU.length:Int)∧(r.aU.length:Int)≤5) (h2:r.bV.length=r.aU.length) (h3:0≤r.iP∧r.iP≤5) (h4:1≤(r.aB.length:Int)∧(r.aB.length:Int)≤3) (h5:n7 0 9999 r.aU=true)
 (h6:pc r n) (h7:kM r i) (hi:r.aB.length≤i):fm r:=by
 subst hn
 refine ⟨h1,h3,h4,fun k x hx=>⟨vm.1 h5 x (aT hx),fun y hk hy=>?_⟩,Dx h2 fun j hj=>(h6 j hj).1,fun h hh=>?_⟩
 ·exact (h6 k (aY.1 hx).1).2 x y hx hk hy
 ·obtain ⟨j,hj⟩:=List.getElem?_of_mem hh
  exact h7 j h (by have:=(aY.1 hj).1; omega) hj
theorem fm.Ey (h:fm r):r.bV.length=r.aU.length:=by have:=h.draw.length_eq; simpa using this
theorem fm.ins (h:fm r):n7 0 9999 r.aU=true:=vm.2 fun x hx=>by
 obtain ⟨j,hj⟩:=List.getElem?_of_mem hx
 exact (h.ids j x hj).1
theorem fm.drawn (h:fm r) {x:Int} (hx:(cV r.bV)[i]? =some x):x=(i:Int):=by
 rw [sf h.draw] at hx
 have hi:=(aY.1 hx).1
 simp at hi
 rw [eX,List.getElem?_range hi] at hx
 exact (Option.some.inj hx).symm
theorem fm.w9 (h:fm r):kM r i:=fun j x _ hx=>h.oQ x (aT hx)
theorem Ef (h: ¬ eU r.ar=0):cG r=eU r.ar:=if_neg h
theorem kd (h:eU r.ar=0) (hn: ¬ fm r):cG r=60:=by unfold cG; rw [if_pos h,if_neg hn]
theorem Gx (h:eU r.ar=0) (hn:fm r):cG r=0:=by unfold cG; rw [if_pos h,if_pos hn]
theorem jd (h:cG r=0):eU r.ar=0∧fm r:=by
 unfold cG at h
 split at h
 ·split at h
  ·exact ⟨asm,asm⟩
  ·cases h
 ·exact absurd h asm
end
section
variable {r:bX} {k i n h:Nat} {s:aa} {l:bo} {hs:List (List aw)}
theorem wS: ∀ {k:Nat} {s:aa},kM r k→k≤r.aB.length→fF r.ar r.aB i k=some s→0≤s.Lo∧s.Lo≤s.Hi∧s.Hi≤8640000*(k:Int)
 |0,s,_,_,h=>by
  simp only [fF,Option.some.injEq] at h
  subst h; simp
 |k+1,s,hh,hk,h=>by
  unfold fF at h
  split at h
  ·rename_i u d hu hd
   split at h
   ·cases h
   ·cases h
    have A:=wS (fun j x hj hx=>hh j x om hx) om hu
    obtain ⟨x,hx,hd⟩:=Option.bind_eq_some_iff.1 hd
    have B:=Bx ((hh k x om hx).2 d (aT hd))
    simp only
    push_cast
    omega
  ·cases h
theorem IU:dN (dD l hs i 0 0) (i:Int) ⟨0,0⟩=dD l hs (i+1) 0 0:=by
 have A:(dD l hs i 0 0).lookup (i:Int)=none:=by rw [te,if_neg (Nat.lt_irrefl i)]
 unfold dN
 rw [A]
 simp only [Option.isSome_none,Bool.false_eq_true,if_false]
 unfold dD
 rw [List.range_succ,List.filterMap_append]
 simp [fF]
theorem FO (hi:i<n):(dD l hs n h i).lookup (i:Int)=fF l hs i h:=by rw [te,if_pos hi,if_neg (Nat.lt_irrefl i)]
theorem Fm {α β:Type} {f:α→β} {tr:List β} {ht:List α} {x:β} {d:α} (e:tr=ht.map f) (hx:tr[i]? =some x) (hd:ht[i]? =some d):x=f d:=by
 rw [e,eX,hd] at hx
 exact (Option.some.inj hx).symm
theorem H9:dD r.ar r.aB r.aU.length h 0=dV r h:=yV
end
end
section
def su (key:Int→Int) (l:List Int) (x:Int):List Int:=l.takeWhile (fun y=>decide (key y≤key x))++x::l.dropWhile (fun y=>decide (key y≤key x))
def dK (key:Int→Int) (l:List Int):List Int:=l.foldl (su key) []
def Ao (key:Int→Int) (l:List Int):Prop:=l.Pairwise fun a b=>key a≤key b
section
variable {key:Int→Int} {l A B D:List Int} {x u v:Int} {i j:Nat}
theorem DR:(su key l x).Perm (x::l):=by
 unfold su
 refine List.perm_middle.trans ?_
 rw [List.takeWhile_append_dropWhile]
theorem Kp (hA: ∀ y∈A,key y≤key x) (hB: ∀ y∈B,key x<key y):(A++B).takeWhile (fun y=>decide (key y≤key x))=A∧(A++B).dropWhile (fun y=>decide (key y≤key x))=B:=by
 induction A with
 |nil=>
  cases B with
  |nil=>simp
  |cons b B=>
   have h:=hB b cq
   have:decide (key b≤key x)=false:=cm om
   rw [List.nil_append,List.takeWhile_cons,List.dropWhile_cons,this]
   exact ⟨U,U⟩
 |cons a A ih=>
  have h:=ih fun y hy=>hA y (df _ hy)
  have:decide (key a≤key x)=true:=dB (hA a cq)
  simp only [List.cons_append,List.takeWhile,List.dropWhile,this]
  exact ⟨by rw [h.1],h.2⟩
theorem tq (hA: ∀ y∈A,key y≤key x) (hB: ∀ y∈B,key x<key y):su key (A++B) x=A++x::B:=by
 unfold su
 rw [(Kp hA hB).1,(Kp hA hB).2]
theorem yD (x:Int): ∀ {l:List Int},Ao key l→ ∃ A B,l=A++B∧(∀ y∈A,key y≤key x)∧ ∀ y∈B,key x<key y
 |[],_=>⟨[],[],rfl,(fun y h=>by cases h),fun y h=>by cases h⟩
 |a::l,h=>by
  unfold Ao at h
  rw [List.pairwise_cons] at h
  by_cases c:key a≤key x
  ·obtain ⟨A,B,e,hA,hB⟩:=yD x (l:=l) h.2
   refine ⟨a::A,B,by rw [e]; rfl,fun y hy=>?_,hB⟩
   rcases bw.1 hy with rfl|hy
   ·exact c
   ·exact hA y hy
  ·refine ⟨[],a::l,rfl,fun y hy=>(by cases hy),fun y hy=>?_⟩
   rcases bw.1 hy with rfl|hy
   ·omega
   ·have:=h.1 y hy; omega
theorem JN (h:Ao key l):Ao key (su key l x):=by
 obtain ⟨A,B,rfl,hA,hB⟩:=yD x h
 rw [tq hA hB]
 unfold Ao at h ⊢
 rw [List.pairwise_append] at h ⊢
 refine ⟨h.1,List.pairwise_cons.2 ⟨fun y hy=>by have:=hB y hy; omega,h.2.1⟩,fun y hy z hz=>?_⟩
 rcases bw.1 hz with rfl|hz
 ·exact hA y hy
 ·exact h.2.2 y hy z hz
theorem x4:dK key (l++[x])=su key (dK key l) x:=by unfold dK; rw [List.foldl_append]; rfl
theorem yP (h:l[i]? =some x):dK key (l.take (i+1))=su key (dK key (l.take i)) x:=by rw [kD h,x4]
theorem tn: ∀ {l m:List Int},(l.foldl (su key) m).Perm (m++l)
 |[],m=>by simp
 |x::l,m=>(tn (l:=l) (m:=su key m x)).trans (((DR).append_right l).trans (by
  rw [List.cons_append]
  exact List.perm_middle.symm))
theorem oM:(dK key l).Perm l:=by simpa [dK] using tn (key:=key) (l:=l) (m:=[])
theorem xN: ∀ {l m:List Int},Ao key m→Ao key (l.foldl (su key) m)
 |[],m,h=>h
 |x::l,m,h=>xN (l:=l) (JN h)
theorem ru:Ao key (dK key l):=xN List.Pairwise.nil
theorem jF:(dK key l).length=l.length:=oM.length_eq
def xZ (key:Int→Int) (l:List Int) (i j:Nat) (D:List Int):Prop:= ∃ A B x,l[i]? =some x∧A.length=j∧dK key (l.take i)=A++B∧(∀ y∈B,key x<key y)∧D=A++x::(B++l.drop (i+1))
def qI (key:Int→Int) (l:List Int) (i:Nat) (D:List Int):Prop:=D=dK key (l.take i)++l.drop i
theorem G0 (h:0<l.length):qI key l 1 l:=by
 cases l with
 |nil=>simp at h
 |cons a l=>simp [qI,dK,su]
theorem GG (hi:l.length≤i) (h:qI key l i D):D=dK key l:=by
 subst h; rw [List.take_of_length_le hi,List.drop_of_length_le hi,List.append_nil]
theorem Bj (hi:i<l.length) (h:qI key l i D):xZ key l i i D:=by
 have hx:l[i]? =some l[i]:=fT hi
 refine ⟨dK key (l.take i),[],l[i],hx,by rw [jF,List.length_take]; omega,sm,fun y hy=>(by cases hy),?_⟩
 rw [h,List.nil_append,List.drop_eq_getElem_cons hi]
theorem td: ∀ {A:List Int},0<A.length→ ∃ A' y,A=A'++[y]:=fun {A} h=>⟨A.dropLast,A.getLast (by intro e; subst e; simp at h),(List.dropLast_concat_getLast _).symm⟩
theorem CS (hj:0<j) (h:xZ key l i j D) (hu:D[j]? =some u) (hv:D[j-1]? =some v) (hlt:key u<key v):xZ key l i (j-1) ((D.set j v).set (j-1) u):=by
 obtain ⟨A,B,x,hx,hl,he,hB,rfl⟩:=h
 obtain ⟨A',y,rfl⟩:=td (A:=A) om
 simp only [List.length_append,List.length_cons,List.length_nil] at hl
 subst hl
 have C:(A'++[y]++x::(B++l.drop (i+1)))=A'++y::x::(B++l.drop (i+1)):=by simp
 rw [C] at hu hv ⊢
 rw [List.getElem?_append_right om,show A'.length+(0+1)-A'.length=1 by omega] at hu
 rw [show A'.length+(0+1)-1=A'.length by omega,List.getElem?_append_right (Nat.le_refl _),Nat.sub_self] at hv
 simp at hu hv
 subst hu hv
 refine ⟨A',y::B,x,hx,om,by rw [he]; simp,fun z hz=>?_,?_⟩
 ·rcases bw.1 hz with rfl|hz
  ·exact hlt
  ·exact hB z hz
 ·rw [show A'.length+(0+1)-1=A'.length by omega,List.set_append_right _ _ om,List.set_append_right _ _ (Nat.le_refl _),show A'.length+(0+1)-A'.length=1 by omega,Nat.sub_self]
  simp
theorem wi (h:xZ key l i j D) (hc: ∀ A,A.length=j→(∃ C,D=A++C)→Ao key A→ ∀ x,l[i]? =some x→D[j]? =some x→ ∀ y∈A,key y≤key x):qI key l (i+1) D:=by
 obtain ⟨A,B,x,hx,hl,he,hB,rfl⟩:=h
 unfold qI
 have E:Ao key (A++B):=he▸ru
 rw [yP hx,he,tq (hc A hl ⟨_,rfl⟩ (by unfold Ao at E ⊢; rw [List.pairwise_append] at E; exact E.1) x hx (by rw [List.getElem?_append_right om,← hl]; simp)) hB]
 simp
theorem vu (hj: ¬ 0<j) (h:xZ key l i j D):qI key l (i+1) D:=wi h fun A hl _ _ x _ _ y hy=>by
 have:A=[]:=iz om
 subst this; cases hy
theorem vv (hj:0<j) (h:xZ key l i j D) (hu:D[j]? =some u) (hv:D[j-1]? =some v) (hlt: ¬ key u<key v):qI key l (i+1) D:=wi h fun A hl hC hA x hx hd y hy=>by
 obtain ⟨C,hC⟩:=hC
 obtain ⟨A',z,rfl⟩:=td (A:=A) om
 simp only [List.length_append,List.length_cons,List.length_nil] at hl
 rw [hd] at hu; cases hu
 have e:D[j-1]? =some z:=by
  rw [hC,List.append_assoc,List.getElem?_append_right om,show j-1-A'.length=0 by omega]; simp
 rw [e] at hv; cases hv
 unfold Ao at hA
 rw [List.pairwise_append] at hA
 rcases dM.1 hy with hy|hy
 ·have:=hA.2.2 y hy v sm; omega
 ·rw [bJ] at hy; subst hy; omega
end
end
section
def pz (k:Nat) (l:List Int):List Int:=(l.take k).reverse++l.drop k
def De (l:List Int) (k i:Nat) (D:List Int):Prop:=D.length=l.length∧ ∀ p,p<l.length→D[p]? =l[if p<k∧(p<i∨k≤p+i) then k-1-p else p]?
section
variable {l D:List Int} {k i j:Nat} {u v:Int}
theorem jt:(pz k l).length=l.length:=by unfold pz; rw [List.length_append,List.length_reverse,List.length_take,List.length_drop]; omega
theorem HR:De l k 0 l:=⟨rfl,fun p hp=>by rw [if_neg om]⟩
theorem EH (hk:k≤l.length) (hij:i<j) (hj:j+i+1=k) (h:De l k i D) (hu:D[i]? =some u) (hv:D[j]? =some v):De l k (i+1) ((D.set i v).set j u):=by
 refine ⟨by rw [List.length_set,List.length_set]; exact h.1,fun p hp=>?_⟩
 have hl:=h.1
 have hi:=h.2 i om
 have A:=h.2 j om
 rw [hu,if_neg om] at hi
 rw [hv,if_neg om] at A
 by_cases B:p=j
 ·subst B
  rw [List.getElem?_set_self (by rw [List.length_set]; omega),if_pos om,show k-1-p=i by omega,hi]
 ·rw [List.getElem?_set_ne (fun e=>B e.symm)]
  by_cases C:p=i
  ·subst C
   rw [List.getElem?_set_self om,if_pos om,show k-1-p=j by omega,A]
  ·rw [List.getElem?_set_ne (fun e=>C e.symm),h.2 p hp]
   by_cases c:p<k∧(p<i∨k≤p+i)
   ·rw [if_pos c,if_pos om]
   ·rw [if_neg c,if_neg om]
theorem Ju (hk:k≤l.length) (hi:k≤2*i+1) (h:De l k i D):D=pz k l:=by
 apply List.ext_getElem?
 intro p
 by_cases hp:p<l.length
 ·rw [h.2 p hp]
  unfold pz
  by_cases c:p<k
  ·rw [List.getElem?_append_left (by rw [List.length_reverse,List.length_take]; omega),List.getElem?_reverse (by rw [List.length_take]; omega),List.length_take,Nat.min_eq_left hk,List.getElem?_take]
   rw [if_pos (show k-1-p<k by omega)]
   by_cases A:p<k∧(p<i∨k≤p+i)
   ·rw [if_pos A]
   ·rw [if_neg A,show k-1-p=p by omega]
  ·rw [if_neg om,List.getElem?_append_right (by rw [List.length_reverse,List.length_take]; omega),List.length_reverse,List.length_take,Nat.min_eq_left hk,List.getElem?_drop,show k+(p-k)=p by omega]
 ·rw [List.getElem?_eq_none (by rw [h.1]; omega),List.getElem?_eq_none (by rw [jt]; omega)]
end
end
section
def au (m:gG) (i:Int):aa:=(m.lookup i).getD dC
def q8 (r:bX) (i:Int):Prop:=0≤i∧i≤(r.aU.length:Int)-1
instance (r:bX) (i:Int):Decidable (q8 r i):=by unfold q8; infer_instance
noncomputable def km (r:bX) (i:Int):Int:=if cG r=0 then (if q8 r i then (if (ay r).lookup i=none then 6 else 0) else 2) else cG r
noncomputable def ql (r:bX) (i:Int):aa:=if km r i=0 then au (ay r) i else dC
noncomputable def lk (r:bX) (a b:Int):Int:=if cG r=0 then (if q8 r a∧q8 r b∧a≠b then (if (ay r).lookup a=none∨(ay r).lookup b=none then 6 else 0) else 2) else cG r
def xQ (s t:aa):Int:=if s.Hi<t.Lo then 2 else if s.Lo<t.Hi then 1 else 0
def pB (s t:aa):Int:=if s=t∧s.Lo=s.Hi then 2 else if s.Lo≤t.Hi∧t.Lo≤s.Hi then 1 else 0
noncomputable def qt (r:bX) (a b:Int):Int:=if lk r a b=0 then xQ (au (ay r) a) (au (ay r) b) else 0
noncomputable def ox (r:bX) (a b:Int):Int:=if lk r a b=0 then pB (au (ay r) a) (au (ay r) b) else 0
noncomputable def iA (r:bX) (i:Int):List Int:=if km r i=0 then dq (ay r) i (au (ay r) i) else []
noncomputable def kb (r:bX) (h i:Int):Int:=if cG r=0 then (if (0≤h∧h≤(r.aB.length:Int)-1)∧q8 r i then (if ((r.aB[h.toNat]?).bind (·[i.toNat]?)).any (·.Out)=true then 6 else 0) else 2) else cG r
noncomputable def fy (r:bX) (h i:Int):aa:=if kb r h i=0 then ((((r.aB[h.toNat]?).bind (·[i.toNat]?)).map (dA r.ar)).getD dC) else dC
noncomputable def rn (r:bX) (h:Nat):List Int:=let l:=dK (fun i=>(au (dV r h) i).Hi) (r.bV.filter fun i=>((dV r h).lookup i).isSome); pz (min r.iP.toNat l.length) l
noncomputable def g7 (r:bX) (h:Int):Int:=if cG r=0 then (if 0≤h∧h≤(r.aB.length:Int) then 0 else 2) else cG r
noncomputable def gv (r:bX) (h:Int):List Int:=if g7 r h=0 then (if h=0 then r.bV else rn r h.toNat) else []
section
variable {r:bX} {i a b:Int}
theorem ry {m:gG} {i:Int} (h:(m.lookup i).isSome=true): ¬ m.lookup i=none:=fun e=>by rw [e] at h; cases h
theorem qP {m:gG} {i:Int} (h:(m.lookup i).isSome=false):m.lookup i=none:=by cases e:m.lookup i with |none=>rfl|some v=>rw [e] at h; cases h
theorem vL (h:km r i=0):cG r=0∧q8 r i∧(ay r).lookup i≠none:=by
 unfold km at h
 split at h
 ·split at h
  ·split at h
   ·cases h
   ·exact ⟨asm,asm,asm⟩
  ·cases h
 ·exact absurd h asm
theorem vq (h:lk r a b=0):cG r=0∧(q8 r a∧q8 r b∧a≠b)∧(ay r).lookup a≠none∧(ay r).lookup b≠none:=by
 unfold lk at h
 split at h
 ·split at h
  ·split at h
   ·cases h
   ·rename_i _ _ q
    exact ⟨asm,asm,fun e=>q (.inl e),fun e=>q (.inr e)⟩
  ·cases h
 ·exact absurd h asm
theorem vi {k:Nat} {p:Int×aa} (h:p∈dV r k): ∃ q:Nat,q<r.aU.length∧p.1=(q:Int)∧fF r.ar r.aB q k=some p.2:=by
 unfold dV at h
 obtain ⟨q,hq,e⟩:=List.mem_filterMap.1 h
 obtain ⟨s,hs,rfl⟩:=Option.map_eq_some_iff.1 e
 exact ⟨q,List.mem_range.1 hq,U,hs⟩
theorem Bz {k:Nat} (h:cG r=0) (hk:k≤r.aB.length): ∀ p∈dV r k,0≤p.2.Lo∧p.2.Lo≤p.2.Hi∧p.2.Hi≤30000000:=fun p hp=>by
 obtain ⟨q,_,_,hs⟩:=vi hp
 have A:=wS (jd h).2.w9 hk hs
 have B:=(jd h).2.nh
 omega
theorem m0 (h:cG r=0): ∀ p∈ay r,0≤p.2.Lo∧p.2.Lo≤p.2.Hi∧p.2.Hi≤30000000:=Bz h (Nat.le_refl _)
theorem q6 {k:Nat}:(dV r k).length≤r.aU.length:=by
 unfold dV
 refine Nat.le_trans (List.length_filterMap_le _ _) ?_
 rw [List.length_range]; exact Nat.le_refl _
theorem nz (h:cG r=0):(ay r).length≤5:=by
 have A:=q6 (r:=r) (k:=r.aB.length)
 have B:=(jd h).2.num
 unfold ay; omega
theorem Jd {s t:aa}:(if decide (s.Hi<t.Lo)=true then (2:Int) else if decide (s.Lo<t.Hi)=true then 1 else 0)=xQ s t:=by simp only [decide_eq_true_eq]; rfl
theorem F1 {s t:aa} (h:s=t):(if decide (max s.Lo t.Lo=min s.Hi t.Hi)=true then (2:Int) else if decide (max s.Lo t.Lo≤min s.Hi t.Hi)=true then 1 else 0)=pB s t:=by
 subst h
 simp only [decide_eq_true_eq,pB,Int.max_self,Int.min_self,true_and,and_self]
theorem IL {s t:aa} (hs:s.Lo≤s.Hi) (ht:t.Lo≤t.Hi) (h: ¬ s=t):(if false=true then (2:Int) else if decide (max s.Lo t.Lo≤min s.Hi t.Hi)=true then 1 else 0)=pB s t:=by
 unfold pB
 rw [if_neg dc,if_neg (fun q:s=t∧s.Lo=s.Hi=>h q.1)]
 by_cases c:s.Lo≤t.Hi∧t.Lo≤s.Hi
 ·rw [if_pos c,if_pos (dB om)]
 ·rw [if_neg c,if_neg (by rw [decide_eq_true_eq]; omega)]
theorem HE (h: ¬ cG r=0):km r i=cG r:=if_neg h
theorem GX (h:cG r=0) (hi: ¬ (0≤i∧i≤(r.aU.length:Int)-1)):km r i=2:=by unfold km; rw [if_pos h,if_neg (show ¬ q8 r i from hi)]
theorem DA (h:cG r=0) (hi:0≤i∧i≤(r.aU.length:Int)-1) (hl:((ay r).lookup i).isSome=false):km r i=6:=by unfold km; rw [if_pos h,if_pos (show q8 r i from hi),if_pos (qP hl)]
theorem Jx (h:cG r=0) (hi:0≤i∧i≤(r.aU.length:Int)-1) (hl:((ay r).lookup i).isSome=true):km r i=0:=by unfold km; rw [if_pos h,if_pos (show q8 r i from hi),if_neg (ry hl)]
theorem GA (h: ¬ cG r=0):lk r a b=cG r:=if_neg h
theorem zr (h:cG r=0) (hi: ¬ ((0≤a∧a≤(r.aU.length:Int)-1)∧(0≤b∧b≤(r.aU.length:Int)-1)∧a≠b)):lk r a b=2:=by unfold lk; rw [if_pos h,if_neg (show ¬ (q8 r a∧q8 r b∧a≠b) from hi)]
theorem vD (h:cG r=0) (hi:(0≤a∧a≤(r.aU.length:Int)-1)∧(0≤b∧b≤(r.aU.length:Int)-1)∧a≠b) (hl:((ay r).lookup a).isSome=false∨((ay r).lookup b).isSome=false):lk r a b=6:=by
 unfold lk; rw [if_pos h,if_pos (show q8 r a∧q8 r b∧a≠b from hi),if_pos (hl.imp qP qP)]
theorem JG (h:cG r=0) (hi:(0≤a∧a≤(r.aU.length:Int)-1)∧(0≤b∧b≤(r.aU.length:Int)-1)∧a≠b) (h1:((ay r).lookup a).isSome=true) (h2:((ay r).lookup b).isSome=true):lk r a b=0:=by
 unfold lk; rw [if_pos h,if_pos (show q8 r a∧q8 r b∧a≠b from hi),if_neg (fun q=>q.elim (ry h1) (ry h2))]
end
end
end Go.Proofs.YtlajhejcfcoddaaGreatDoor
