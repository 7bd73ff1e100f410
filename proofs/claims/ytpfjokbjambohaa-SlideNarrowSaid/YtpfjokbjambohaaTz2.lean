/-
 The statement slideNarrow_said, part 2 of 3: Short, Grow, Global, RunA, Tab, Run, Comp, Ret, LoopK, Narw, Mat, MapK, NarM, Plain, Thr, First, Mono, Safe, Alive, Within, Walls, Ends, In, NarS, MapR, Bits, BoolC, W1, W6, W7, W3, W2, W4, W9, W10, W13, W15, W16, W5, W11, W17, W19.
 Conditions: none.
-/
import Derived.Test.YtpfjokbjambohaaTz1
import Derived.Test.YtpfjokbjambohaaProg
import Derived.KernelRfl
namespace Go.Proofs.Ytpfjokbjambohaa
set_option maxRecDepth 100000
set_option maxHeartbeats 4000000
set_option linter.unusedVariables false
section
open Go.RowKit
/-- an operation that hands v to its slot d -/
structure SE (E:bV) (ops:Array Oper) (o:Oper) (D:cA) (L:bj) (C:List ag) (v:Value) (d:Nat):Prop where
 h:SD E ops o D L C v
 o:o.dst=some d
 n:Nat.blt d E.n=true
theorem rS {E:bV} {ops:Array Oper} {Q:bc} {o:Oper} {rest:List Oper} {D:cA} {L:bj} {C:List ag} {v:Value} {d:Nat}
 (h:SE E ops o D L C v d) (k:RJ E ops Q rest D ((d,v)::L) C):RJ E ops Q (o::rest) D L C:=um h.h h.o h.n k
theorem dS {E:bV} {ops:Array Oper} {F:bj→Prop} {o:Oper} {rest:List Oper} {D:cA} {L:bj} {C:List ag} {v:Value} {d:Nat}
 (h:SE E ops o D L C v d) (k:DJ E ops D C F rest ((d,v)::L)):DJ E ops D C F (o::rest) L:=uk h.h h.o h.n k
theorem eS {E:bV} {ops:Array Oper} {D:cA} {C' C1:List ag} {F:bj→Prop} {bs:List Bool} {o:Oper} {l rest:List Oper} {L:bj} {v:Value} {d:Nat}
 (hl:l=o::rest) (h:SE E ops o D L C' v d) (k:gY E ops D C' C1 F bs rest ((d,v)::L)):gY E ops D C' C1 F (false::bs) l L:=t_ h.h hl h.o h.n k
theorem fS {E:bV} {ops:Array Oper} {D:cA} {C' C1:List ag} {F:bj→Prop} {bs:List Bool} {o:Oper} {l rest:List Oper} {L:bj} {v:Value} {d:Nat}
 (hl:l=o::rest) (h:SE E ops o D L C1 v d) (k:gY E ops D C' C1 F bs rest ((d,v)::L)):gY E ops D C' C1 F (true::bs) l L:=uW h.h hl h.o h.n k
def gB (n:Nat) (ops:Array Oper) (L:bj) (d:Nat) (g:Option (Nat×Bool)):Bool:=cS ops L g&&Nat.blt d n
theorem tP {n:Nat} {ops:Array Oper} {L:bj} {d:Nat} {g:Option (Nat×Bool)} (h:gB n ops L d g=true):cS ops L g=true:=by
 unfold gB at h; rw [bg] at h; exact h.1
theorem tJ {n:Nat} {ops:Array Oper} {L:bj} {d:Nat} {g:Option (Nat×Bool)} (h:gB n ops L d g=true):Nat.blt d n=true:=by
 unfold gB at h; rw [bg] at h; exact h.2
def vF (n:Nat) (ops:Array Oper) (L:bj) (d:Nat) (g:Option (Nat×Bool)) (x:Operand):Option Value:=match gB n ops L d g with
 |true=>ev L x
 |false=>none
def bF (n:Nat) (ops:Array Oper) (L:bj) (d:Nat) (g:Option (Nat×Bool)) (x y:Operand):Option (Value×Value):=match gB n ops L d g with
 |true=>match ev L x,ev L y with
  |some u,some v=>some (u,v)
  |_,_=>none
 |false=>none
def uF (n:Nat) (ops:Array Oper) (L:bj) (d:Nat) (g:Option (Nat×Bool)) (xs ys:List Operand):Option (List Value×List Value):=match gB n ops L d g with
 |true=>match evs L xs,evs L ys with
  |some u,some v=>some (u,v)
  |_,_=>none
 |false=>none
def cF (n:Nat) (ops:Array Oper) (L:bj) (d:Nat) (g:Option (Nat×Bool)) (fop:Operand) (xs:List Operand):Option (FuncId×List Value):=match gB n ops L d g with
 |true=>match ev L fop,evs L xs with
  |some (.func (.func f) fi ca),some vs=>some (f,fi.toList++vs++ca.toList)
  |_,_=>none
 |false=>none
theorem dw {n:Nat} {ops:Array Oper} {L:bj} {d:Nat} {g:Option (Nat×Bool)} {x:Operand} {v:Value} (h:vF n ops L d g x=some v):cS ops L g=true∧Nat.blt d n=true∧ev L x=some v:=by
 unfold vF at h
 split at h
 ·rename_i hb; exact ⟨tP hb,tJ hb,h⟩
 ·cases h
theorem jN {n:Nat} {ops:Array Oper} {L:bj} {d:Nat} {g:Option (Nat×Bool)} {x y:Operand} {u v:Value} (h:bF n ops L d g x y=some (u,v)):cS ops L g=true∧Nat.blt d n=true∧ev L x=some u∧ev L y=some v:=by
 unfold bF at h
 split at h
 ·rename_i hb
  split at h
  ·rename_i hx hy; cases h; exact ⟨tP hb,tJ hb,hx,hy⟩
  ·cases h
 ·cases h
theorem tF {n:Nat} {ops:Array Oper} {L:bj} {d:Nat} {g:Option (Nat×Bool)} {x y:List Operand} {u v:List Value} (h:uF n ops L d g x y=some (u,v)):cS ops L g=true∧Nat.blt d n=true∧evs L x=some u∧evs L y=some v:=by
 unfold uF at h
 split at h
 ·rename_i hb
  split at h
  ·rename_i hx hy; cases h; exact ⟨tP hb,tJ hb,hx,hy⟩
  ·cases h
 ·cases h
section
variable {E:bV} {ops:Array Oper} {Q:bc} {rest:List Oper} {D:List Deferred} {L:List (Nat×Value)} {C:List ag}
variable {d:Nat} {ty:TypeId} {ps:String} {af:Array Edge} {g:Option (Nat×Bool)}
theorem SX {o:Oper} {v:Value} (h:SD E ops o D L C v) (ho:o.dst=some d) (hd:Nat.blt d E.n=true):SE E ops o D L C v d:=⟨h,ho,hd⟩
theorem MV {x:Operand} {v:Value} (h:vF E.n ops L d g x=some v):SE E ops ⟨some d,.move x,ty,ps,af,g⟩ D L C v d:=by
 obtain ⟨A,B,F⟩:=dw h; exact ⟨ni A F,rfl,B⟩
theorem AG {x:Operand} {v:Value} (h:vF E.n ops L d g x=some v):SE E ops ⟨some d,.assign x,ty,ps,af,g⟩ D L C v d:=by
 obtain ⟨A,B,F⟩:=dw h; exact ⟨kG A F,rfl,B⟩
theorem OX {op:Op} (h:(mf ops L g&&Nat.blt d E.n)=true):SE E ops ⟨some d,op,ty,ps,af,g⟩ D L C undef d:=by
 rw [bg] at h; exact ⟨pA h.1,rfl,h.2⟩
theorem NG {xt:TypeId} {x:Operand} {n:Int} (h:vF E.n ops L d g x=some (.int .i64 n)) (hb:kJ (-n)):SE E ops ⟨some d,.unOp .neg xt x,ty,ps,af,g⟩ D L C (.int .i64 (-n)) d:=by
 obtain ⟨A,B,F⟩:=dw h; exact ⟨sn A F hb,rfl,B⟩
theorem BI {op:BinOp} {xt yt:TypeId} {x y:Operand} {u v r:Value} (h:bF E.n ops L d g x y=some (u,v)) (hb:cP E.P op xt x y u v r):SE E ops ⟨some d,.binOp op xt x y yt,ty,ps,af,g⟩ D L C r d:=by
 obtain ⟨A,B,F,G⟩:=jN h; exact ⟨bu A F G hb,rfl,B⟩
theorem MN {x y:Operand} {ts:Array TypeId} {a b:Int} {k:IntKind} (h:bF E.n ops L d g x y=some (.int k a,.int k b)):
 SE E ops ⟨some d,.call {callee:= .builtin .min,args:= #[x,y],argTypes:=ts},ty,ps,af,g⟩ D L C (.int k (min a b)) d:=by
 obtain ⟨A,B,F,G⟩:=jN h; exact ⟨tg A F G,rfl,B⟩
theorem MX {x y:Operand} {ts:Array TypeId} {a b:Int} {k:IntKind} (h:bF E.n ops L d g x y=some (.int k a,.int k b)):
 SE E ops ⟨some d,.call {callee:= .builtin .max,args:= #[x,y],argTypes:=ts},ty,ps,af,g⟩ D L C (.int k (max a b)) d:=by
 obtain ⟨A,B,F,G⟩:=jN h; exact ⟨tw A F G,rfl,B⟩
theorem FA (o':Nat) {x:Operand} {b o s f k:Nat} (h:vF E.n ops L d g x=some (.pointer (some ⟨b,o,none⟩))) (hf:jl E.P s f=some k) (ho:o+k=o'):
 SE E ops ⟨some d,.fieldAddr s x f,ty,ps,af,g⟩ D L C (.pointer (some ⟨b,o',none⟩)) d:=by
 obtain ⟨A,B,F⟩:=dw h; exact ⟨sb A F hf ho,rfl,B⟩
theorem mm (k':Nat) {x:Operand} {A:OA} {n sz:Nat} {es:List (List Value)} {k0 s f k:Nat} (h:vF E.n ops L d g x=some (.pointer (de A k0))) (hR:ka C (rd A n sz es).holds) (hn:0<n*sz)
 (hf:jl E.P s f=some k) (ho:k0+k=k'):SE E ops ⟨some d,.fieldAddr s x f,ty,ps,af,g⟩ D L C (.pointer (de A k')) d:=by
 obtain ⟨B,F,G⟩:=dw h; exact ⟨o0 B G hR hn hf ho,rfl,F⟩
theorem wg (k':Nat) {x:Operand} {A:OA} {ad:Addr} {k0 s f k:Nat} (h:vF E.n ops L d g x=some (.pointer (de A k0))) (hA:A=some ad)
 (hf:jl E.P s f=some k) (ho:k0+k=k'):SE E ops ⟨some d,.fieldAddr s x f,ty,ps,af,g⟩ D L C (.pointer (de A k')) d:=by
 obtain ⟨B,F,G⟩:=dw h; exact ⟨o1 B G hA hf ho,rfl,F⟩
theorem IA (k:Nat) {x ix:Operand} {A:OA} {n c sz e t:Nat} {es:List (List Value)} {j:Int} (h:bF E.n ops L d g x ix=some (.slice A n c,.int .i64 j)) (hR:ka C (rd A n sz es).holds)
 (ht:tE E.P t=some (e,sz)) (hz:0<sz) (hj:j=(k:Int)) (hk:k<n):SE E ops ⟨some d,.indexAddr t x ix,ty,ps,af,g⟩ D L C (.pointer (de A (k*sz))) d:=by
 obtain ⟨B,F,G,H⟩:=jN h; exact ⟨uV B G H hR ht hz hj hk,rfl,F⟩
/-- the whole of a block, a part of it, one cell -/
theorem LW (i:Nat) {x:Operand} {b t tt n:Nat} {cs:List Value} (h:vF E.n ops L d g x=some (.pointer (some ⟨b,0,none⟩))) (ht:tK E.P t=some (true,n)) (hC:C[i]? =some (ct b tt cs)) (hn:cs.length=n):
 SE E ops ⟨some d,.load t x,ty,ps,af,g⟩ D L C (.agg cs.toArray) d:=by
 obtain ⟨A,B,F⟩:=dw h; exact ⟨jx A F ht (j4 i hC sm) hn,rfl,B⟩
theorem LP (vs:List Value) (i:Nat) {x:Operand} {b o t tt n:Nat} {cs:List Value} (h:vF E.n ops L d g x=some (.pointer (some ⟨b,o,none⟩))) (ht:tK E.P t=some (true,n)) (hC:C[i]? =some (ct b tt cs)) (hv:(cs.drop o).take vs.length=vs) (hn:vs.length=n):
 SE E ops ⟨some d,.load t x,ty,ps,af,g⟩ D L C (.agg vs.toArray) d:=by
 obtain ⟨A,B,F⟩:=dw h; exact ⟨jx A F ht (j4 i hC hv) hn,rfl,B⟩
theorem wC (vs:List Value) (i:Nat) {x:Operand} {b o t tt n:Nat} {cs:List Value} (h:vF E.n ops L d g x=some (.pointer (some ⟨b,o,none⟩))) (ht:tK E.P t=some (true,n)) (hC:C[i]? =some (ct b tt cs).ro) (hv:(cs.drop o).take vs.length=vs) (hn:vs.length=n):
 SE E ops ⟨some d,.load t x,ty,ps,af,g⟩ D L C (.agg vs.toArray) d:=by
 obtain ⟨A,B,F⟩:=dw h; exact ⟨jx A F ht (nB i hC hv) hn,rfl,B⟩
theorem L1 (v:Value) (i:Nat) {x:Operand} {b o t tt n:Nat} {cs:List Value} (h:vF E.n ops L d g x=some (.pointer (some ⟨b,o,none⟩))) (ht:tK E.P t=some (false,n)) (hC:C[i]? =some (ct b tt cs)) (hv:(cs.drop o).take 1=[v]):
 SE E ops ⟨some d,.load t x,ty,ps,af,g⟩ D L C v d:=by
 obtain ⟨A,B,F⟩:=dw h; exact ⟨kU A F ht (j4 i hC hv),rfl,B⟩
theorem wm (i:Nat) {x:Operand} {b t tt n:Nat} {v:Value} (h:vF E.n ops L d g x=some (.pointer (some ⟨b,0,none⟩))) (ht:tK E.P t=some (false,n)) (hC:C[i]? =some (ct b tt [v])):
 SE E ops ⟨some d,.load t x,ty,ps,af,g⟩ D L C v d:=by
 obtain ⟨A,B,F⟩:=dw h; exact ⟨kU A F ht (j4 i hC rfl),rfl,B⟩
/-- what is read of a row -/
theorem fX (k o:Nat) (v:Value) {x:Operand} {A:OA} {t m n sz:Nat} {es:List (List Value)} {e:List Value} (h:vF E.n ops L d g x=some (.pointer (de A m))) {nn:Nat} (ht:tK E.P t=some (false,nn)) (hR:ka C (rd A n sz es).holds) (he:es[k]? =some e) (hm:m=k*sz+o) (hz:0<sz) (hv:(e.drop o).take 1=[v]):
 SE E ops ⟨some d,.load t x,ty,ps,af,g⟩ D L C v d:=by
 obtain ⟨B,F,G⟩:=dw h; exact ⟨kU B G ht (rW hR he hm hz hv),rfl,F⟩
theorem nw (k o:Nat) (vs:List Value) {x:Operand} {A:OA} {t m n sz:Nat} {es:List (List Value)} {e:List Value} (h:vF E.n ops L d g x=some (.pointer (de A m))) {nn:Nat} (ht:tK E.P t=some (true,nn)) (hR:ka C (rd A n sz es).holds) (he:es[k]? =some e) (hm:m=k*sz+o) (hz:0<sz) (hv:(e.drop o).take vs.length=vs) (hn:vs.length=nn):
 SE E ops ⟨some d,.load t x,ty,ps,af,g⟩ D L C (.agg vs.toArray) d:=by
 obtain ⟨B,F,G⟩:=dw h; exact ⟨jx B G ht (rW hR he hm hz hv) hn,rfl,F⟩
theorem CL {fop:Operand} {xs:Array Operand} {ts:Array TypeId} {f:FuncId} {args:List Value} {Cp:List ag} {v:Value} (c:cn E.P f args Cp v) (hC:dv C Cp) (h:cF E.n ops L d g fop xs.toList=some (f,args)):
 SE E ops ⟨some d,.call {callee:= .value fop,args:=xs,argTypes:=ts},ty,ps,af,g⟩ D L C v d:=by
 unfold cF at h
 split at h
 ·rename_i hb
  split at h
  ·rename_i hf hx; cases h; exact ⟨nt (tP hb) hf hx rfl c hC,rfl,tJ hb⟩
  ·cases h
 ·cases h
theorem FU {fn:Fn} {xs ys:Array Operand} {us vs:List Value} (h:uF E.n ops L d g xs.toList ys.toList=some (us,vs)):SE E ops ⟨some d,.makeFunc fn xs ys,ty,ps,af,g⟩ D L C (.func fn us.toArray vs.toArray) d:=by
 obtain ⟨A,B,F,G⟩:=tF h; exact ⟨qE A F G,rfl,B⟩
theorem cX {fop:Operand} {xs:Array Operand} {ts:Array TypeId} {f:FuncId} {args:List Value} {Cp:List ag} {α:Type} {V:α→Value} {p:α→Prop} {N:α→List ag} (c:kI E.P f args Cp V p N) (hC:dv C Cp)
 (h:cF E.n ops L d g fop xs.toList=some (f,args)) (k: ∀ x,p x→RJ E ops Q rest D ((d,V x)::L) (N x++C)):
 RJ E ops Q (⟨some d,.call {callee:= .value fop,args:=xs,argTypes:=ts},ty,ps,af,g⟩::rest) D L C:=by
 unfold cF at h
 split at h
 ·rename_i hb
  split at h
  ·rename_i hf hx; cases h; exact sr (tP hb) hf hx rfl c hC (tJ hb) k
  ·cases h
 ·cases h
/-- a box of a struct, of one cell -/
theorem dp {t:TypeId} {x:Operand} {cs:List Value} (h:vF E.n ops L d g x=some (.agg cs.toArray)) (k: ∀ b,RJ E ops Q rest D ((d,.pointer (some ⟨b,0,none⟩))::L) (ct b t cs::C)):
 RJ E ops Q (⟨some d,.box t x,ty,ps,af,g⟩::rest) D L C:=by
 obtain ⟨A,B,F⟩:=dw h; exact sa A F rfl B k
theorem tM {t:TypeId} {x:Operand} {v:Value} (h:vF E.n ops L d g x=some v) (hv:v.cells.toList=[v]) (k: ∀ b,RJ E ops Q rest D ((d,.pointer (some ⟨b,0,none⟩))::L) (ct b t [v]::C)):
 RJ E ops Q (⟨some d,.box t x,ty,ps,af,g⟩::rest) D L C:=by
 obtain ⟨A,B,F⟩:=dw h; exact sa A F hv B k
theorem AL {t:TypeId} {cs:List Value} (h:gB E.n ops L d g=true) (hz:tZ E.P t=some cs) (k: ∀ b,RJ E ops Q rest D ((d,.pointer (some ⟨b,0,none⟩))::L) (ct b t cs::C)):
 RJ E ops Q (⟨some d,.alloc t,ty,ps,af,g⟩::rest) D L C:=m8 (tP h) hz (tJ h) k
/-- a store into the block at the place i of the state -/
def sF (ops:Array Oper) (L:bj) (g:Option (Nat×Bool)) (x y:Operand):Option (Value×Value):=match cS ops L g with
 |true=>match ev L x,ev L y with
  |some u,some v=>some (u,v)
  |_,_=>none
 |false=>none
theorem mH {ops:Array Oper} {L:bj} {g:Option (Nat×Bool)} {x y:Operand} {u v:Value} (h:sF ops L g x y=some (u,v)):cS ops L g=true∧ev L x=some u∧ev L y=some v:=by
 unfold sF at h
 split at h
 ·rename_i hb
  split at h
  ·rename_i hx hy; cases h; exact ⟨hb,hx,hy⟩
  ·cases h
 ·cases h
theorem wu {t n b o tt:Nat} {x y:Operand} {v:Value} {cs cs':List Value} {C':List ag} (i:Nat) (h:sF ops L g x y=some (.pointer (some ⟨b,o,none⟩),v)) (ht:(tK E.P t).map (·.2)=some n) (hC:C[i]? =some (ct b tt cs))
 (hk:(v.cells.toList.length==n&&v.cells.toList.all Value.oneCell'&&Nat.ble (o+n) cs.length)=true) (hcs:cs.take o++v.cells.toList++cs.drop (o+n)=cs') (hC':C.set i (ct b tt cs')=C') (k:RJ E ops Q rest D L C'):
 RJ E ops Q (⟨none,.store t x y,ty,ps,af,g⟩::rest) D L C:=by
 obtain ⟨A,B,F⟩:=mH h
 simp only [bg,beq_iff_eq] at hk
 exact kP i A B F ht U hk.1.1 hk.1.2 hC hk.2 hcs hC' k
/-- a store of a whole block, by a struct, by one cell -/
theorem uQ {t n b tt:Nat} {x y:Operand} {cs cs':List Value} {C':List ag} (i:Nat) (h:sF ops L g x y=some (.pointer (some ⟨b,0,none⟩),.agg cs'.toArray)) (ht:(tK E.P t).map (·.2)=some n) (hC:C[i]? =some (ct b tt cs))
 (hk:(Nat.beq cs'.length n&&cs'.all Value.oneCell'&&Nat.beq n cs.length)=true) (hC':C.set i (ct b tt cs')=C') (k:RJ E ops Q rest D L C'):
 RJ E ops Q (⟨none,.store t x y,ty,ps,af,g⟩::rest) D L C:=by
 obtain ⟨AB,J,K⟩:=mH h
 simp only [bg] at hk
 obtain ⟨⟨A,B⟩,F⟩:=hk
 have H:=Nat.eq_of_beq_eq_true A
 have G:=Nat.eq_of_beq_eq_true F
 exact kP i AB J K ht U H B hC (by rw [Nat.zero_add,G]; exact Nat.ble_self_eq_true _) (by rw [Nat.zero_add,G,List.take_zero,List.drop_length]; show []++cs'++[]=cs'; simp) hC' k
theorem v7 {t n b tt:Nat} {x y:Operand} {v u:Value} {C':List ag} (i:Nat) (h:sF ops L g x y=some (.pointer (some ⟨b,0,none⟩),v)) (ht:(tK E.P t).map (·.2)=some n) (hC:C[i]? =some (ct b tt [u]))
 (hv:v.cells.toList=[v]) (hk:(Nat.beq n 1&&v.oneCell')=true) (hC':C.set i (ct b tt [v])=C') (k:RJ E ops Q rest D L C'):
 RJ E ops Q (⟨none,.store t x y,ty,ps,af,g⟩::rest) D L C:=by
 obtain ⟨G,H,AB⟩:=mH h
 rw [bg] at hk
 obtain ⟨A,B⟩:=hk
 have F:=Nat.eq_of_beq_eq_true A
 subst F
 exact kP i G H AB ht hv U (by simp [B]) hC U U hC' k
theorem eg {t n b tt:Nat} {x y:Operand} {cs cs':List Value} (h:sF ops L g x y=some (.pointer (some ⟨b,0,none⟩),.agg cs'.toArray)) (ht:(tK E.P t).map (·.2)=some n) (hk:(Nat.beq cs'.length n&&cs'.all Value.oneCell'&&Nat.beq n cs.length)=true) (k:RJ E ops Q rest D L (ct b tt cs'::C)):RJ E ops Q (⟨none,.store t x y,ty,ps,af,g⟩::rest) D L (ct b tt cs::C):=uQ 0 h ht rfl hk rfl k
theorem wh {t n b tt:Nat} {x y:Operand} {v u:Value} (h:sF ops L g x y=some (.pointer (some ⟨b,0,none⟩),v)) (ht:(tK E.P t).map (·.2)=some n) (hv:v.cells.toList=[v]) (hk:(Nat.beq n 1&&v.oneCell')=true) (k:RJ E ops Q rest D L (ct b tt [v]::C)):RJ E ops Q (⟨none,.store t x y,ty,ps,af,g⟩::rest) D L (ct b tt [u]::C):=v7 0 h ht rfl hv hk rfl k
theorem wB (cs':List Value) {t n b o tt:Nat} {x y:Operand} {v:Value} {cs:List Value} (h:sF ops L g x y=some (.pointer (some ⟨b,o,none⟩),v)) (ht:(tK E.P t).map (·.2)=some n) (hk:(v.cells.toList.length==n&&v.cells.toList.all Value.oneCell'&&Nat.ble (o+n) cs.length)=true) (hcs:cs.take o++v.cells.toList++cs.drop (o+n)=cs') (k:RJ E ops Q rest D L (ct b tt cs'::C)):RJ E ops Q (⟨none,.store t x y,ty,ps,af,g⟩::rest) D L (ct b tt cs::C):=wu 0 h ht rfl hk hcs rfl k
theorem kb {t n b tt:Nat} {x y:Operand} {cs cs':List Value} {A0:ag} (h:sF ops L g x y=some (.pointer (some ⟨b,0,none⟩),.agg cs'.toArray)) (ht:(tK E.P t).map (·.2)=some n) (hk:(Nat.beq cs'.length n&&cs'.all Value.oneCell'&&Nat.beq n cs.length)=true) (k:RJ E ops Q rest D L (A0::ct b tt cs'::C)):RJ E ops Q (⟨none,.store t x y,ty,ps,af,g⟩::rest) D L (A0::ct b tt cs::C):=uQ 1 h ht rfl hk rfl k
theorem vc {t n b tt:Nat} {x y:Operand} {cs cs':List Value} {A0 A1:ag} (h:sF ops L g x y=some (.pointer (some ⟨b,0,none⟩),.agg cs'.toArray)) (ht:(tK E.P t).map (·.2)=some n) (hk:(Nat.beq cs'.length n&&cs'.all Value.oneCell'&&Nat.beq n cs.length)=true) (k:RJ E ops Q rest D L (A0::A1::ct b tt cs'::C)):RJ E ops Q (⟨none,.store t x y,ty,ps,af,g⟩::rest) D L (A0::A1::ct b tt cs::C):=uQ 2 h ht rfl hk rfl k
theorem vb {t n b tt:Nat} {x y:Operand} {cs cs':List Value} {A0 A1 A2:ag} (h:sF ops L g x y=some (.pointer (some ⟨b,0,none⟩),.agg cs'.toArray)) (ht:(tK E.P t).map (·.2)=some n) (hk:(Nat.beq cs'.length n&&cs'.all Value.oneCell'&&Nat.beq n cs.length)=true) (k:RJ E ops Q rest D L (A0::A1::A2::ct b tt cs'::C)):RJ E ops Q (⟨none,.store t x y,ty,ps,af,g⟩::rest) D L (A0::A1::A2::ct b tt cs::C):=uQ 3 h ht rfl hk rfl k
theorem wA {t n b tt:Nat} {x y:Operand} {v u:Value} {A0 A1 A2:ag} (h:sF ops L g x y=some (.pointer (some ⟨b,0,none⟩),v)) (ht:(tK E.P t).map (·.2)=some n) (hv:v.cells.toList=[v]) (hk:(Nat.beq n 1&&v.oneCell')=true) (k:RJ E ops Q rest D L (A0::A1::A2::ct b tt [v]::C)):RJ E ops Q (⟨none,.store t x y,ty,ps,af,g⟩::rest) D L (A0::A1::A2::ct b tt [u]::C):=v7 3 h ht rfl hv hk rfl k
theorem wc {t n b tt:Nat} {x y:Operand} {cs cs':List Value} {A0 A1 A2 A3:ag} (h:sF ops L g x y=some (.pointer (some ⟨b,0,none⟩),.agg cs'.toArray)) (ht:(tK E.P t).map (·.2)=some n) (hk:(Nat.beq cs'.length n&&cs'.all Value.oneCell'&&Nat.beq n cs.length)=true) (k:RJ E ops Q rest D L (A0::A1::A2::A3::ct b tt cs'::C)):RJ E ops Q (⟨none,.store t x y,ty,ps,af,g⟩::rest) D L (A0::A1::A2::A3::ct b tt cs::C):=uQ 4 h ht rfl hk rfl k
theorem wq {t n b tt:Nat} {x y:Operand} {v u:Value} {A0 A1 A2 A3 A4:ag} (h:sF ops L g x y=some (.pointer (some ⟨b,0,none⟩),v)) (ht:(tK E.P t).map (·.2)=some n) (hv:v.cells.toList=[v]) (hk:(Nat.beq n 1&&v.oneCell')=true) (k:RJ E ops Q rest D L (A0::A1::A2::A3::A4::ct b tt [v]::C)):RJ E ops Q (⟨none,.store t x y,ty,ps,af,g⟩::rest) D L (A0::A1::A2::A3::A4::ct b tt [u]::C):=v7 5 h ht rfl hv hk rfl k
end
section
variable {E:bV} {y:Code} {Q:bc} {D:List Deferred} {L:List (Nat×Value)} {C:List ag}
theorem WS {id:Nat} {ops:Array Oper} (h: ∀ K:Act→World→Prop,(∀ D L C,WJ E y Q D L C→KJ E K D L C)→RJ E ops (Exit.then K Q) ops.toList D L C):WJ E (.seq (.region id ops false) y) Q D L C:=aj fun K hK=>aq (h K hK)
theorem RK {ops:Array Oper} {K:Act→World→Prop} {Q':bc} (hK: ∀ D L C,WJ E y Q D L C→KJ E K D L C) (k:WJ E y Q D L C):RJ E ops (Exit.then K Q') [] D L C:=aD (aR (hK _ _ _ k))
theorem KK {K:Act→World→Prop} {Q':bc} (hK: ∀ D L C,WJ E y Q D L C→KJ E K D L C) (k:WJ E y Q D L C):KJ E (Exit.then K Q' .normal) D L C:=aR (hK _ _ _ k)
theorem WK {K:Act→World→Prop} {Q':bc} (hK: ∀ D L C,WJ E y Q D L C→KJ E K D L C) (k:WJ E y Q D L C):WJ E .skip (Exit.then K Q') D L C:=bW (aR (hK _ _ _ k))
end
theorem DT {p:Prop} [Decidable p] (h:decide p=true):p:=of_decide_eq_true h
theorem DF {p:Prop} [Decidable p] (h:decide p=false): ¬ p:=of_decide_eq_false h
theorem XT {p:Prop} [Decidable p] (h:(!decide p)=true): ¬ p:=by simpa using h
theorem XF {p:Prop} [Decidable p] (h:(!decide p)=false):p:=by simpa using h
/-- what a function hands back: one result, two, three, that lie in slots -/
theorem Q1 {E:bV} {fn:Func} {K:Act→World→Prop} {L:bj} {C:List ag} {t:Nat} {u v:Value} (hQ: ∀ D L C,LJ E fn (kQ E.w0 v) D L C→KJ E K D L C) (hS:E.S=g5) (hr:fn.results.toList=[.tmp t]) (hl:L.lookup t=some u) (e:u=v):KJ E K [] L C:=
 hQ _ _ _ (eC (vs:=[u]) (by rw [hr]; exact ⟨hl,trivial⟩) fun w hs=>pR e (by rw [hS] at hs; exact hs))
theorem Q2 {E:bV} {fn:Func} {K:Act→World→Prop} {L:bj} {C:List ag} {t s:Nat} {u x v:Value} (hQ: ∀ D L C,LJ E fn (kQ E.w0 v) D L C→KJ E K D L C) (hS:E.S=g5) (hr:fn.results.toList=[.tmp t,.tmp s]) (hl:L.lookup t=some u) (hm:L.lookup s=some x) (e:vT [u,x]=v):KJ E K [] L C:=
 hQ _ _ _ (eC (vs:=[u,x]) (by rw [hr]; exact ⟨hl,hm,trivial⟩) fun w hs=>pR e (by rw [hS] at hs; exact hs))
theorem Q3 {E:bV} {fn:Func} {K:Act→World→Prop} {L:bj} {C:List ag} {t s r:Nat} {u x y v:Value} (hQ: ∀ D L C,LJ E fn (kQ E.w0 v) D L C→KJ E K D L C) (hS:E.S=g5) (hr:fn.results.toList=[.tmp t,.tmp s,.tmp r]) (hl:L.lookup t=some u) (hm:L.lookup s=some x) (hn:L.lookup r=some y) (e:vT [u,x,y]=v):KJ E K [] L C:=
 hQ _ _ _ (eC (vs:=[u,x,y]) (by rw [hr]; exact ⟨hl,hm,hn,trivial⟩) fun w hs=>pR e (by rw [hS] at hs; exact hs))
theorem N1 {E:bV} {ops:Array Oper} {D:cA} {C' C1:List ag} {F:bj→List ag→Prop} {tb rem:List Nat} {n:Nat} {L:bj} {C:List ag} (i:Nat)
 (h:nb E ops D C' C1 F tb n (rem.filter (· != i)) i L C) (hm:rem.filter (fun i=>rem.all fun j=> !cx (gH ops) j i)=[i]:=by kernel_rfl):TN E ops D C' C1 F tb (n+1) rem L C:=sQ [i] hm (tq h ue)
theorem NO {E:bV} {ops:Array Oper} {D:cA} {C' C1:List ag} {F:bj→List ag→Prop} {tb rem:List Nat} {n i:Nat} {L:bj} {C:List ag} {o:Oper} (ho:ops[i]? =some o) (ht:tb.contains i=false) (rem':List Nat)
 (h: ∀ K:Act→World→Prop,(∀ L' C'',(∀ w,St E.S E.w0 C'' w→St E.S E.w0 C' w)→TN E ops D C' C1 F tb n rem' L' C''→KJ E K D L' C'')→RJ E ops (NQ K) [o] D L C) (hr:rem=rem':=by kernel_rfl):nb E ops D C' C1 F tb n rem i L C:=vk ho hr ht h
theorem RD {E:bV} {ops:Array Oper} {K:Act→World→Prop} {D:cA} {L:bj} {C C':List ag} {X:bj→List ag→Prop} (hT: ∀ L' C'',(∀ w,St E.S E.w0 C'' w→St E.S E.w0 C' w)→X L' C''→KJ E K D L' C'')
 (k:Nat) (h2:C.drop k=C') (h:X L C):RJ E ops (NQ K) [] D L C:=aD (hT _ _ (fun w hs=>h2▸hs.take (List.drop_sublist k C)) h)
theorem aB {L L':bj} (h:L'.map (fun p=>L.lookup p.1)=L'.map (fun p=>some p.2)):cQ L L':=by
 induction L' with
 |nil=>exact cQ.nil _
 |cons p t ih=>
  simp only [List.map_cons,List.cons.injEq] at h
  exact cQ.cons h.1 (ih h.2)
theorem bp {E:bV} {c:Operand} {x y:Code} {b:Bool} {Q:bc} {D:List Deferred} {L:List (Nat×Value)} {C:List ag} (hc:ev L c=some (.bool b)) (h2:b=false→WJ E y Q D L C) (h1:b=true→WJ E x Q D L C):WJ E (.cond c x y) Q D L C:=bY hc h1 h2
theorem cM {E:bV} {ops:Array Oper} {Q:bc} {rest:List Oper} {D:List Deferred} {L:List (Nat×Value)} {C:List ag} {t:Nat} {b:Bool} (h:L.lookup t=some (.bool b)) (h2:b=false→RJ E ops Q rest D ((t,.bool false)::L) C) (h1:b=true→RJ E ops Q rest D ((t,.bool true)::L) C):RJ E ops Q rest D L C:=cb h h1 h2
theorem im {E:bV} {ops:Array Oper} {Q:bc} {rest:List Oper} {D:List Deferred} {L:List (Nat×Value)} {C:List ag} {t:Nat} {b:Bool} {os:List Oper} (h:L.lookup t=some (.bool b)) (h2:b=false→DJ E ops D C (fun L2=>RJ E ops Q rest D L2 C) os ((t,.bool false)::L)) (h1:b=true→DJ E ops D C (fun L2=>RJ E ops Q rest D L2 C) os ((t,.bool true)::L)):DJ E ops D C (fun L2=>RJ E ops Q rest D L2 C) os L:=ed h h1 h2
theorem cz {L:List (Nat×Value)}: ∀ (k:Nat) {L2:List (Nat×Value)} (q:cQ L (L2.drop k)) (h:(L2.take k).map (fun p=>L.lookup p.1)=(L2.take k).map (fun p=>some p.2):=by rfl),cQ L L2
 |0,_,q,_=>q
 |_+1,[],_,_=>cQ.nil _
 |k+1,p::L2,q,h=>by
  obtain ⟨A,B⟩:=List.cons.inj (show L.lookup p.1::(L2.take k).map (fun p=>L.lookup p.1)=some p.2::(L2.take k).map (fun p=>some p.2) from h)
  exact cQ.cons (t:=p.1) (v:=p.2) A (cz k q B)
theorem oX {E:bV} {ops:Array Oper} {Q:bc} {rest:List Oper} {D:List Deferred} {L:List (Nat×Value)} {C:List ag} {d:Nat} {ty:TypeId} {ps:String} {af:Array Edge} {g:Option (Nat×Bool)} {op:Op} (k:RJ E ops Q rest D ((d,undef)::L) C) (h:(mf ops L g&&Nat.blt d E.n)=true:=by rfl):RJ E ops Q (⟨some d,op,ty,ps,af,g⟩::rest) D L C:=rS (OX h) k
theorem dX {E:bV} {ops:Array Oper} {F:List (Nat×Value)→Prop} {rest:List Oper} {D:List Deferred} {L:List (Nat×Value)} {C:List ag} {d:Nat} {ty:TypeId} {ps:String} {af:Array Edge} {g:Option (Nat×Bool)} {op:Op} (k:DJ E ops D C F rest ((d,undef)::L)) (h:(mf ops L g&&Nat.blt d E.n)=true:=by rfl):DJ E ops D C F (⟨some d,op,ty,ps,af,g⟩::rest) L:=dS (OX h) k
end
section
open Go.RowKit
section
variable {E:bV} {ops:Array Oper} {Q:bc} {rest:List Oper} {D:List Deferred} {L:List (Nat×Value)} {C:List ag}
variable {d:Nat} {ty:TypeId} {ps:String} {af:Array Edge} {g:Option (Nat×Bool)}
/-- an element of a row whose place is known -/
theorem va (k:Nat) {x ix:Operand} {A:OA} {ad:Addr} {n c sz e t:Nat} {j:Int} (h:bF E.n ops L d g x ix=some (.slice A n c,.int .i64 j)) (hA:A=some ad) (ht:tE E.P t=some (e,sz)) (hj:j=(k:Int)) (hk:k<n):
 SE E ops ⟨some d,.indexAddr t x ix,ty,ps,af,g⟩ D L C (.pointer (de A (k*sz))) d:=by
 obtain ⟨F,G,H,AB⟩:=jN h
 refine ⟨br F sm fun a w B hs=>?_,U,G⟩
 subst hA hj
 simp [execOp,B.ev H,B.ev AB,de,iX ht hk]
end
end
section
open Go.RowKit
/-- an array's length, its elements' type and their size -/
def aE (P:Program) (t:TypeId):Option (Nat×TypeId×Nat):=
 match P.underlying t with
 |some (.array n e)=>match P.info? e with
  |some i=>some (n,e,i.size)
  |none=>none
 |_=>none
theorem qS {P:Program} {t n e sz:Nat} (h:aE P t=some (n,e,sz)) (w:World):P.underlying t=some (.array n e)∧(sizeOf e).run P w= .ok sz w:=by
 unfold aE at h
 split at h
 ·rename_i n' e' hu
  split at h
  ·rename_i i hi
   cases h
   exact ⟨hu,by simp [sizeOf,typeInfo,hi]⟩
  ·cases h
 ·cases h
theorem ef {P:Program} {t n e sz:Nat} (h:aE P t=some (n,e,sz)) (a:Addr) {k:Nat} (hk:k<n) (w:World):
 (Instr.indexAt t (.pointer (some a)) (.int .i64 (k:Int))).run P w= .ok (.pointer (some (a.add (k*sz)))) w:=by
 obtain ⟨hu,hz⟩:=qS h w
 have A: ¬ n≤k:=by omega
 simp [Instr.indexAt,underlying,hu,Instr.sureAddr,asIntOf,hz,A]
 try exact fun h=>absurd h A
 try omega
section
variable {E:bV} {ops:Array Oper} {Q:bc} {rest:List Oper} {D:List Deferred} {L:List (Nat×Value)} {C:List ag}
variable {dst:Option Nat} {ty:TypeId} {ps:String} {af:Array Edge} {g:Option (Nat×Bool)}
theorem cr {x ix:Operand} {a:Addr} {t n e sz k:Nat} {j:Int} (hg:cS ops L g=true) (hx:ev L x=some (.pointer (some a))) (hi:ev L ix=some (.int .i64 j)) (ht:aE E.P t=some (n,e,sz)) (hj:j=(k:Int)) (hk:k<n):
 SD E ops ⟨dst,.indexAddr t x ix,ty,ps,af,g⟩ D L C (.pointer (de (some a) (k*sz))):=
 br hg sm fun b w A hs=>by
  subst hj
  simp [execOp,A.ev hx,A.ev hi,de,ef ht a hk]
end
end
section
open Go.RowKit
/-- a table of facts on the program's types -/
structure mo where
 tk:List (Nat×Bool×Nat)
 fo:List (Nat×List (Option Nat))
 sl:List Nat
def tU {α:Type}:List (Nat×α)→Nat→Option α
 |[],_=>none
 |(k,v)::l,t=>match Nat.beq k t with
  |true=>some v
  |false=>tU l t
theorem kW {α:Type}: ∀ {l:List (Nat×α)} {t:Nat} {v:α},tU l t=some v→(t,v)∈l
 |[],t,v,h=>by simp [tU] at h
 |(k,u)::l,t,v,h=>by
  unfold tU at h
  split at h
  ·rename_i hb
   cases h
   rw [Nat.eq_of_beq_eq_true hb]; exact eo
  ·exact eW _ (kW h)
def qs:List Nat→Nat→Bool
 |[],_=>false
 |k::l,t=>match Nat.beq k t with
  |true=>true
  |false=>qs l t
theorem l5: ∀ {l:List Nat} {t:Nat},qs l t=true→t∈l
 |[],t,h=>by simp [qs] at h
 |k::l,t,h=>by
  unfold qs at h
  split at h
  ·rename_i hb
   rw [Nat.eq_of_beq_eq_true hb]; exact eo
  ·exact eW _ (l5 h)
def mo.pw (T:mo) (t:Nat):Option (Bool×Nat):=tU T.tk t
def mo.foF (T:mo) (s f:Nat):Option Nat:=match tU T.fo s with
 |some l=>match l[f]? with
  |some (some k)=>some k
  |_=>none
 |none=>none
structure dJ (P:Program) (T:mo):Prop where
 tk: ∀ p∈T.tk,tK P p.1=some p.2
 fo: ∀ p∈T.fo,∀ f k,p.2[f]? =some (some k)→jl P p.1 f=some k
 sl: ∀ t∈T.sl,∃ e,P.underlying t=some (.slice e)
theorem dJ.pw {P:Program} {T:mo} (h:dJ P T) {t:Nat} {r:Bool×Nat} (e:T.pw t=some r):tK P t=some r:=h.tk _ (kW e)
theorem dJ.foF {P:Program} {T:mo} (h:dJ P T) {s f k:Nat} (e:T.foF s f=some k):jl P s f=some k:=by
 unfold mo.foF at e
 split at e
 ·rename_i l hl
  split at e
  ·rename_i k' hk
   cases e
   exact h.fo _ (kW hl) f k hk
  ·cases e
 ·cases e
def u3 (P:Program) (T:mo):Bool:=(T.tk.all fun p=>decide (tK P p.1=some p.2))&&(T.fo.all fun p=>(List.range p.2.length).all fun f=>match p.2[f]? with
 |some (some k)=>decide (jl P p.1 f=some k)
 |_=>true)&&T.sl.all fun t=>match P.underlying t with
 |some (.slice _)=>true
 |_=>false
theorem sw {P:Program} {T:mo} (h:u3 P T=true):dJ P T:=by
 unfold u3 at h
 rw [bg,bg] at h
 obtain ⟨⟨B,C⟩,D⟩:=h
 refine ⟨fun p hp=>by simpa using bl.1 B p hp,fun p hp f k hk=>?_,fun t ht=>?_⟩
 ·have A:=bl.1 (bl.1 C p hp) f (List.mem_range.2 (av.1 hk).1)
  rw [hk] at A
  simpa using A
 ·have A:=bl.1 D t ht
  split at A
  ·rename_i e he; exact ⟨e,he⟩
  ·cases A
end
section
theorem tS:tK Try.prog 3=some (false,1):=by kernel_rfl
theorem vE:tK Try.prog 24=some (true,1):=by kernel_rfl
theorem vZ:tK Try.prog 27=some (true,2):=by kernel_rfl
theorem v5:tK Try.prog 29=some (true,11):=by kernel_rfl
theorem uf:tK Try.prog 36=some (false,1):=by kernel_rfl
theorem vu:tK Try.prog 42=some (true,9):=by kernel_rfl
theorem vR:tK Try.prog 59=some (true,5):=by kernel_rfl
theorem vC:tK Try.prog 62=some (true,1):=by kernel_rfl
theorem vU:tK Try.prog 69=some (true,13):=by kernel_rfl
theorem uo:tK Try.prog 72=some (false,1):=by kernel_rfl
theorem v9:tK Try.prog 97=some (true,3):=by kernel_rfl
theorem uT:tK Try.prog 108=some (true,1):=by kernel_rfl
theorem uq:tK Try.prog 109=some (true,2):=by kernel_rfl
theorem nQ:(tK Try.prog 3).map (·.2)=some 1:=by rw [tS]; rfl
theorem jH:(tK Try.prog 24).map (·.2)=some 1:=by rw [vE]; rfl
theorem fO:(tK Try.prog 27).map (·.2)=some 2:=by rw [vZ]; rfl
theorem v3:(tK Try.prog 29).map (·.2)=some 11:=by rw [v5]; rfl
theorem vh:(tK Try.prog 36).map (·.2)=some 1:=by rw [uf]; rfl
theorem pg:(tK Try.prog 42).map (·.2)=some 9:=by rw [vu]; rfl
theorem qa:(tK Try.prog 59).map (·.2)=some 5:=by rw [vR]; rfl
theorem rq:(tK Try.prog 62).map (·.2)=some 1:=by rw [vC]; rfl
theorem cV:(tK Try.prog 69).map (·.2)=some 13:=by rw [vU]; rfl
theorem tj:(tK Try.prog 72).map (·.2)=some 1:=by rw [uo]; rfl
theorem uX:(tK Try.prog 97).map (·.2)=some 3:=by rw [v9]; rfl
theorem rT:(tK Try.prog 108).map (·.2)=some 1:=by rw [uT]; rfl
theorem si:(tK Try.prog 109).map (·.2)=some 2:=by rw [uq]; rfl
theorem qX:aE Try.prog 97=some (3,96,1):=by kernel_rfl
theorem eQ:aE Try.prog 99=some (13,3,1):=by kernel_rfl
theorem da:aE Try.prog 101=some (13,99,13):=by kernel_rfl
theorem vQ:iG Try.prog 8=true:=by kernel_rfl
theorem jk (l:List ab): ∀ v∈(l.map ab.cells).flatten,v.oneCell'=true:=jZ (fun _=>rfl) l
theorem gS (l:List aa): ∀ v∈(l.map aa.cells).flatten,v.oneCell'=true:=jZ (fun _=>rfl) l
theorem vv:tA Try.prog 22=some (42,9,72,(Value.agg [(vI 0),(vI 0),(vI 0),(vI 0),(vI 0),(vI 0),(vI 0),(Value.int .u8 0),(vI 0)].toArray)):=by kernel_rfl
theorem vt:tA Try.prog 36=some (27,2,16,(Value.agg [(vI 0),(vI 0)].toArray)):=by kernel_rfl
theorem uH:tA Try.prog 72=some (3,1,8,(vI 0)):=by kernel_rfl
theorem qq:tB Try.prog 24=some ([(vS none 0 0)],[(0,1)]):=by kernel_rfl
theorem gV:tB Try.prog 27=some ([(vI 0),(vI 0)],[(0,1),(1,1)]):=by kernel_rfl
theorem vH:tB Try.prog 29=some ([(Value.int .u8 0),(vI 0),(vI 0),(vI 0),(vI 0),(vI 0),(vI 0),(vI 0),(vI 0),(vI 0),(vI 0)],[(0,1),(1,2),(3,2),(5,2),(7,2),(9,2)]):=by kernel_rfl
theorem sH:tB Try.prog 42=some ([(vI 0),(vI 0),(vI 0),(vI 0),(vI 0),(vI 0),(vI 0),(Value.int .u8 0),(vI 0)],[(0,1),(1,2),(3,2),(5,2),(7,1),(8,1)]):=by kernel_rfl
theorem vJ:tB Try.prog 62=some ([(vS none 0 0)],[(0,1)]):=by kernel_rfl
theorem ug:tB Try.prog 69=some ([(Value.int .u8 0),(vI 0),(vI 0),(vI 0),(vI 0),(vI 0),(vI 0),(vI 0),(vI 0),(vI 0),(vI 0),(vS none 0 0),(vB false)],[(0,11),(11,1),(12,1)]):=by kernel_rfl
theorem uw:tB Try.prog 96=some ([Value.nilFunc],[(0,1)]):=by kernel_rfl
theorem vq:tB Try.prog 97=some ([Value.nilFunc,Value.nilFunc,Value.nilFunc],[(0,1),(1,1),(2,1)]):=by kernel_rfl
theorem se:tB Try.prog 108=some ([Value.nilFunc],[(0,1)]):=by kernel_rfl
theorem ur:tB Try.prog 109=some ([Value.nilFunc,Value.nilFunc],[(0,1),(1,1)]):=by kernel_rfl
theorem gU:tE Try.prog 22=some (42,9):=by kernel_rfl
theorem lK:tE Try.prog 25=some (59,5):=by kernel_rfl
theorem gG:tE Try.prog 36=some (27,2):=by kernel_rfl
theorem eP:tE Try.prog 72=some (3,1):=by kernel_rfl
theorem wk:tV Try.prog 3=some (vI 0):=by kernel_rfl
theorem r8:tX Try.prog 109=some (2,108):=by kernel_rfl
theorem rf:tZ Try.prog 3=some [(vI 0)]:=by kernel_rfl
theorem lU:tZ Try.prog 24=some [(vS none 0 0)]:=by kernel_rfl
theorem fD:tZ Try.prog 27=some [(vI 0),(vI 0)]:=by kernel_rfl
theorem vr:tZ Try.prog 29=some [(Value.int .u8 0),(vI 0),(vI 0),(vI 0),(vI 0),(vI 0),(vI 0),(vI 0),(vI 0),(vI 0),(vI 0)]:=by kernel_rfl
theorem vg:tZ Try.prog 36=some [(vS none 0 0)]:=by kernel_rfl
theorem oh:tZ Try.prog 42=some [(vI 0),(vI 0),(vI 0),(vI 0),(vI 0),(vI 0),(vI 0),(Value.int .u8 0),(vI 0)]:=by kernel_rfl
theorem qj:tZ Try.prog 59=some [(Value.int .u8 0),(vI 0),(vI 0),(vI 0),(vI 0)]:=by kernel_rfl
theorem qD:tZ Try.prog 62=some [(vS none 0 0)]:=by kernel_rfl
theorem cW:tZ Try.prog 69=some [(Value.int .u8 0),(vI 0),(vI 0),(vI 0),(vI 0),(vI 0),(vI 0),(vI 0),(vI 0),(vI 0),(vI 0),(vS none 0 0),(vB false)]:=by kernel_rfl
theorem sL:tZ Try.prog 72=some [(vS none 0 0)]:=by kernel_rfl
theorem u1:tZ Try.prog 97=some [Value.nilFunc,Value.nilFunc,Value.nilFunc]:=by kernel_rfl
theorem sf:tZ Try.prog 108=some [Value.nilFunc]:=by kernel_rfl
theorem rV:tZ Try.prog 109=some [Value.nilFunc,Value.nilFunc]:=by kernel_rfl
theorem pN:tZ Try.prog 101=some ((List.replicate 169 (0:Int)).map (Value.int .i64)):=by kernel_rfl
theorem k_:Try.prog.underlying 3=some (.int .i64):=by kernel_rfl
theorem wi:Try.prog.underlying 4=some .bool:=by kernel_rfl
theorem rA:Try.prog.underlying 5=some (.int .u8):=by kernel_rfl
theorem wz:Try.prog.underlying 9=some .string:=by kernel_rfl
theorem uE:Try.prog.underlying 22=some (.slice 42):=by kernel_rfl
theorem ui:Try.prog.underlying 25=some (.slice 59):=by kernel_rfl
theorem tz:Try.prog.underlying 63=some (.map 3 59):=by kernel_rfl
theorem oL:Try.prog.underlying 78=some (.map 3 3):=by kernel_rfl
theorem uB:Try.prog.underlying 119=some (.int .u64):=by kernel_rfl
theorem uz:Try.prog.underlying 131=some (.int .u64):=by kernel_rfl
theorem sM:fL Try.prog 27=some [(3,0),(3,1)]:=by kernel_rfl
theorem rX (d:Nat) (s z:ab) (w:World):(Op.equalIn (d+2) 27 (.agg s.cells.toArray) (.agg z.cells.toArray)).run Try.prog w= .ok (decide (s=z)) w:=by
 have hc:(decide (s.Lo=z.Lo)&&(decide (s.Hi=z.Hi)&&true))=decide (s=z):=by rw [Bool.eq_iff_iff]; simp [ab.ext_iff]
 rw [← hc]
 exact mR (d+1) sM w (lv w (ir tS U w) (ir tS U w) (m6 _ k_ w) (lv w (ir tS U w) (ir tS U w) (m6 _ k_ w) (rD w)))
theorem pb (x y:Operand) (s z:ab):cP Try.prog .eql 27 x y (.agg s.cells.toArray) (.agg z.cells.toArray) (.bool (decide (s=z))):=oy x y (lS sM) fun w=>rX 9998 s z w
theorem r_ (x y:Operand) (s z:ab):cP Try.prog .neq 27 x y (.agg s.cells.toArray) (.agg z.cells.toArray) (.bool (!decide (s=z))):=oe x y (lS sM) fun w=>rX 9998 s z w
theorem ck:Try.prog.follows .mixedOrders=true:=by kernel_rfl
def TT:mo:=⟨[(1,false,1),(2,false,1),(3,false,1),(4,false,1),(5,false,1),(6,false,1),(7,true,4),(8,true,4),(12,false,1),(15,false,1),(16,false,1),(17,false,1),(18,true,1),(19,true,1),(21,false,1),(22,false,1),(23,true,1),(24,true,1),(25,false,1),(26,true,2),(27,true,2),(28,true,11),(29,true,11),(30,false,1),(31,false,1),(32,false,1),(33,false,1),(35,false,1),(36,false,1),(38,false,1),(40,false,1),(41,true,9),(42,true,9),(44,false,1),(45,false,1),(46,false,1),(47,false,1),(49,false,1),(51,false,1),(52,false,1),(53,false,1),(54,false,1),(55,false,1),(56,false,1),(57,false,1),(58,true,5),(59,true,5),(60,false,1),(61,true,1),(62,true,1),(63,false,1),(65,false,1),(67,false,1),(68,true,13),(69,true,13),(71,false,1),(72,false,1),(73,false,1),(74,false,1),(75,false,1),(76,false,1),(78,false,1),(79,false,1),(80,false,1),(81,false,1),(82,false,1),(83,false,1),(85,false,1),(86,false,1),(87,false,1),(88,false,1),(89,false,1),(90,false,1),(91,false,1),(92,false,1),(93,false,1),(94,false,1),(95,true,1),(96,true,1),(97,true,3),(98,false,1),(99,true,13),(102,false,1),(103,false,1),(104,false,1),(105,false,1),(106,false,1),(107,false,1),(108,true,1),(109,true,2),(110,false,1),(111,false,1),(112,false,1),(113,false,1),(114,false,1),(115,false,1),(116,false,1),(117,false,1),(118,false,1),(119,false,1),(120,false,1),(121,false,1),(122,false,1),(124,false,1),(125,false,1),(126,false,1),(127,false,1),(128,false,1),(129,false,1),(130,false,1),(131,false,1),(132,false,1),(133,false,1),(134,false,1),(135,false,1),(136,false,1),(137,false,1),(138,false,1),(140,false,1),(141,false,1),(144,true,0),(145,true,0),(146,true,0),(147,false,1),(148,false,1),(149,false,1),(150,false,1),(151,false,1),(152,false,1),(153,false,1),(154,true,11),(155,true,11),(156,false,1),(158,false,1),(159,false,1),(160,false,1)],[(7,[some 0,some 1,some 2,some 3]),(8,[some 0,some 1,some 2,some 3]),(18,[some 0]),(19,[some 0]),(23,[some 0]),(24,[some 0]),(26,[some 0,some 1]),(27,[some 0,some 1]),(28,[some 0,some 1,some 3,some 5,some 7,some 9]),(29,[some 0,some 1,some 3,some 5,some 7,some 9]),(41,[some 0,some 1,some 3,some 5,some 7,some 8]),(42,[some 0,some 1,some 3,some 5,some 7,some 8]),(58,[some 0,some 1,some 2,some 3]),(59,[some 0,some 1,some 2,some 3]),(61,[some 0]),(62,[some 0]),(68,[some 0,some 11,some 12]),(69,[some 0,some 11,some 12]),(95,[some 0]),(96,[some 0]),(108,[some 0]),(154,[some 0,some 1,some 2,some 3,some 4,some 5,some 6,some 7,some 8,some 9,some 10]),(155,[some 0,some 1,some 2,some 3,some 4,some 5,some 6,some 7,some 8,some 9,some 10])],[22,25,36,72]⟩
theorem fU:dJ Try.prog TT:=sw kr
theorem cd {t:TypeId} {x:Bool×Nat} (h:TT.pw t=some x:=by rfl):tK Try.prog t=some x:=fU.pw h
theorem iY {s f k:Nat} (h:TT.foF s f=some k:=by rfl):jl Try.prog s f=some k:=fU.foF h
end
section
open Go.RowKit
/-- blocks that are read -/
def MM (C:List ag) (M:List (Nat×List Value)):Prop:= ∀ p∈M,∀ o vs,(p.2.drop o).take vs.length=vs→At C (some ⟨p.1,o,none⟩) vs
theorem mn {C:List ag}:MM C []:=fun p h=>by cases h
theorem mc {C:List ag} {b t:Nat} {cs:List Value} {M:List (Nat×List Value)} (i:Nat) (hC:C[i]? =some (ct b t cs)) (h:MM C M):MM C ((b,cs)::M):=fun p hp o vs hv=>by
 rcases bm.1 hp with rfl|hp
 ·exact j4 i hC hv
 ·exact h p hp o vs hv
theorem mr {C:List ag} {b t:Nat} {cs:List Value} {M:List (Nat×List Value)} (i:Nat) (hC:C[i]? =some (ct b t cs).ro) (h:MM C M):MM C ((b,cs)::M):=fun p hp o vs hv=>by
 rcases bm.1 hp with rfl|hp
 ·exact nB i hC hv
 ·exact h p hp o vs hv
def fA:List Prop→Prop
 |[]=>True
 |p::l=>p∧fA l
theorem cZ {p:Prop} {l:List Prop} (h:p) (h2:fA l):fA (p::l):=⟨h,h2⟩
/-- the value of an operation, what it asks for, and what is left of the list of places -/
def pv (T:mo) (ops:Array Oper) (M:List (Nat×List Value)) (L:bj) (hs:List Nat) (g:Option (Nat×Bool)) (op:Op):Option (Value×List Prop×List Nat):=
 match mf ops L g with
 |true=>some (undef,[],hs)
 |false=>match cS ops L g with
  |false=>none
  |true=>match op with
   | .move x=>match ev L x with
    |some v=>some (v,[],hs)
    |none=>none
   | .assign x=>match ev L x with
    |some v=>some (v,[],hs)
    |none=>none
   | .pick c x y=>match ev L c with
    |some (.bool true)=>match ev L x with
     |some v=>some (v,[],hs)
     |none=>none
    |some (.bool false)=>match ev L y with
     |some v=>some (v,[],hs)
     |none=>none
    |_=>none
   | .unOp .not _ x=>match ev L x with
    |some (.bool b)=>some (.bool !b,[],hs)
    |_=>none
   | .extract x i=>match ev L x with
    |some (.tuple vs)=>match vs.toList[i]? with
     |some v=>some (v,[],hs)
     |none=>none
    |_=>none
   | .fieldAddr s x f=>match ev L x with
    |some (.pointer (some ⟨b,o,none⟩))=>match T.foF s f with
     |some k=>some (.pointer (some ⟨b,o+k,none⟩),[],hs)
     |none=>none
    |_=>none
   | .binOp op _ x y _=>match ev L x with
    |some (.int .i64 a)=>match ev L y with
     |some (.int .i64 b)=>match op with
      | .lss=>some (.bool (decide (a<b)),[],hs)
      | .leq=>some (.bool (decide (a≤b)),[],hs)
      | .gtr=>some (.bool (decide (b<a)),[],hs)
      | .geq=>some (.bool (decide (b≤a)),[],hs)
      | .eql=>some (.bool (decide (a=b)),[],hs)
      | .neq=>some (.bool (!decide (a=b)),[],hs)
      | .add=>some (.int .i64 (a+b),[-9223372036854775808≤a+b,a+b≤9223372036854775807],hs)
      | .sub=>some (.int .i64 (a-b),[-9223372036854775808≤a-b,a-b≤9223372036854775807],hs)
      |_=>none
     |_=>none
    |_=>none
   | .load t x=>match ev L x with
    |some (.pointer (some ⟨b,o,none⟩))=>match M[hs.headD 0]? with
     |some (b',cs)=>match T.pw t with
      |some (false,_)=>match cs[o]? with
       |some v=>some (v,[b'=b],hs.tail)
       |none=>none
      |some (true,n)=>match Nat.beq o 0 with
       |true=>match Nat.beq cs.length n with
        |true=>some (.agg cs.toArray,[b'=b],hs.tail)
        |false=>none
       |false=>none
      |none=>none
     |none=>none
    |_=>none
   | .call c=>match c with
    |{callee:= .builtin .len,args:=xs,argTypes:=ts}=>match xs.toList with
     |[x]=>match ts.toList with
      |[t]=>match ev L x with
       |some (.slice A n c)=>match qs T.sl t with
        |true=>some (.int .i64 n,[],hs)
        |false=>none
       |_=>none
      |_=>none
     |_=>none
    |_=>none
   |_=>none
section
variable {E:bV} {T:mo} {ops:Array Oper} {M:List (Nat×List Value)} {D:List Deferred} {L:List (Nat×Value)} {C:List ag} {hs hs':List Nat}
theorem ja {cs:List Value} {o:Nat} {v:Value} (h:cs[o]? =some v):(cs.drop o).take [v].length=[v]:=by
 obtain ⟨hl,rfl⟩:=av.1 h
 rw [List.drop_eq_getElem_cons hl]; rfl
theorem tW {o:Oper} {v:Value} {S:List Prop} (hT:dJ E.P T) (hM:MM C M) (h:pv T ops M L hs o.guard o.op=some (v,S,hs')) (hS:fA S):SD E ops o D L C v:=by
 obtain ⟨dst,op,ty,ps,af,g⟩:=o
 unfold pv at h
 simp only at h
 split at h
 ·rename_i hg
  cases h
  exact pA hg
 ·split at h
  ·cases h
  ·rename_i hg
   split at h
   ·split at h
    ·rename_i hx; cases h; exact ni hg hx
    ·cases h
   ·split at h
    ·rename_i hx; cases h; exact kG hg hx
    ·cases h
   ·split at h
    ·rename_i hc
     split at h
     ·rename_i hx; cases h; exact oo hg hc hx
     ·cases h
    ·rename_i hc
     split at h
     ·rename_i hx; cases h; exact oC hg hc hx
     ·cases h
    ·cases h
   ·split at h
    ·rename_i hx; cases h; exact sv hg hx
    ·cases h
   ·split at h
    ·rename_i vs hx
     split at h
     ·rename_i v' hv; cases h; exact my (vs:=vs.toList) hg (by simpa using hx) hv
     ·cases h
    ·cases h
   ·split at h
    ·rename_i hx
     split at h
     ·rename_i hk; cases h; exact sb hg hx (hT.foF hk) rfl
     ·cases h
    ·cases h
   ·split at h
    ·rename_i hx
     split at h
     ·rename_i hy
      split at h
      ·cases h; exact bu hg hx hy l6
      ·cases h; exact bu hg hx hy nz
      ·cases h; exact bu hg hx hy pd
      ·cases h; exact bu hg hx hy na
      ·cases h; exact bu hg hx hy dB
      ·cases h; exact bu hg hx hy fT
      ·cases h; exact bu hg hx hy (gP ⟨hS.1,hS.2.1⟩)
      ·cases h; exact bu hg hx hy (oV ⟨hS.1,hS.2.1⟩)
      ·cases h
     ·cases h
    ·cases h
   ·split at h
    ·rename_i hx
     split at h
     ·rename_i b' cs hm
      have A:=aA hm
      split at h
      ·rename_i hk
       split at h
       ·rename_i hv
        cases h
        obtain rfl:=hS.1
        exact kU hg hx (hT.pw hk) (hM _ A _ _ (ja hv))
       ·cases h
      ·rename_i n hk
       split at h
       ·rename_i ho
        split at h
        ·rename_i hn
         cases h
         obtain rfl:=hS.1
         have H:=Nat.eq_of_beq_eq_true ho
         subst H
         exact jx hg hx (hT.pw hk) (hM _ A 0 cs sm) (Nat.eq_of_beq_eq_true hn)
        ·cases h
       ·cases h
      ·cases h
     ·cases h
    ·cases h
   ·split at h
    ·rename_i xs ts
     split at h
     ·rename_i x G
      split at h
      ·rename_i t F
       split at h
       ·rename_i hx
        split at h
        ·rename_i B
         cases h
         obtain ⟨e,he⟩:=hT.sl t (l5 B)
         have AA:xs= #[x]:=by apply Array.ext'; simpa using G
         have J:ts= #[t]:=by apply Array.ext'; simpa using F
         subst AA J
         exact td hg hx he
        ·cases h
       ·cases h
      ·cases h
     ·cases h
    ·cases h
   ·cases h
def pr (T:mo) (n:Nat) (ops:Array Oper) (M:List (Nat×List Value)):Nat→List Nat→bj→List Oper→Option (bj×List Oper×List Prop)
 |0,_,L,rest=>some (L,rest,[])
 |k+1,hs,L,[]=>none
 |k+1,hs,L,o::rest=>match o.dst with
  |none=>none
  |some d=>match Nat.blt d n with
   |false=>none
   |true=>match pv T ops M L hs o.guard o.op with
    |none=>none
    |some (v,S,hs')=>match pr T n ops M k hs' ((d,v)::L) rest with
     |none=>none
     |some (L',rest',S')=>some (L',rest',S++S')
theorem j0: ∀ {S S':List Prop},fA (S++S')→fA S∧fA S'
 |[],S',h=>⟨trivial,h⟩
 |p::S,S',h=>⟨⟨h.1,(j0 h.2).1⟩,(j0 h.2).2⟩
/-- whatever is closed under single steps -/
theorem o9 {J:List Oper→bj→Prop} (hT:dJ E.P T) (hM:MM C M) (hJ: ∀ o rest L d v,SD E ops o D L C v→o.dst=some d→Nat.blt d E.n=true→J rest ((d,v)::L)→J (o::rest) L):
 ∀ (k:Nat) (hs:List Nat) (L:bj) (rest:List Oper) {L':bj} {rest':List Oper} {S:List Prop},pr T E.n ops M k hs L rest=some (L',rest',S)→fA S→J rest' L'→J rest L
 |0,hs,L,rest,L',rest',S,h,hS,hj=>by
  unfold pr at h
  cases h
  exact hj
 |k+1,hs,L,[],L',rest',S,h,hS,hj=>by unfold pr at h; cases h
 |k+1,hs,L,o::rest,L',rest',S,h,hS,hj=>by
  unfold pr at h
  split at h
  ·cases h
  ·rename_i d hd
   split at h
   ·cases h
   ·rename_i hn
    split at h
    ·cases h
    ·rename_i v S1 A hv
     split at h
     ·cases h
     ·rename_i L1 G S2 hr
      cases h
      obtain ⟨B,F⟩:=j0 hS
      exact hJ o rest L d v (tW hT hM hv B) hd hn (o9 hT hM hJ k A _ rest hr F hj)
variable {Q:bc} {rest rest':List Oper} {L0 L':List (Nat×Value)} {S:List Prop} {F:List (Nat×Value)→Prop}
/-- a run of operations, one after the other -/
theorem rP (k:Nat) (hs:List Nat) (hM:MM C M) (j:RJ E ops Q rest' D L' C) (hT:dJ E.P T:=by exact fU) (h:pr T E.n ops M k hs L rest=some (L0,rest',S):=by rfl) (hL:L0=L':=by (try dsimp only)<;>rfl) (hS:fA S:=by repeat' first|exact True.intro |refine cZ ?_ ?_ |exact rfl|omega|(dsimp only; omega)):RJ E ops Q rest D L C:=by
 subst hL
 exact o9 (J:=fun r L=>RJ E ops Q r D L C) hT hM (fun o rest L d v A B F G=>um A B F G) k hs L rest h hS j
theorem dP (k:Nat) (hs:List Nat) (hM:MM C M) (j:DJ E ops D C F rest' L') (hT:dJ E.P T:=by exact fU) (h:pr T E.n ops M k hs L rest=some (L0,rest',S):=by rfl) (hL:L0=L':=by (try dsimp only)<;>rfl) (hS:fA S:=by repeat' first|exact True.intro |refine cZ ?_ ?_ |exact rfl|omega|(dsimp only; omega)):DJ E ops D C F rest L:=by
 subst hL
 exact o9 (J:=fun r L=>DJ E ops D C F r L) hT hM (fun o rest L d v A B G H=>uk A B G H) k hs L rest h hS j
end
section
variable {P:Program} {r:Option Nat} {n:Nat} {B:BS} {w0:World} {ops:Array Oper} {M:List (Nat×List Value)} {D:List Deferred} {L L':List (Nat×Value)} {C:List ag} {Q:bc} {rest rest':List Oper} {S:List Prop} {F:List (Nat×Value)→Prop}
theorem e7 (k:Nat) (hs:List Nat) (hM:MM C M) (h:pr TT n ops M k hs L rest=some (L',rest',S)) (j:RJ ⟨P,r,n,B,w0⟩ ops Q rest' D L' C) (hS:fA S:=by repeat' first|exact True.intro |refine cZ ?_ ?_ |exact rfl|omega|(dsimp only; omega)) (hT:dJ P TT:=by exact fU):RJ ⟨P,r,n,B,w0⟩ ops Q rest D L C:=rP k hs hM j hT h rfl hS
theorem kc (k:Nat) (hs:List Nat) (hM:MM C M) (h:pr TT n ops M k hs L rest=some (L',rest',S)) (j:DJ ⟨P,r,n,B,w0⟩ ops D C F rest' L') (hS:fA S:=by repeat' first|exact True.intro |refine cZ ?_ ?_ |exact rfl|omega|(dsimp only; omega)) (hT:dJ P TT:=by exact fU):DJ ⟨P,r,n,B,w0⟩ ops D C F rest L:=dP k hs hM j hT h rfl hS
theorem aP (k:Nat) (h:pr TT n ops [] k [] L rest=some (L',rest',S)) (j:RJ ⟨P,r,n,B,w0⟩ ops Q rest' D L' C) (hS:fA S:=by repeat' first|exact True.intro |refine cZ ?_ ?_ |exact rfl|omega|(dsimp only; omega)) (hT:dJ P TT:=by exact fU):RJ ⟨P,r,n,B,w0⟩ ops Q rest D L C:=rP k [] mn j hT h rfl hS
theorem eR (k:Nat) (h:pr TT n ops [] k [] L rest=some (L',rest',S)) (j:DJ ⟨P,r,n,B,w0⟩ ops D C F rest' L') (hS:fA S:=by repeat' first|exact True.intro |refine cZ ?_ ?_ |exact rfl|omega|(dsimp only; omega)) (hT:dJ P TT:=by exact fU):DJ ⟨P,r,n,B,w0⟩ ops D C F rest L:=dP k [] mn j hT h rfl hS
end
end
section
open Go.RowKit
/-- parts of a context, reckoned to the end -/
def mg (C:List ag):List Nat→Option (List ag)
 |[]=>some []
 |i::is=>match C[i]? with
  |some A=>match mg C is with
   |some l=>some (A::l)
   |none=>none
  |none=>none
theorem nk {C:List ag}: ∀ {is:List Nat} {C':List ag},mg C is=some C'→ld C is=C'
 |[],C',h=>by cases h; rfl
 |i::is,C',h=>by
  unfold mg at h
  split at h
  ·rename_i A hA
   split at h
   ·rename_i l hl
    cases h
    show List.filterMap (C[·]?) (i::is)=A::l
    rw [List.filterMap_cons_some hA]
    exact congrArg _ (nk hl)
   ·cases h
  ·cases h
/-- a part of a context in place of the whole -/
theorem aV {S:BS} {w0:World} {C C':List ag} (is:List Nat) (hn:decide is.Nodup=true:=by rfl) (hC:ld C is=C':=by rfl): ∀ w,St S w0 C w→St S w0 C' w:=fun w h=>St.ld is hn hC h
theorem uI {S:BS} {w0:World} {C C':List ag} (is:List Nat) (hC:mg C is=some C') (hn:decide is.Nodup=true:=by rfl): ∀ w,St S w0 C w→St S w0 C' w:=fun w h=>St.ld is hn (nk hC) h
def rR (C:List ag) (i:Nat) (B:ag):Option (List ag):=match i,C with
 |0,_::C=>some (B::C)
 |i+1,A::C=>match rR C i B with
  |some l=>some (A::l)
  |none=>none
 |_,[]=>none
theorem ns: ∀ {C:List ag} {i:Nat} {B:ag} {C':List ag},rR C i B=some C'→C.set i B=C'
 |[],0,B,C',h=>by cases h
 |[],i+1,B,C',h=>by cases h
 |A::C,0,B,C',h=>by cases h; rfl
 |A::C,i+1,B,C',h=>by
  unfold rR at h
  split at h
  ·rename_i l hl
   cases h
   exact congrArg _ (ns hl)
  ·cases h
theorem iS {E:bV} {K:Act→World→Prop} {D:cA} {L:bj} {C C':List ag} {A B:ag} (i:Nat) (hC:C[i]? =some A) (hh:(∀ w,A.holds w→B.holds w)∧(∀ b,B.bL b→A.bL b)∧ ∀ b,B.wf b→A.wf b) (hC':rR C i B=some C') (h:KJ E K D L C'):KJ E K D L C:=uC i hC hh (ns hC') h
/-- the operations of a region but these; marks of some places -/
def vz (n:Nat) (T:List Nat):List Nat:=(List.range n).filter fun i=> !T.contains i
def wj (k:Nat) (t:List Nat):List Bool:=(List.range k).map fun i=>t.contains i
theorem ep {E:bV} {id:Nat} {ops:Array Oper} {Q:bc} {D:cA} {L:bj} {C:List ag} (hm:E.P.follows .mixedOrders=true) (T fe tb i1 i2:List Nat) {C' C1:List ag} {free:List Nat} {feb tbb:List Bool}
 (h1:mg C i1=some C') (h2:mg C i2=some C1) (hf:free=vz ops.size T) (hfe:feb=wj free.length fe) (htb:tbb=wj T.length tb)
 (h:gY E ops D C' C1 (fun L'=>TJ E ops D C' C1 (fun L C=>KJ E (Q .normal) D L C) tbb (bz ops T) L' C) feb (bz ops free) L)
 (hc:qB ops free T feb tbb=true:=by kernel_rfl) (n1:decide i1.Nodup=true:=by rfl) (n2:decide i2.Nodup=true:=by rfl):WJ E (.region id ops true) Q D L C:=
 rn hm free T feb tbb C' C1 hc (uI i1 h1 n1) (uI i2 h2 n2) h
end
section
open Go.RowKit
def jm (T:mo) (M:List (Nat×List Value)) (L:bj):List ResultVar→List Nat→Option (List Value×List Prop)
 |[],_=>some ([],[])
 | .tmp t::rs,hs=>match L.lookup t with
  |some v=>match jm T M L rs hs with
   |some (vs,S)=>some (v::vs,S)
   |none=>none
  |none=>none
 | .cell a t::rs,hs=>match L.lookup a with
  |some (.pointer (some ⟨b,o,none⟩))=>match M[hs.headD 0]? with
   |some (b',cs)=>match T.pw t with
    |some (false,_)=>match cs[o]? with
     |some v=>match jm T M L rs hs.tail with
      |some (vs,S)=>some (v::vs,(b'=b)::S)
      |none=>none
     |none=>none
    |some (true,n)=>match Nat.beq o 0 with
     |true=>match Nat.beq cs.length n with
      |true=>match jm T M L rs hs.tail with
       |some (vs,S)=>some (.agg cs.toArray::vs,(b'=b)::S)
       |none=>none
      |false=>none
     |false=>match jm T M L rs hs.tail with
      |some (vs,S)=>some (.agg ((cs.drop o).take n).toArray::vs,(b'=b)::(((cs.drop o).take n).length=n)::S)
      |none=>none
    |none=>none
   |none=>none
  |_=>none
theorem eV {P:Program} {T:mo} {M:List (Nat×List Value)} {L:bj} {C:List ag} (hT:dJ P T) (hM:MM C M): ∀ (rs:List ResultVar) (hs:List Nat) {vs:List Value} {S:List Prop},jm T M L rs hs=some (vs,S)→fA S→nJ P L C rs vs
 |[],_,vs,S,h,hS=>by unfold jm at h; cases h; exact trivial
 | .tmp t::rs,hs,vs,S,h,hS=>by
  unfold jm at h
  split at h
  ·rename_i v hv
   split at h
   ·rename_i vs' S' hr
    cases h
    exact ⟨hv,eV hT hM rs hs hr hS⟩
   ·cases h
  ·cases h
 | .cell a t::rs,hs,vs,S,h,hS=>by
  unfold jm at h
  split at h
  ·rename_i b o hl
   split at h
   ·rename_i b' cs hm
    have A:=aA hm
    split at h
    ·rename_i hk
     split at h
     ·rename_i v hv
      split at h
      ·rename_i vs' S' hr
       cases h
       obtain ⟨rfl,hS⟩:=hS
       exact ⟨⟨_,hl,.inr ⟨_,hT.pw hk,hM _ A _ _ (ja hv)⟩⟩,eV hT hM rs _ hr hS⟩
      ·cases h
     ·cases h
    ·rename_i n hk
     split at h
     ·rename_i ho
      split at h
      ·rename_i hn
       split at h
       ·rename_i vs' S' hr
        cases h
        obtain ⟨rfl,hS⟩:=hS
        have D:=Nat.eq_of_beq_eq_true ho
        subst D
        exact ⟨⟨_,hl,.inl ⟨_,cs,hT.pw hk,hM _ A 0 cs sm,Nat.eq_of_beq_eq_true hn,U⟩⟩,eV hT hM rs _ hr hS⟩
       ·cases h
      ·cases h
     ·split at h
      ·rename_i vs' S' hr
       cases h
       obtain ⟨rfl,B,hS⟩:=hS
       exact ⟨⟨_,hl,.inl ⟨_,_,hT.pw hk,hM _ A o _ (by rw [B]),B,U⟩⟩,eV hT hM rs _ hr hS⟩
      ·cases h
    ·cases h
   ·cases h
  ·cases h
section
variable {P:Program} {n:Nat} {fn:Func} {w0:World} {K:Act→World→Prop} {L:List (Nat×Value)} {C:List ag} {M:List (Nat×List Value)} {vs:List Value} {S:List Prop} {u x v:Value}
theorem u_ (hQ: ∀ D L C,LJ ⟨P,none,n,g5,w0⟩ fn (kQ w0 v) D L C→KJ ⟨P,none,n,g5,w0⟩ K D L C) (hs:List Nat) (hM:MM C M) (h:jm TT M L fn.results.toList hs=some ([u],S)) (e:u=v) (hS:fA S:=by repeat' first|exact True.intro |refine cZ rfl ?_) (hT:dJ P TT:=by exact fU):KJ ⟨P,none,n,g5,w0⟩ K [] L C:=
 hQ _ _ _ (eC (eV hT hM _ _ h hS) fun w hs=>pR e hs)
theorem qc (hQ: ∀ D L C,LJ ⟨P,none,n,g5,w0⟩ fn (kQ w0 v) D L C→KJ ⟨P,none,n,g5,w0⟩ K D L C) (hs:List Nat) (hM:MM C M) (h:jm TT M L fn.results.toList hs=some (u::x::vs,S)) (e:Value.tuple (u::x::vs).toArray=v) (hS:fA S:=by repeat' first|exact True.intro |refine cZ rfl ?_) (hT:dJ P TT:=by exact fU):KJ ⟨P,none,n,g5,w0⟩ K [] L C:=
 hQ _ _ _ (eC (eV hT hM _ _ h hS) fun w hs=>pR e hs)
theorem LX {α:Type} {V:α→Value} {p:α→Prop} {N:α→List ag} (hQ: ∀ D L C,LJ ⟨P,none,n,g5,w0⟩ fn (oZ w0 V p N) D L C→KJ ⟨P,none,n,g5,w0⟩ K D L C) (x:α) (is hs:List Nat) (hM:MM C M) (h:jm TT M L fn.results.toList hs=some (vs,S)) (hw:(N x).all (·.wr)=true) (hN:ld C is=N x) (hV:tI vs=V x) (hp:p x) (hn:decide is.Nodup=true:=by rfl) (hS:fA S:=by repeat' first|exact True.intro |refine cZ rfl ?_) (hT:dJ P TT:=by exact fU):KJ ⟨P,none,n,g5,w0⟩ K [] L C:=
 hQ _ _ _ (eC (eV hT hM _ _ h hS) fun w hs=>sV x is hV hp hn hN hw hs)
theorem LM {A:ag} {α:Type} {V:α→Value} {p:α→Prop} {A':α→ag} (hQ: ∀ D L C,LJ ⟨P,none,n,⟨A.wf,fun _=>True⟩,w0⟩ fn (qV w0 A V p A') D L C→KJ ⟨P,none,n,⟨A.wf,fun _=>True⟩,w0⟩ K D L C) (x:α) (i:Nat) (hs:List Nat) (hM:MM C M) (h:jm TT M L fn.results.toList hs=some (vs,S)) (hw:(A' x).wr=true) (hC:C[i]? =some (A' x)) (hV:tI vs=V x) (hp:p x) (hS:fA S:=by repeat' exact True.intro) (hT:dJ P TT:=by exact fU):KJ ⟨P,none,n,⟨A.wf,fun _=>True⟩,w0⟩ K [] L C:=
 hQ _ _ _ (eC (eV hT hM _ _ h hS) fun w hs=>uJ x i hV hp hC hw hs)
end
end
section
open Go.RowKit
def mX {α:Type _}:List α→List α→Option (List α)
 |[],m=>some m
 |a::l,m=>match mX l m with
  |some r=>some (a::r)
  |none=>none
theorem nf {α:Type _}: ∀ {l m r:List α},mX l m=some r→l++m=r
 |[],m,r,h=>by cases h; rfl
 |a::l,m,r,h=>by
  unfold mX at h
  split at h
  ·rename_i r' hr
   cases h
   exact congrArg (a:: ·) (nf hr)
  ·cases h
def u9 (L:bj):List Nat→Option (bj)
 |[]=>some []
 |t::ts=>match L.lookup t with
  |some v=>match u9 L ts with
   |some r=>some ((t,v)::r)
   |none=>none
  |none=>none
theorem m7 {L M:bj} (k:cQ L M): ∀ {ts:List Nat} {r:bj},u9 L ts=some r→cQ L (r++M)
 |[],r,h=>by cases h; exact k
 |t::ts,r,h=>by
  unfold u9 at h
  split at h
  ·rename_i v hv
   split at h
   ·rename_i r' hr
    cases h
    exact cQ.cons hv (m7 k hr)
   ·cases h
  ·cases h
section
variable {E:bV} {Q:bc} {D:List Deferred} {L L0:List (Nat×Value)} {C C0:List ag} {ι:Type} {Li:ι→List (Nat×Value)} {Ci:ι→List ag}
theorem bx {c:Code} (kL kC:List Nat) (hL:u9 L kL=some L0) (hC0:mg C kC=some C0) (S:ι→bj) (G:ι→List ag) (hLi: ∀ x,mX L0 (S x)=some (Li x)) (hCi: ∀ x,mX C0 (G x)=some (Ci x)) (μ:ι→Nat) (x0:ι)
 (h0:cQ L (S x0)) (hC: ∀ w,St E.S E.w0 C w→St E.S E.w0 (Ci x0) w)
 (round: ∀ x (J:Act→World→Prop),(∀ y D' L' C',D'=D→μ y<μ x→cQ L' (Li y)→(∀ w,St E.S E.w0 C' w→St E.S E.w0 (Ci y) w)→KJ E J D' L' C')→WJ E c (Exit.then J Q) D (Li x) (Ci x)):WJ E (.loop c) Q D L C:=
 ti Li Ci μ x0 (nf (hLi x0)▸m7 h0 hL) hC round
theorem k8 {x y:Code} (kL kC:List Nat) (hL:u9 L kL=some L0) (hC0:mg C kC=some C0) (S:ι→bj) (G:ι→List ag) (hLi: ∀ x,mX L0 (S x)=some (Li x)) (hCi: ∀ x,mX C0 (G x)=some (Ci x))
 (hy: ∀ z,WJ E y Q D (Li z) (Ci z)) (h: ∀ K:Act→World→Prop,(∀ z,KJ E K D (Li z) (Ci z))→WJ E x (Exit.then K Q) D L C):WJ E (.seq x y) Q D L C:=tp Li Ci hy h
end
end
section
/-- an entry of a square of 13 -/
def mt (M:List Int) (i k:Nat):Int:=(M[i*13+k]?).getD 0
section
variable {M M0:List Int} {n x i k a b:Nat} {v:Int}
theorem uK (h:M.length=169) (hi:i<13) (hk:k<13):M[i*13+k]? =some (mt M i k):=by
 have:i*13+k<M.length:=by omega
 unfold mt; rw [cw this]; rfl
theorem ga (h:M.length=169) (hi:i<13) (hk:k<13) (ha:a<13) (hb:b<13):mt (M.set (i*13+k) v) a b=if a=i∧b=k then v else mt M a b:=by
 unfold mt
 by_cases q:a=i∧b=k
 ·obtain ⟨rfl,rfl⟩:=q
  rw [if_pos ⟨rfl,rfl⟩,List.getElem?_set_self I]; rfl
 ·rw [if_neg q,List.getElem?_set_ne I]
theorem nj:mt (List.replicate 169 0) i k=0:=by
 unfold mt; rw [List.getElem?_replicate]; split<;>rfl
/-- what is kept from one mark that was gone through to the next one -/
structure Cl (n x:Nat) (M:List Int):Prop where
 len:M.length=169
 dg: ∀ i,i<n→mt M i i=0
 cl: ∀ y,y<x→ ∀ i k,i<n→k<n→mt M i k≤mt M i y+mt M y k
 bd: ∀ i k,i<n→k<n→ -(1073741824*2^x)≤mt M i k∧mt M i k≤1073741824
def bK (i k a b:Nat):Prop:=a<i∨(a=i∧b<k)
instance:Decidable (bK i k a b):=by unfold bK; infer_instance
/-- as far as one mark was gone through -/
structure Rd (n x:Nat) (M0 M:List Int) (i k:Nat):Prop where
 len:M.length=169
 at_: ∀ a b,a<n→b<n→mt M a b=if bK i k a b then min (mt M0 a b) (mt M0 a x+mt M0 x b) else mt M0 a b
 dg: ∀ a,a<n→bK i k a a→0≤mt M0 a x+mt M0 x a
theorem Rd.zero (h:M0.length=169):Rd n x M0 M0 0 0:=⟨h,fun a b _ _=>by rw [if_neg]; unfold bK; omega,fun a _ q=>by unfold bK at q; omega⟩
theorem Rd.row (h:Rd n x M0 M i n):Rd n x M0 M (i+1) 0:=⟨h.len,fun a b ha hb=>by
 rw [h.at_ a b ha hb]
 by_cases q:a<i+1
 ·rw [if_pos (show bK i n a b by unfold bK; omega),if_pos (show bK (i+1) 0 a b by unfold bK; omega)]
 ·rw [if_neg (show ¬ bK i n a b by unfold bK; omega),if_neg (show ¬ bK (i+1) 0 a b by unfold bK; omega)],fun a ha q=>h.dg a ha (by unfold bK at q ⊢; omega)⟩
theorem Rd.left (hc:Cl n x M0) (hx:x<n) (h:Rd n x M0 M i k) (ha:a<n):mt M a x=mt M0 a x:=by
 rw [h.at_ a x ha hx,hc.dg x hx]; split<;>omega
theorem Rd.right (hc:Cl n x M0) (hx:x<n) (h:Rd n x M0 M i k) (hb:b<n):mt M x b=mt M0 x b:=by
 rw [h.at_ x b hx hb,hc.dg x hx]; split<;>omega
theorem Rd.here (h:Rd n x M0 M i k) (hi:i<n) (hk:k<n):mt M i k=mt M0 i k:=by
 rw [h.at_ i k hi hk,if_neg]; unfold bK; omega
theorem Rd.bd (hc:Cl n x M0) (hx:x<n) (h:Rd n x M0 M i k) (ha:a<n) (hb:b<n): -(1073741824*2^(x+1))≤mt M a b∧mt M a b≤1073741824:=by
 rw [h.at_ a b ha hb,Int.pow_succ]
 have A:=hc.bd a b ha hb
 have B:=hc.bd a x ha hx
 have C:=hc.bd x b hx hb
 have D:(0:Int)<2^x:=Int.pow_pos dc
 generalize (2:Int)^x=p at *
 split<;>omega
theorem Rd.skip (hc:Cl n x M0) (hx:x<n) (h:Rd n x M0 M i k) (hi:i<n) (hk:k<n) (q: ¬ mt M i x+mt M x k<mt M i k):Rd n x M0 M i (k+1):=by
 rw [h.left hc hx hi,h.right hc hx hk,h.here hi hk] at q
 refine ⟨h.len,fun a b ha hb=>?_,fun a ha qd=>?_⟩
 ·rw [h.at_ a b ha hb]
  by_cases e:a=i∧b=k
  ·obtain ⟨rfl,rfl⟩:=e
   rw [if_neg (show ¬ bK a b a b by unfold bK; omega),if_pos (show bK a (b+1) a b by unfold bK; omega)]
   omega
  ·have:bK i k a b↔bK i (k+1) a b:=by unfold bK; omega
   simp only [this]
 ·by_cases e:a=i∧a=k
  ·obtain ⟨rfl,rfl⟩:=e
   rw [hc.dg a ha] at q; omega
  ·exact h.dg a ha (by unfold bK at qd ⊢; omega)
theorem Rd.put (hn:n≤13) (hc:Cl n x M0) (hx:x<n) (h:Rd n x M0 M i k) (hi:i<n) (hk:k<n) (q:mt M i x+mt M x k<mt M i k) (hik:i≠k) (hv:v=mt M i x+mt M x k):Rd n x M0 (M.set (i*13+k) v) i (k+1):=by
 subst hv
 have hl:=h.len
 rw [h.left hc hx hi,h.right hc hx hk,h.here hi hk] at q
 refine ⟨by rw [List.length_set]; exact hl,fun a b ha hb=>?_,fun a ha qd=>h.dg a ha (by unfold bK at qd ⊢; omega)⟩
 rw [ga hl I I I I,h.left hc hx hi,h.right hc hx hk]
 by_cases e:a=i∧b=k
 ·obtain ⟨rfl,rfl⟩:=e
  rw [if_pos ⟨rfl,rfl⟩,if_pos (show bK a (b+1) a b by unfold bK; omega)]
  omega
 ·rw [if_neg e,h.at_ a b ha hb]
  have:bK i k a b↔bK i (k+1) a b:=by unfold bK; omega
  simp only [this]
theorem Rd.done (hc:Cl n x M0) (hx:x<n) (h:Rd n x M0 M n 0):Cl n (x+1) M∧ ∀ a b,a<n→b<n→mt M a b≤mt M0 a b:=by
 have A: ∀ a b,a<n→b<n→mt M a b=min (mt M0 a b) (mt M0 a x+mt M0 x b):=fun a b ha hb=>by rw [h.at_ a b ha hb,if_pos]; unfold bK; omega
 refine ⟨⟨h.len,fun i hi=>?_,fun y hy i k hi hk=>?_,fun i k hi hk=>h.bd hc hx hi hk⟩,fun a b ha hb=>by rw [A a b ha hb]; omega⟩
 ·have:=h.dg i hi (by unfold bK; omega)
  rw [A i i hi hi,hc.dg i hi]; omega
 ·rcases Nat.lt_or_ge y x with c|c
  ·have B:y<n:=by omega
   rw [A i k hi hk,A i y hi B,A y k B hk]
   have C:=hc.cl y c i k hi hk
   have D:=hc.cl y c x k hx hk
   have F:=hc.cl y c i x hi hx
   have E:=hc.cl y c x x hx hx
   rw [hc.dg x hx] at E
   omega
  ·obtain rfl:y=x:=by omega
   have C:=h.left hc hx hi
   have D:=h.right hc hx hk
   rw [C,D,A i k hi hk]; omega
end
/-- two spans of a stretch -/
def gL (two:Bool) (x:aa):ab:=bif two then x.bT else x.bR
/-- no entry is too great, and those of stretches are known -/
structure Wd (n j:Nat) (two:Bool) (ts:List aa) (M:List Int):Prop where
 len:M.length=169
 dg: ∀ i,i<n→mt M i i=0
 bd: ∀ i k,i<n→k<n→ -1073741824≤mt M i k∧mt M i k≤1073741824
 st: ∀ t x,t<j→ts[t]? =some x→mt M t (t+1)≤(gL two x).Hi∧mt M (t+1) t≤ -(gL two x).Lo
section
variable {M:List Int} {n j i k:Nat} {two:Bool} {ts:List aa} {v:Int} {x:aa}
theorem Wd.zero:Wd n 0 two ts (List.replicate 169 0):=⟨List.length_replicate,fun i _=>nj,fun i k _ _=>by rw [nj]; omega,fun t x h=>absurd h (Nat.not_lt_zero _)⟩
/-- an entry for the first time -/
theorem Wd.fill (hn:n≤13) (h:Wd n 0 two ts M) (hi:i<n) (hk:k<n) (hik:i≠k) (hv: -1073741824≤v∧v≤1073741824):Wd n 0 two ts (M.set (i*13+k) v):=by
 have hl:=h.len
 refine ⟨by rw [List.length_set]; exact hl,fun a ha=>?_,fun a b ha hb=>?_,fun t x h=>absurd h (Nat.not_lt_zero _)⟩
 ·rw [ga hl I I I I,if_neg I]; exact h.dg a ha
 ·rw [ga hl I I I I]; split
  ·exact hv
  ·exact h.bd a b ha hb
/-- the span of a stretch -/
theorem Wd.np (hn:n≤13) (h:Wd n j two ts M) (hj:j+1<n) (hx:ts[j]? =some x) {u v:Int} (hu:u=(gL two x).Hi) (hv:v= -(gL two x).Lo) (hb:(-1073741824≤u∧u≤1073741824)∧ -1073741824≤v∧v≤1073741824):
 Wd n (j+1) two ts ((M.set (j*13+(j+1)) u).set ((j+1)*13+j) v):=by
 have hl:=h.len
 have A:(M.set (j*13+(j+1)) u).length=169:=by rw [List.length_set]; exact hl
 have key: ∀ a b,a<n→b<n→mt ((M.set (j*13+(j+1)) u).set ((j+1)*13+j) v) a b=if a=j+1∧b=j then v else if a=j∧b=j+1 then u else mt M a b:=fun a b ha hb=>by
  rw [ga A I I I I,ga hl I I I I]
 refine ⟨by rw [List.length_set]; exact A,fun a ha=>?_,fun a b ha hb=>?_,fun t y ht hy=>?_⟩
 ·rw [key a a ha ha,if_neg I,if_neg I]; exact h.dg a ha
 ·rw [key a b ha hb]; split
  ·omega
  ·split
   ·omega
   ·exact h.bd a b ha hb
 ·rw [key _ _ I I,key _ _ I I]
  by_cases e:t=j
  ·subst e
   rw [hx] at hy; cases hy
   rw [if_neg I,if_pos ⟨rfl,rfl⟩,if_pos ⟨rfl,rfl⟩]; omega
  ·rw [if_neg I,if_neg I,if_neg I,if_neg I]
   exact h.st t y I hy
/-- an entry that gets less -/
theorem Wd.less (hn:n≤13) (h:Wd n j two ts M) (hi:i<n) (hk:k<n) (hj:j<n) (hik:i≠k) {w:Int} (hw: -1073741824≤w) (hv:v=min (mt M i k) w):Wd n j two ts (M.set (i*13+k) v):=by
 have hl:=h.len
 have key: ∀ a b,a<n→b<n→mt (M.set (i*13+k) v) a b≤mt M a b:=fun a b ha hb=>by
  rw [ga hl I I I I]; split
  ·rename_i q; obtain ⟨rfl,rfl⟩:=q; omega
  ·exact Int.le_refl _
 refine ⟨by rw [List.length_set]; exact hl,fun a ha=>?_,fun a b ha hb=>⟨?_,Int.le_trans (key a b ha hb) (h.bd a b ha hb).2⟩,fun t y ht hy=>?_⟩
 ·rw [ga hl I I I I,if_neg I]; exact h.dg a ha
 ·have:=h.bd i k hi hk
  rw [ga hl I I I I]; split
  ·omega
  ·exact (h.bd a b ha hb).1
 ·have A:=h.st t y ht hy
  exact ⟨Int.le_trans (key _ _ I I) A.1,Int.le_trans (key _ _ I I) A.2⟩
theorem Wd.cl (h:Wd n j two ts M):Cl n 0 M:=⟨h.len,h.dg,fun y hy=>absurd hy (Nat.not_lt_zero _),fun i k hi hk=>by have:=h.bd i k hi hk; simpa using this⟩
end
def lM (x y:ab):Prop:=x.Lo≤y.Lo∧y.Lo≤y.Hi∧y.Hi≤x.Hi
/-- of the first stretches one span, or both, is narrower -/
structure dR (p q:Nat) (ts us:List aa):Prop where
 len:us.length=ts.length
 at_: ∀ (j:Nat) x y,ts[j]? =some x→us[j]? =some y→(y.Id=x.Id∧y.aN=x.aN∧y.ax=x.ax∧y.dD=x.dD)∧(if j<p then lM x.bR y.bR else y.bR=x.bR)∧(if j<q then lM x.bT y.bT else y.bT=x.bT)
/-- the square when all is said -/
structure ky (n:Nat) (two:Bool) (ts:List aa) (M:List Int):Prop where
 len:M.length=169
 at_: ∀ t x,ts[t]? =some x→t+1<n→mt M t (t+1)≤(gL two x).Hi∧mt M (t+1) t≤ -(gL two x).Lo∧0≤mt M t (t+1)+mt M (t+1) t
section
variable {M M0:List Int} {n j i k p q:Nat} {two:Bool} {ts us:List aa} {v:Int} {x y:aa}
theorem ky.of (h:Wd n ts.length two ts M0) (hc:Cl n n M) (hl: ∀ a b,a<n→b<n→mt M a b≤mt M0 a b):ky n two ts M:=⟨hc.len,fun t x hx ht=>by
 have B:=h.st t x (av.1 hx).1 hx
 have C:=hl t (t+1) I ht
 have D:=hl (t+1) t ht I
 have A:=hc.cl (t+1) ht t t I I
 rw [hc.dg t I] at A
 omega⟩
theorem dR.zero:dR 0 0 ts ts:=⟨rfl,fun j x y hx hy=>by rw [hx] at hy; cases hy; exact ⟨⟨rfl,rfl,rfl,rfl⟩,by rw [if_neg I],by rw [if_neg I]⟩⟩
theorem dR.sG (h:dR p q ts us) (hx:ts[p]? =some x) (hy:us[p]? =some y) {s:ab} (hs:lM x.bR s):dR (p+1) q ts (us.set p {y with bR:=s}):=by
 have hp:=(av.1 hy).1
 refine ⟨by rw [List.length_set]; exact h.len,fun j a b ha hb=>?_⟩
 by_cases e:j=p
 ·subst e
  rw [List.getElem?_set_self hp] at hb; cases hb
  rw [hx] at ha; cases ha
  have A:=h.at_ j x y hx hy
  exact ⟨A.1,by rw [if_pos I]; exact hs,A.2.2⟩
 ·rw [List.getElem?_set_ne I] at hb
  have A:=h.at_ j a b ha hb
  refine ⟨A.1,?_,A.2.2⟩
  have B:=A.2.1
  by_cases c:j<p
  ·rw [if_pos I]; rw [if_pos c] at B; exact B
  ·rw [if_neg I]; rw [if_neg c] at B; exact B
theorem dR.tm (h:dR p q ts us) (hx:ts[q]? =some x) (hy:us[q]? =some y) {s:ab} (hs:lM x.bT s):dR p (q+1) ts (us.set q {y with bT:=s}):=by
 have hp:=(av.1 hy).1
 refine ⟨by rw [List.length_set]; exact h.len,fun j a b ha hb=>?_⟩
 by_cases e:j=q
 ·subst e
  rw [List.getElem?_set_self hp] at hb; cases hb
  rw [hx] at ha; cases ha
  have A:=h.at_ j x y hx hy
  exact ⟨A.1,A.2.1,by rw [if_pos I]; exact hs⟩
 ·rw [List.getElem?_set_ne I] at hb
  have A:=h.at_ j a b ha hb
  refine ⟨A.1,A.2.1,?_⟩
  have B:=A.2.2
  by_cases c:j<q
  ·rw [if_pos I]; rw [if_pos c] at B; exact B
  ·rw [if_neg I]; rw [if_neg c] at B; exact B
/-- what is left is a track -/
theorem dR.ok (h:dR ts.length ts.length ts us) (hs: ∀ x∈ts,ak x): ∀ y∈us,ak y:=fun y hy=>by
 obtain ⟨j,hj⟩:=List.mem_iff_getElem?.1 hy
 have hl:=h.len
 have F:=(av.1 hj).1
 have hx:ts[j]? =some (ts[j]'I):=cw I
 have G:=hs _ (aA hx)
 have A:=h.at_ j _ y hx hj
 rw [if_pos I,if_pos I] at A
 obtain ⟨⟨B,C,D,E⟩,a,b⟩:=A
 simp only [ak,ay,lM] at *
 rw [B,C,D,E]; omega
theorem gO: ∀ {ts us:List aa} {last:Int},us.length=ts.length→(∀ (j:Nat) x y,ts[j]? =some x→us[j]? =some y→y.Id=x.Id)→(∀ y∈us,ak y)→bf last ts=true→bf last us=true
 |[],[],_,_,_,_,h=>h
 |[],y::us,_,hl,_,_,_=>by simp at hl
 |x::ts,[],_,hl,_,_,_=>by simp at hl
 |x::ts,y::us,last,hl,hid,hok,h=>by
  have e:=hid 0 x y rfl rfl
  simp only [bf,bg,decide_eq_true_eq] at h ⊢
  refine ⟨⟨by rw [e]; exact h.1.1,hok y sm⟩,?_⟩
  rw [e]
  exact gO (by simpa using hl) (fun j a b ha hb=>hid (j+1) a b (by simpa using ha) (by simpa using hb)) (fun z hz=>hok z (by simp [hz])) h.2
theorem dR.qk (h:dR ts.length ts.length ts us) (hs: ∀ x∈ts,ak x) (ht:aG ts=true):aG us=true:=by
 unfold aG at ht ⊢
 rw [bg] at ht ⊢
 exact ⟨by rw [h.len]; exact ht.1,gO h.len (fun j x y hx hy=>(h.at_ j x y hx hy).1.1) (h.ok hs) ht.2⟩
end
end
section
open Go.RowKit
section
variable {E:bV} {ops:Array Oper} {Q:bc} {rest:List Oper} {D:List Deferred} {L:List (Nat×Value)} {C:List ag}
variable {dst:Option Nat} {d:Nat} {ty:TypeId} {ps:String} {af:Array Edge} {g:Option (Nat×Bool)}
theorem lV: ∀ l:List Int,(l.map iC).flatten=l.map (Value.int .i64)
 |[]=>rfl
 |x::l=>by rw [List.map_cons,List.flatten_cons,lV l]; rfl
theorem lO {t:TypeId} {l:List Int} (hg:cS ops L g=true) (hz:tZ E.P t=some (l.map (Value.int .i64))) (hd:Nat.blt d E.n=true) (hm:l.length≤maxLen) (k: ∀ b,RJ E ops Q rest D ((d,.pointer (some ⟨b,0,none⟩))::L) (own (some ⟨b,0,none⟩) l.length t 1 (l.map iC)::C)):
 RJ E ops Q (⟨some d,.alloc t,ty,ps,af,g⟩::rest) D L C:=by
 refine m8 hg hz hd fun b=>?_
 have h:=iJ (E:=E) (ops:=ops) (Q:=Q) (rest:=rest) (D:=D) (L:=(d,.pointer (some ⟨b,0,none⟩))::L) (C:=ct b t (l.map (Value.int .i64))::C) (C':=own (some ⟨b,0,none⟩) (l.map iC).length t 1 (l.map iC)::C) (es:=l.map iC) (sz:=1) 0 rfl
  (fun x hx=>by obtain ⟨y,_,rfl⟩:=aZ.1 hx; rfl) (lV l) (by rw [List.length_map]; exact hm) rfl
 rw [List.length_map] at h
 exact h (k b)
theorem kS {x ix:Operand} {b o o':Nat} {t n e sz k:Nat} {j:Int} (hg:cS ops L g=true) (hx:ev L x=some (.pointer (some ⟨b,o,none⟩))) (hi:ev L ix=some (.int .i64 j)) (ht:aE E.P t=some (n,e,sz)) (hj:j=(k:Int)) (hk:k<n) (ho:o+k*sz=o'):
 SD E ops ⟨dst,.indexAddr t x ix,ty,ps,af,g⟩ D L C (.pointer (some ⟨b,o',none⟩)):=
 br hg sm fun a w A hs=>by
  subst hj
  simp [execOp,A.ev hx,A.ev hi,ef ht _ hk,c_,ho]
theorem cq {x ix:Operand} {a:Addr} {t n e sz k m m':Nat} {j:Int} (hg:cS ops L g=true) (hx:ev L x=some (.pointer (de (some a) m))) (hi:ev L ix=some (.int .i64 j)) (ht:aE E.P t=some (n,e,sz)) (hj:j=(k:Int)) (hk:k<n) (ho:m+k*sz=m'):
 SD E ops ⟨dst,.indexAddr t x ix,ty,ps,af,g⟩ D L C (.pointer (de (some a) m')):=
 br hg sm fun b w A hs=>by
  subst hj ho
  simp [execOp,A.ev hx,A.ev hi,de,ef ht (a.add m) hk,iE]
end
theorem bU {M:List Int} {i k:Nat} (h:M.length=169) (hi:i<13) (hk:k<13):(M.map iC)[i*13+k]? =some (iC (mt M i k)):=by
 rw [cN,uK h hi hk]; rfl
theorem gE {M:List Int} {i:Nat} {v:Int} (h:M.length=169):(M.set i v).length=169:=by rw [List.length_set]; exact h
end
section
open Go.RowKit
set_option linter.unusedSectionVars false
/-- what is asked of keys -/
structure pU (P:Program) (kt:Nat) {K:Type} (kV:K→Value):Prop where
 check: ∀ (e:Bool) (x:K) (w:World),(Instr.checkKey e 10000 kt (kV x)).run P w= .ok () w
 find: ∀ (x:K) (w:World) (es:List MapEntry),(∀ e∈es,∃ k,e.key=kV k)→
  ((Instr.findKey kt (kV x) es).run P w= .ok none w∧ ∀ e∈es,e.key≠kV x)∨ ∃ j e,(Instr.findKey kt (kV x) es).run P w= .ok (some (j,e.val)) w∧es[j]? =some e∧e.key=kV x
 bits: ∀ x,Instr.sameBits 10000 (kV x) (kV x)=true
 inj: ∀ x y,kV x=kV y→x=y
section
variable {K:Type} [DecidableEq K] {kV:K→Value}
def fq {β:Type} (l:List (K×β)) (x:K) (y:β):List (K×β):=if (l.lookup x).isSome then l.map (fun p=>if p.1=x then (x,y) else p) else l++[(x,y)]
def e6 {β:Type} (l:List (K×β)) (x:K):List (K×β):=l.filter fun p=> !decide (p.1=x)
def cG {β γ:Type} (f:β→γ) (l:List (K×β)):List (K×γ):=l.map fun p=>(p.1,f p.2)
theorem iw {β γ:Type} (f:β→γ) (x:K): ∀ l:List (K×β),(cG f l).lookup x=(l.lookup x).map f
 |[]=>rfl
 |p::l=>by
  obtain ⟨k,v⟩:=p
  have ih:=iw f x l
  by_cases h:x=k
  ·subst h; simp [cG,List.lookup]
  ·have:(x==k)=false:=by simpa using h
   simp only [cG,List.map_cons,List.lookup,this] at ih ⊢
   exact ih
theorem mz {β γ:Type} (f:β→γ) (l:List (K×β)) (x:K) (y:β):cG f (fq l x y)=fq (cG f l) x (f y):=by
 unfold fq
 rw [iw,Option.isSome_map]
 split
 ·simp only [cG,List.map_map]
  refine List.map_congr_left fun p _=>?_
  simp only [Function.comp]
  split<;>rfl
 ·simp [cG]
theorem mS {β γ:Type} (f:β→γ) (l:List (K×β)) (x:K):cG f (e6 l x)=e6 (cG f l) x:=by
 unfold e6 cG
 rw [List.filter_map]
 rfl
theorem fI {β:Type} {x:K}: ∀ {l:List (K×β)},l.lookup x=none↔ ∀ p∈l,p.1≠x
 |[]=>by simp
 |p::l=>by
  obtain ⟨k,v⟩:=p
  by_cases h:x=k
  ·subst h; simp [List.lookup]
  ·have hb:(x==k)=false:=by simpa using h
   simp only [List.lookup,hb,bm,forall_eq_or_imp]
   rw [fI (l:=l)]
   exact ⟨fun q=>⟨fun e=>h e.symm,q⟩,fun q=>q.2⟩
theorem iZ {β:Type} {x:K} {y:β}: ∀ {l:List (K×β)},(l.map (·.1)).Nodup→((x,y)∈l↔l.lookup x=some y)
 |[],_=>by simp
 |p::l,hn=>by
  obtain ⟨k,v⟩:=p
  simp only [List.map_cons,List.nodup_cons] at hn
  by_cases h:x=k
  ·subst h
   simp only [List.lookup,beq_self_eq_true,bm,Prod.mk.injEq,true_and,Option.some.injEq]
   constructor
   ·rintro (e|e)
    ·exact e.symm
    ·exact absurd (aZ.2 ⟨_,e,U⟩) hn.1
   ·intro e; exact .inl e.symm
  ·have hb:(x==k)=false:=by simpa using h
   simp only [List.lookup,hb,bm,Prod.mk.injEq,h,false_and,false_or]
   exact iZ hn.2
structure df (kV:K→Value) (es:Array MapEntry) (c:Nat) (m:List (K×Value)):Prop where
 list:es.toList.map (fun (e:MapEntry)=>(e.key,e.val))=m.map (fun p=>(kV p.1,p.2))
 keys:(m.map (·.1)).Nodup
 qx: ∀ e∈es.toList,e.born<c
 born:(es.toList.map (·.born)).Nodup
def nZ (kV:K→Value) (b:Nat) (m:List (K×Value)):ag where
 bL k:=k=b
 wf k:=k=b
 holds w:= ∃ es c,w.heap[b]? =some (.map es c)∧df kV es c m
 wr:=true
 dO _ h:=h
 whole _ _ h:=h
 lt w h k hk:=by obtain ⟨es,c,he,_⟩:=h; exact hk▸bG he
 gI w w' hk h:=by obtain ⟨es,c,he,hm⟩:=h; exact ⟨es,c,(hk b rfl).trans he,hm⟩
theorem df.nil:df kV #[] 0 []:=⟨rfl,List.nodup_nil,sm,List.nodup_nil⟩
theorem df.size {es:Array MapEntry} {c:Nat} {m:List (K×Value)} (h:df kV es c m):es.size=m.length:=by
 have:=congrArg List.length h.list
 simpa using this
theorem mQ {P:Program} {kt:Nat} (hk:pU P kt kV) (x:K): ∀ (es:List MapEntry) (m:List (K×Value)),es.map (fun (e:MapEntry)=>(e.key,e.val))=m.map (fun p=>(kV p.1,p.2))→
 ((∀ e∈es,e.key≠kV x)→m.lookup x=none)∧ ∀ (j:Nat) (e:MapEntry),es[j]? =some e→e.key=kV x→m[j]? =some (x,e.val):=by
 intro es m h
 refine ⟨fun hn=>fI.2 fun p hp e=>?_,fun j e he hx=>?_⟩
 ·have:(kV p.1,p.2)∈es.map (fun (e:MapEntry)=>(e.key,e.val)):=by rw [h]; exact aZ.2 ⟨p,hp,rfl⟩
  obtain ⟨z,hz,B⟩:=aZ.1 this
  simp only [Prod.mk.injEq] at B
  exact hn z hz (by rw [B.1,e])
 ·have A:(es.map (fun (e:MapEntry)=>(e.key,e.val)))[j]? =some (e.key,e.val):=by rw [cN,he]; rfl
  rw [h,cN] at A
  cases hm:m[j]? with
  |none=>simp [hm] at A
  |some p=>
   simp only [hm,Option.map_some,Option.some.injEq,Prod.mk.injEq] at A
   have:=hk.inj _ _ (A.1.trans hx)
   obtain ⟨k,v⟩:=p
   simp only at this A
   rw [this,A.2]
theorem oz {P:Program} {w:World} {kt:Nat} {x:K} {es:Array MapEntry} {c:Nat} {m:List (K×Value)} (hk:pU P kt kV) (h:df kV es c m):
 ((Instr.findKey kt (kV x) es.toList).run P w= .ok none w∧m.lookup x=none)∨
 ∃ j v,(Instr.findKey kt (kV x) es.toList).run P w= .ok (some (j,v)) w∧m[j]? =some (x,v)∧m.lookup x=some v:=by
 obtain ⟨D,E⟩:=mQ hk x es.toList m h.list
 rcases hk.find x w es.toList (fun e he=>by
  have:(e.key,e.val)∈m.map (fun p=>(kV p.1,p.2)):=by rw [← h.list]; exact aZ.2 ⟨e,he,rfl⟩
  obtain ⟨p,_,hp⟩:=aZ.1 this
  simp only [Prod.mk.injEq] at hp
  exact ⟨p.1,hp.1.symm⟩) with ⟨A,B⟩|⟨j,e,A,B,C⟩
 ·exact .inl ⟨A,D B⟩
 ·have:=E j e B C
  exact .inr ⟨j,e.val,A,this,(iZ h.keys).1 (aA this)⟩
theorem jK {P:Program} {w:World} {kt:Nat} {x:K} (hk:pU P kt kV) (e:Bool):(Instr.checkKey e 10000 kt (kV x)).run P w= .ok () w:=hk.check e x w
section
variable {E:bV} {ops:Array Oper} {Q:bc} {rest:List Oper} {D:List Deferred} {L:List (Nat×Value)} {C:List ag}
variable {dst:Option Tmp} {d:Nat} {ty:TypeId} {ps:String} {af:Array Edge} {g:Option (Nat×Bool)}
theorem py {t:TypeId} (hg:cS ops L g=true) (hd:Nat.blt d E.n=true) (k: ∀ b,RJ E ops Q rest D ((d,.map (some b))::L) (nZ kV b []::C)):RJ E ops Q (⟨some d,.makeMap t none,ty,ps,af,g⟩::rest) D L C:=by
 intro a w B hs
 have hd':d<E.n:=by rw [← Nat.blt_eq]; exact hd
 unfold g7
 rw [if_pos (bw B hg)]
 refine cu (v:= .map (some w.heap.size)) (w':=w.alloc (.map #[] 0)) sm ?_ ?_
 ·simp [execOp,Instr.makeMap,newObj,Sem.run]
 ·refine k _ _ _ (B.put hd' _) (hs.grow (bk.alloc no w _) (N:=[nZ kV w.heap.size []]) ⟨fun A hA=>?_,fun A hA b hb=>?_,List.pairwise_singleton _ _⟩)
  ·simp at hA; subst hA; exact ⟨#[],0,heap_alloc_new w _,df.nil⟩
  ·simp at hA; subst hA; exact Nat.le_of_eq (Eq.symm hb)
theorem df.push {es:Array MapEntry} {c:Nat} {m:List (K×Value)} (h:df kV es c m) {x:K} (hx:m.lookup x=none) (v:Value):df kV (es.push {key:=kV x,val:=v,born:=c}) (c+1) (m++[(x,v)]):=by
 refine ⟨by simp [h.list],?_,?_,?_⟩
 ·rw [List.map_append,List.nodup_append]
  refine ⟨h.keys,sm,fun a ha b hb=>?_⟩
  simp at hb; subst hb
  obtain ⟨p,hp,rfl⟩:=aZ.1 ha
  exact fI.1 hx p hp
 ·intro e he
  simp only [Array.toList_push,ee,e8] at he
  rcases he with he|rfl
  ·exact Nat.lt_succ_of_lt (h.qx e he)
  ·exact Nat.lt_succ_self _
 ·simp only [Array.toList_push,List.map_append,List.map_cons,List.map_nil]
  rw [List.nodup_append]
  refine ⟨h.born,sm,fun a ha b hb=>?_⟩
  simp at hb; subst hb
  obtain ⟨p,hp,rfl⟩:=aZ.1 ha
  exact Nat.ne_of_lt (h.qx p hp)
theorem rN {m:List (K×Value)} {j:Nat} {x:K} {v0 v:Value} (hn:(m.map (·.1)).Nodup) (hj:m[j]? =some (x,v0)):m.map (fun p=>if p.1=x then (x,v) else p)=m.set j (x,v):=by
 refine List.ext_getElem? fun i=>?_
 rw [cN,List.getElem?_set]
 by_cases e:j=i
 ·subst e
  have hl:=(av.1 hj).1
  rw [hj]; simp [hl]
 ·rw [if_neg e]
  cases hi:m[i]? with
  |none=>rfl
  |some p=>
   simp only [Option.map_some]
   rw [if_neg]
   intro hp
   have B:(m.map (·.1))[i]? =some x:=by rw [cN,hi]; simp [hp]
   have C:(m.map (·.1))[j]? =some x:=by rw [cN,hj]; rfl
   have A:=(av.1 B).1
   exact e (((List.getElem?_inj A hn).1 (B.trans C.symm)).symm)
theorem df.set {es:Array MapEntry} {c:Nat} {m:List (K×Value)} (h:df kV es c m) {x:K} {j:Nat} {v0:Value} (hj:m[j]? =some (x,v0)) (hx:m.lookup x=some v0) (v:Value):
 df kV (es.modify j fun e=>{e with key:=kV x,val:=v}) c (fq m x v):=by
 have C:fq m x v=m.set j (x,v):=by unfold fq; rw [hx]; simpa using rN h.keys hj
 have hl:=(av.1 hj).1
 have E:=h.size
 have A:j<es.size:=by omega
 have B:(es.modify j fun e=>{e with key:=kV x,val:=v}).toList=es.toList.set j {(es[j]) with key:=kV x,val:=v}:=by
  refine List.ext_getElem? fun i=>?_
  rw [Array.getElem?_toList,Array.getElem?_modify,List.getElem?_set]
  by_cases e:j=i
  ·subst e; simp [A]
  ·simp [e]
 have D:(es.toList.set j {(es[j]) with key:=kV x,val:=v}).map (·.born)=es.toList.map (·.born):=by
  rw [List.map_set]
  refine List.ext_getElem? fun i=>?_
  rw [List.getElem?_set]
  by_cases e:j=i
  ·subst e; simp [A]
  ·rw [if_neg e]
 refine ⟨?_,?_,?_,?_⟩
 ·rw [B,C,List.map_set,List.map_set,h.list]
 ·rw [C,List.map_set]
  have:(m.map (·.1)).set j x=m.map (·.1):=by
   refine List.ext_getElem? fun i=>?_
   rw [List.getElem?_set]
   by_cases e:j=i
   ·subst e; simp [hl]; simpa using (congrArg Prod.fst ((av.1 hj).2)).symm
   ·rw [if_neg e]
  simp only [this]
  exact h.keys
 ·intro e he
  rw [B] at he
  have hb:e.born∈(es.toList.set j {(es[j]) with key:=kV x,val:=v}).map (·.born):=aZ.2 ⟨e,he,rfl⟩
  rw [D] at hb
  obtain ⟨e',he',hq⟩:=aZ.1 hb
  rw [← hq]; exact h.qx e' he'
 ·rw [B,D]; exact h.born
/-- m[x] = y -/
theorem n_ {t kt et:TypeId} {xm xk xv:Operand} {b:Nat} {x:K} {v:Value} {m m':List (K×Value)} {C':List ag} (i:Nat) (hg:cS ops L g=true) (hm:ev L xm=some (.map (some b))) (hk:ev L xk=some (kV x)) (hv:ev L xv=some v)
 (ht:E.P.underlying t=some (.map kt et)) (hkt:pU E.P kt kV) (hC:C[i]? =some (nZ kV b m)) (hm':fq m x v=m') (hC':C.set i (nZ kV b m')=C') (k:RJ E ops Q rest D L C'):
 RJ E ops Q (⟨none,.mapUpdate t xm xk xv,ty,ps,af,g⟩::rest) D L C:=by
 subst hm' hC'
 intro a w A hs
 unfold g7
 rw [if_pos (bw A hg)]
 obtain ⟨es,c,he,hi⟩:=hs.holds _ (aA hC)
 have B:(getObj b).run E.P w= .ok (.map es c) w:=MapKept.run_getObj_map he
 rcases oz (P:=E.P) (w:=w) (x:=x) hkt hi with ⟨AB,F⟩|⟨j,N,AB,F,J⟩
 ·refine gF (w':={w with heap:=w.heap.setIfInBounds b (.map (es.push {key:=kV x,val:=v,born:=c}) (c+1))}) sm ?_ ?_
  ·simp [execOp,A.ev hm,A.ev hk,A.ev hv,Instr.mapUpdate,run_underlying ht,B,jK hkt,AB,MapKept.run_setObj_map _ he]
  ·refine k _ _ ⟨A.defers,A.size,A.at_⟩ (hs.nN (b:=b) i hC U U (ez _) (fun _ h=>h) ⟨_,_,fu he,?_⟩)
   have:fq m x v=m++[(x,v)]:=by unfold fq; rw [F]; rfl
   rw [this]; exact hi.push F v
 ·have M:=hi.size
  have G:j<es.size:=by have:=(av.1 F).1; omega
  have H:(es[j]).key=kV x:=by
   have:=congrArg (fun l=>l[j]?) hi.list
   simp [G,F] at this
   exact this.1
  refine gF (w':={w with heap:=w.heap.setIfInBounds b (.map (es.modify j fun e=>{e with key:=kV x,val:=v}) c)}) sm ?_ ?_
  ·simp [execOp,A.ev hm,A.ev hk,A.ev hv,Instr.mapUpdate,run_underlying ht,B,jK hkt,AB,MapKept.run_setObj_map _ he,Instr.keyThatStays,G,H,hkt.bits x]
  ·exact k _ _ ⟨A.defers,A.size,A.at_⟩ (hs.nN (b:=b) i hC U U (ez _) (fun _ h=>h) ⟨_,_,fu he,hi.set F J v⟩)
end
theorem iD {β:Type} {x:K} {y:β} {l:List (K×β)} (h:(x,y)∈l):(e6 l x).length<l.length:=by
 unfold e6
 exact List.length_filter_lt_length_iff_exists.2 ⟨_,h,sm⟩
theorem oN {es:Array MapEntry} {c:Nat} {m:List (K×Value)} (hinj: ∀ x y,kV x=kV y→x=y) (hi:df kV es c m) {x y:MapEntry} (hx:x∈es.toList) (hy:y∈es.toList) (e:x.key=y.key):x=y:=by
 have hk:(es.toList.map (·.key))=(m.map (·.1)).map kV:=by
  have:=congrArg (List.map Prod.fst) hi.list
  simpa [Function.comp_def] using this
 have h:(es.toList.map (·.key)).Nodup:=by
  rw [hk,List.nodup_iff_pairwise_ne,List.pairwise_map]
  exact hi.keys.imp (fun B he=>B (hinj _ _ he))
 obtain ⟨i,A⟩:=List.getElem?_of_mem hx
 obtain ⟨j,hj⟩:=List.getElem?_of_mem hy
 have C:(es.toList.map (·.key))[i]? =some x.key:=by rw [cN,A]; rfl
 have D:(es.toList.map (·.key))[j]? =some x.key:=by rw [cN,hj,e]; rfl
 have E:=(List.getElem?_inj (av.1 C).1 h).1 (C.trans D.symm)
 subst E
 exact Option.some.inj (A.symm.trans hj)
section
variable {E:bV} {ops:Array Oper} {Q:bc} {rest:List Oper} {D:List Deferred} {L:List (Nat×Value)} {C:List ag}
variable {dst:Option Tmp} {d:Nat} {ty:TypeId} {ps:String} {af:Array Edge} {g:Option (Nat×Bool)}
theorem mK {es:Array MapEntry} {c:Nat} {m left:List (K×Value)} {seen:Array Nat} (hinj: ∀ x y,kV x=kV y→x=y) (hi:df kV es c m) (h:(leftOf es seen).toList.map (fun (e:MapEntry)=>(e.key,e.val))=left.map (fun p=>(kV p.1,p.2))):(left.map (·.1)).Nodup:=by
 have B:((leftOf es seen).toList.map (·.key)).Sublist (es.toList.map (·.key)):=by
  unfold leftOf; rw [Array.toList_filter]; exact List.filter_sublist.map _
 have D:(es.toList.map (·.key))=(m.map (·.1)).map kV:=by
  have:=congrArg (List.map Prod.fst) hi.list
  simpa [Function.comp_def] using this
 have E:((leftOf es seen).toList.map (·.key))=(left.map (·.1)).map kV:=by
  have:=congrArg (List.map Prod.fst) h
  simpa [Function.comp_def] using this
 rw [D,E] at B
 have F:((m.map (·.1)).map kV).Nodup:=by
  rw [List.nodup_iff_pairwise_ne,List.pairwise_map]
  exact hi.keys.imp (fun A he=>A (hinj _ _ he))
 have C:=F.sublist B
 rw [List.nodup_iff_pairwise_ne,List.pairwise_map] at C
 rw [List.nodup_iff_pairwise_ne]
 exact C.imp (fun A he=>A (by rw [he]))
end
end
end
section
def cj (m:al) (n:Nat):Prop:=(1≤m.Kind∧m.Kind≤2)∧(0≤m.aQ∧m.aQ≤(n:Int))∧(0≤m.To∧m.To≤(n:Int))∧m.aQ<m.To∧ay m.a_ 0 360000
instance (m:al) (n:Nat):Decidable (cj m n):=by unfold cj; infer_instance
def dq (l:List al) (n:Nat):Prop:=(l.length:Int)≤12∧ ∀ m∈l,cj m n
instance (l:List al) (n:Nat):Decidable (dq l n):=by unfold dq; infer_instance
def lu (l:List al):List (List Value):=l.mapIdx fun i m=>[.int .i64 (i:Int),.agg (al.cells m).toArray]
section
variable {l:List al} {n i:Nat} {x:al}
theorem ov (h: ∀ m∈l.take i,cj m n) (hx:l[i]? =some x) (hm:cj x n): ∀ m∈l.take (i+1),cj m n:=by
 rw [List.take_add_one,hx]
 intro m hq
 rcases ee.1 hq with hq|hq
 ·exact h m hq
 ·rw [e8.1 hq]; exact hm
theorem fz (hx:l[i]? =some x) (hm: ¬ cj x n): ¬ dq l n:=fun h=>hm (h.2 x (aA hx))
theorem eH (hl:(l.length:Int)≤12) (h: ∀ m∈l.take i,cj m n) (hi:l.length≤i):dq l n:=⟨hl,by rw [List.take_of_length_le hi] at h; exact h⟩
theorem lE:(lu l).length=l.length:=List.length_mapIdx
theorem pz (hx:l[i]? =some x):(lu l)[i]? =some [.int .i64 (i:Int),.agg (al.cells x).toArray]:=by
 unfold lu; rw [List.getElem?_mapIdx,hx]; rfl
theorem l8 {v:List Value} (h:(lu l)[i]? =some v): ∃ x,l[i]? =some x∧v=[.int .i64 (i:Int),.agg (al.cells x).toArray]:=by
 unfold lu at h
 rw [List.getElem?_mapIdx] at h
 cases hx:l[i]? with
 |none=>rw [hx] at h; cases h
 |some x=>rw [hx] at h; exact ⟨x,rfl,(Option.some.inj h).symm⟩
theorem oi: ∀ v∈lu l,v.length=2:=fun v hv=>by
 obtain ⟨i,hi⟩:=List.mem_iff_getElem?.1 hv
 obtain ⟨x,_,rfl⟩:=l8 hi; rfl
end
theorem jD {x:Nat} (h:x≤13):(2:Int)^x≤8192:=by
 have key: ∀ k:Fin 14,(2:Int)^k.val≤8192:=by decide
 exact key ⟨x,I⟩
theorem Rd.s6 {n x i k a b:Nat} {M0 M:List Int} (hn:n≤13) (hc:Cl n x M0) (hx:x<n) (h:Rd n x M0 M i k) (ha:a<n) (hb:b<n): -8796093022208≤mt M a b∧mt M a b≤1073741824:=by
 have A:=h.bd hc hx ha hb
 have B:=jD (x:=x+1) I
 omega
theorem Cl.s6 {n x i k:Nat} {M:List Int} (hx:x≤13) (h:Cl n x M) (hi:i<n) (hk:k<n): -8796093022208≤mt M i k∧mt M i k≤1073741824:=by
 have A:=h.bd i k hi hk
 have B:=jD hx
 omega
theorem il {β:Type} {left l:List (Int×β)} {x:Int} (h: ∀ e∈left,e∈l): ∀ e∈e6 left x,e∈l:=fun e he=>h e (List.mem_filter.1 he).1
theorem pX {β:Type} {l:List (Int×β)} {t:List β} {x:Int} {y:β} (h: ∀ e∈l,e.2∈t) (hy:y∈t): ∀ e∈fq l x y,e.2∈t:=fun e he=>by
 unfold fq at he
 split at he
 ·obtain ⟨p,hp,rfl⟩:=aZ.1 he
  split
  ·exact hy
  ·exact h p hp
 ·rcases ee.1 he with he|he
  ·exact h e he
  ·rw [e8.1 he]; exact hy
end
section
/-- the head at the next mark -/
def jt (h lo fa ru dr we:Int):Int:=max 0 (max 0 (h-h*dr*lo/(100*we))+fa-ru*lo/100)
def aC (s:ah):Prop:=(1≤s.Class∧s.Class≤3)∧ay s.Start 0 200000∧ay s.kO 0 100∧ay s.fw 0 1000∧ay s.Weight 50000 800000∧ay s.dT (-500) 500
instance (s:ah):Decidable (aC s):=by unfold aC; infer_instance
theorem e9 {a b:Int} (h0:0≤a) (h:a≤b):10*a*a≤10*b*b:=by
 have A:=Int.mul_le_mul (show 10*a≤10*b by omega) h h0 I
 exact A
def iH (h r:Int):Prop:=0≤r∧10*r*r≤1962*h∧1962*h<10*(r+1)*(r+1)
theorem kh {h r s:Int} (hr:iH h r) (hs:iH h s):r=s:=by
 obtain ⟨C,D,E⟩:=hr
 obtain ⟨F,G,H⟩:=hs
 rcases Int.lt_trichotomy r s with B|A|B
 ·have:=e9 (a:=r+1) (b:=s) I I; omega
 ·exact A
 ·have:=e9 (a:=s+1) (b:=r) I I; omega
theorem ks {h:Int} (hh:0≤h): ∃ r,iH h r:=by
 obtain ⟨m,rfl⟩:=Int.eq_ofNat_of_zero_le hh
 have key: ∀ k:Nat,(∃ r,iH (m:Int) r)∨10*(k:Int)*k≤1962*(m:Int):=by
  intro k
  induction k with
  |zero=>right; simp; omega
  |succ k ih=>
   rcases ih with A|A
   ·exact .inl A
   ·by_cases B:10*((k+1:Nat):Int)*((k+1:Nat):Int)≤1962*(m:Int)
    ·exact .inr B
    ·left; refine ⟨k,I,A,?_⟩
     have e:((k+1:Nat):Int)=(k:Int)+1:=by omega
     rw [e] at B; omega
 rcases key (1962*m+1) with A|A
 ·exact A
 ·exfalso
  have e:(((1962*m+1:Nat):Int))=1962*(m:Int)+1:=by omega
  rw [e] at A
  have B:10*(1962*(m:Int)+1)*1≤10*(1962*(m:Int)+1)*(1962*(m:Int)+1):=Int.mul_le_mul (Int.le_refl _) I I I
  omega
noncomputable def cE (h:Int):Int:=if hh:0≤h then Classical.choose (ks hh) else 0
theorem ff {h:Int} (hh:0≤h):iH h (cE h):=by
 unfold cE; rw [dif_pos hh]; exact Classical.choose_spec (ks hh)
theorem p6 {h r:Int} (hh:0≤h) (hr:iH h r):cE h=r:=kh (ff hh) hr
theorem j1 {h:Int} (hh:0≤h) (h4:h≤400000):0≤cE h∧cE h≤9000:=by
 obtain ⟨B,D,_⟩:=ff hh
 refine ⟨B,?_⟩
 rcases Int.lt_or_le 9000 (cE h) with C|A
 ·have:=e9 (a:=9000) (b:=cE h) I I; omega
 ·exact A
noncomputable def eU (h:Int):Int:=if 10*cE h*cE h<1962*h then cE h+1 else cE h
theorem qF {h x:Int} (hh:0≤h) (h0:0≤x) (hx:x<cE h+1):decide (1962*h<10*x*x)=false:=by
 obtain ⟨A,B,C⟩:=ff hh
 have:=e9 (a:=x) (b:=cE h) h0 I
 exact bD I
theorem oI {h x:Int} (hh:0≤h) (hx:cE h+1≤x):decide (1962*h<10*x*x)=true:=by
 obtain ⟨A,B,C⟩:=ff hh
 have:=e9 (a:=cE h+1) (b:=x) I hx
 exact dH I
theorem lJ {h:Int} (hh:0≤h) (h4:h≤400000):0≤eU h∧eU h≤9001:=by
 have:=j1 hh h4
 unfold eU; split<;>omega
theorem rB {h x:Int} (hh:0≤h) (h0:0≤x) (hx:x<eU h):decide (1962*h≤10*x*x)=false:=by
 obtain ⟨A,B,C⟩:=ff hh
 unfold eU at hx
 refine bD ?_
 split at hx
 ·have:=e9 (a:=x) (b:=cE h) h0 I; omega
 ·have D:=Int.mul_lt_mul' (show 10*x≤10*cE h by omega) hx h0 I; omega
theorem oQ {h x:Int} (hh:0≤h) (hx:eU h≤x):decide (1962*h≤10*x*x)=true:=by
 obtain ⟨A,B,C⟩:=ff hh
 unfold eU at hx
 refine dH ?_
 split at hx
 ·have:=e9 (a:=cE h+1) (b:=x) I hx; omega
 ·have:=e9 (a:=cE h) (b:=x) A hx; omega
def bM (best f:Bool) (s:ab):Int:=if best=f then s.Hi else s.Lo
def fR (best:Bool) (s:ah) (x:aa) (h:Int):Int:=jt h (bM best false x.bR) (bM best true x.bT) (bM best false s.kO) (bM best false s.fw) (bM best true s.Weight)
def aF (best:Bool) (s:ah) (ts:List aa):Nat→Int
 |0=>bM best true s.Start
 |i+1=>match ts[i]? with
  |some x=>fR best s x (aF best s ts i)
  |none=>aF best s ts i
def bX (best:Bool) (s:ah) (ts:List aa):List Int:=(List.range (ts.length+1)).map (aF best s ts)
theorem bq {best f:Bool} {s:ab} {lo hi:Int} (h:ay s lo hi):lo≤bM best f s∧bM best f s≤hi:=by
 obtain ⟨A,B,C⟩:=h
 unfold bM; split<;>omega
theorem lY {best:Bool} {s:ah} {ts:List aa} {i:Nat} {x:aa} (hx:ts[i]? =some x):aF best s ts (i+1)=fR best s x (aF best s ts i):=by simp [aF,hx]
theorem cC {best:Bool} {s:ah} {ts:List aa} (hs:aC s) (ht: ∀ x∈ts,ak x): ∀ i:Nat,0≤aF best s ts i∧aF best s ts i≤200000+5000*(i:Int):=by
 intro i
 induction i with
 |zero=>have:=bq (best:=best) (f:=true) hs.2.1; simp only [aF]; omega
 |succ i ih=>
  simp only [aF]
  split
  ·rename_i x hx
   have hm:=ht x (aA hx)
   have C:=bq (best:=best) (f:=true) hm.2.2.1
   have D:=bq (best:=best) (f:=false) hm.2.1
   have A:=bq (best:=best) (f:=false) hs.2.2.1
   have B:=bq (best:=best) (f:=false) hs.2.2.2.1
   have E:=bq (best:=best) (f:=true) hs.2.2.2.2.1
   have hq:0≤aF best s ts i*bM best false s.fw*bM best false x.bR/(100*bM best true s.Weight):=
    Int.ediv_nonneg (Int.mul_nonneg (Int.mul_nonneg ih.1 B.1) I) I
   have hr:0≤bM best false s.kO*bM best false x.bR/100:=Int.ediv_nonneg (Int.mul_nonneg A.1 I) I
   unfold fR jt
   omega
  ·omega
/-- what the iterator of heads yields -/
def eY (best:Bool) (s:ah) (ts:List aa):List (List Value):=(List.range (ts.length+1)).map fun (i:Nat)=>[.int .i64 (i:Int),.int .i64 (aF best s ts i)]
theorem fK {best:Bool} {s:ah} {ts:List aa}:(eY best s ts).length=ts.length+1:=by simp [eY]
theorem iP {best:Bool} {s:ah} {ts:List aa} {i:Nat} (h:i≤ts.length):(eY best s ts)[i]? =some [.int .i64 (i:Int),.int .i64 (aF best s ts i)]:=by
 simp [eY,List.getElem?_range (show i<ts.length+1 by omega)]
theorem ku {best:Bool} {s:ah} {ts:List aa} {i:Nat} {x:List Value} (h:(eY best s ts)[i]? =some x):i≤ts.length∧x=[.int .i64 (i:Int),.int .i64 (aF best s ts i)]:=by
 have hi:i<ts.length+1:=by
  have:=(av.1 h).1
  simpa [eY] using this
 rw [iP I] at h
 exact ⟨I,(Option.some.inj h).symm⟩
theorem di {best:Bool} {s:ah} {ts:List aa}:(bX best s ts).length=ts.length+1:=by simp [bX]
theorem fF {best:Bool} {s:ah} {ts:List aa} {i:Nat} (h:i≤ts.length):(bX best s ts)[i]? =some (aF best s ts i):=by
 simp [bX,List.getElem?_range (show i<ts.length+1 by omega)]
theorem l0 {best:Bool} {s:ah} {ts:List aa} {i:Nat} (h:i≤ts.length):(bX best s ts).take (i+1)=(bX best s ts).take i++[aF best s ts i]:=by
 rw [List.take_add_one,fF h]; rfl
theorem n7 {best:Bool} {s:ah} {ts:List aa} {i:Nat} (h:i≤ts.length) (h':ts.length≤i):(eY best s ts)[i]? =some [.int .i64 (ts.length:Int),.int .i64 (aF best s ts i)]:=by
 have e:i=ts.length:=by omega
 rw [iP h,e]
theorem jL {best:Bool} {s:ah} {ts:List aa}:(bX best s ts).take (eY best s ts).length=bX best s ts:=by
 rw [List.take_of_length_le]; rw [fK,di]; exact Nat.le_refl _
theorem jW {best:Bool} {s:ah} {ts:List aa}: ∀ x∈eY best s ts,x.length=2:=by
 intro x hx
 simp only [eY,aZ] at hx
 obtain ⟨i,_,rfl⟩:=hx; rfl
def fB (s:ah) (ts:List aa) (i:Nat):ab:=⟨aF false s ts i,aF true s ts i⟩
def bA (s:ah) (ts:List aa):List ab:=(List.range (ts.length+1)).map (fB s ts)
theorem cO {s:ah} {ts:List aa}:(bA s ts).length=ts.length+1:=by simp [bA]
theorem fP {s:ah} {ts:List aa} {i:Nat} (h:i≤ts.length):(bA s ts)[i]? =some (fB s ts i):=by
 simp [bA,List.getElem?_range (show i<ts.length+1 by omega)]
theorem lN {s:ah} {ts:List aa} {i:Nat} (h:i≤ts.length):(bA s ts).take (i+1)=(bA s ts).take i++[fB s ts i]:=by
 rw [List.take_add_one,fP h]; rfl
theorem jS {s:ah} {ts:List aa}:(bA s ts).take (eY false s ts).length=bA s ts:=by
 rw [List.take_of_length_le]; rw [fK,cO]; exact Nat.le_refl _
def aT (s:ah) (ts:List aa):Int:=if aG ts=true then (if aC s then 0 else 30) else 10
theorem ey {s:ah} {ts:List aa} (h:aG ts=false):aT s ts=10:=by unfold aT; rw [h]; rfl
theorem eG {s:ah} {ts:List aa} (h:aG ts=true) (hs: ¬ aC s):aT s ts=30:=by unfold aT; rw [if_pos h,if_neg hs]
theorem cf {s:ah} {ts:List aa} (h:aG ts=true) (hs:aC s):aT s ts=0:=by unfold aT; rw [if_pos h,if_pos hs]
theorem dV {s:ah} {ts:List aa} (h:aT s ts=0):aG ts=true∧aC s:=by
 unfold aT at h
 split at h
 ·split at h
  ·exact ⟨asm,asm⟩
  ·omega
 ·omega
def gR (s:ah) (ts:List aa):List ab:=if aT s ts=0 then bA s ts else []
theorem fm {s:ah} {ts:List aa} (h:aG ts=true) (hs:aC s):gR s ts=bA s ts:=by unfold gR; rw [if_pos (cf h hs)]
theorem ow {s:ah} {ts:List aa} (h: ¬ aT s ts=0):gR s ts=[]:=by unfold gR; rw [if_neg h]
def gW (s:ah) (ts:List aa) (fW:Int):Int:=if aT s ts=0 then (if 0≤fW∧fW≤ts.length then 0 else 2) else aT s ts
noncomputable def jG (s:ah) (ts:List aa) (fW:Int):ab:=if aT s ts=0∧0≤fW∧fW≤ts.length then ⟨cE (aF false s ts fW.toNat),eU (aF true s ts fW.toNat)⟩ else ⟨0,0⟩
theorem d_ {s:ah} {ts:List aa} {i:Int} (h: ¬ aT s ts=0):jG s ts i=⟨0,0⟩∧gW s ts i=aT s ts:=⟨if_neg (fun q=>h q.1),if_neg h⟩
theorem dC {s:ah} {ts:List aa} {i:Int} (h:aT s ts=0) (hi: ¬ (0≤i∧i≤ts.length)):jG s ts i=⟨0,0⟩∧gW s ts i=2:=⟨if_neg (fun q=>hi q.2),by unfold gW; rw [if_pos h,if_neg hi]⟩
theorem dI {s:ah} {ts:List aa} {i:Int} (h:aT s ts=0) (hi:0≤i∧i≤ts.length):jG s ts i=⟨cE (aF false s ts i.toNat),eU (aF true s ts i.toNat)⟩∧gW s ts i=0:=⟨if_pos ⟨h,hi⟩,by unfold gW; rw [if_pos h,if_pos hi]⟩
/-- the greatest head within a stretch -/
def cL (best:Bool) (s:ah) (ts:List aa) (i:Nat):Int:=max (aF best s ts i) (aF best s ts (i+1))
theorem mN {best:Bool} {s:ah} {ts:List aa} (hs:aC s) (ht: ∀ x∈ts,ak x) {i:Nat} (hi:i≤12):0≤cL best s ts i∧cL best s ts i≤270000:=by
 have A:=cC (best:=best) hs ht i
 have B:=cC (best:=best) hs ht (i+1)
 unfold cL; omega
def dj (best:Bool) (s:ah) (x:aa) (h:Int):Int:=if 10*bM best false x.ax=0 then 0 else 1200*h/(10*bM best false x.ax)+bM best true s.dT
def gd (best:Bool) (s:ah) (ts:List aa) (i:Nat):Int:=match ts[i]? with
 |some x=>dj best s x (cL best s ts i)
 |none=>0
theorem g4 {best:Bool} {s:ah} {ts:List aa} {i:Nat} {x:aa} (h:ts[i]? =some x):gd best s ts i=dj best s x (cL best s ts i):=by unfold gd; rw [h]
def cT (ts:List aa) (j:Nat):Bool:=match ts[j]? with
 |some x=> !decide (x.aN=0)
 |none=>false
theorem dW {ts:List aa} {i:Nat} {x:aa} (h:ts[i]? =some x):cT ts i= !decide (x.aN=0):=by unfold cT; rw [h]
theorem mV {ts:List aa} {i:Nat} (h:ts.length≤i):cT ts i=false:=by unfold cT; rw [List.getElem?_eq_none h]
/-- the heights of all stretches -/
def cc (best:Bool) (s:ah) (ts:List aa):List (Int×Int):=(List.range ts.length).map fun (i:Nat)=>((i:Int),gd best s ts i)
/-- the heights of all stretches from i on, and of the curves ahead of it -/
def du (best:Bool) (s:ah) (ts:List aa) (i:Nat):List (Int×Int):=((List.range ts.length).filter fun j=>decide (i≤j)||cT ts j).map fun (j:Nat)=>((j:Int),gd best s ts j)
theorem fN {f:Nat→Int} {i:Int}: ∀ l:List Nat,(l.map fun (j:Nat)=>((j:Int),f j)).lookup i=if 0≤i∧i.toNat∈l then some (f i.toNat) else none
 |[]=>by simp
 |j::l=>by
  have ih:=fN (f:=f) (i:=i) l
  simp only [List.map_cons]
  by_cases h:i=(j:Int)
  ·subst h; simp [List.lookup]
  ·have hb:(i==(j:Int))=false:=by simpa using h
   simp only [List.lookup,hb,ih,bm]
   by_cases A:0≤i
   ·have: ¬ i.toNat=j:=by omega
    simp [A,this]
   ·simp [A]
theorem lp {best:Bool} {s:ah} {ts:List aa}:(cc best s ts).length=ts.length:=by simp [cc]
theorem kl {best:Bool} {s:ah} {ts:List aa} {i:Nat}:(cc best s ts).take i=(List.range (min i ts.length)).map fun (i:Nat)=>((i:Int),gd best s ts i):=by
 unfold cc; rw [← List.map_take,List.take_range]
theorem nY {best:Bool} {s:ah} {ts:List aa} {i:Nat} (h:i<ts.length):jj ((cc best s ts).take i) (i:Int) (gd best s ts i)=(cc best s ts).take (i+1):=by
 rw [kl,kl,Nat.min_eq_left I,Nat.min_eq_left I,List.range_succ,List.map_append]
 unfold jj
 rw [fN]
 simp
theorem o3 {best:Bool} {s:ah} {ts:List aa} {i:Nat} (h:ts.length≤i):(cc best s ts).take i=du best s ts 0:=by
 rw [List.take_of_length_le (by rw [lp]; exact h)]
 unfold cc du
 rw [List.filter_eq_self.2 (fun j _=>by simp)]
theorem oK {best:Bool} {s:ah} {ts:List aa} {i:Nat} {x:aa} (hx:ts[i]? =some x) (h:x.aN=0):dE (du best s ts i) (i:Int)=du best s ts (i+1):=by
 unfold dE du
 rw [List.filter_map,List.filter_filter]
 refine congrArg _ (List.filter_congr fun j _=>?_)
 simp only [Function.comp]
 have hc:=dW hx
 by_cases e:j=i
 ·subst e; simp [hc,h]
 ·have A: ¬ (j:Int)=(i:Int):=by omega
  have B:(i≤j)↔(i+1≤j):=by omega
  simp [A,B]
theorem kF {best:Bool} {s:ah} {ts:List aa} {i:Nat} {x:aa} (hx:ts[i]? =some x) (h: ¬ x.aN=0):du best s ts i=du best s ts (i+1):=by
 unfold du
 refine congrArg _ (List.filter_congr fun j _=>?_)
 have hc:=dW hx
 by_cases e:j=i
 ·subst e; simp [hc,h]
 ·have A:(i≤j)↔(i+1≤j):=by omega
  simp [A]
def eb (ts:List aa) (i:Int):Bool:=decide (0≤i)&&cT ts i.toNat
theorem jd {best:Bool} {s:ah} {ts:List aa} {i:Int} {n:Nat} (hn:ts.length≤n):(du best s ts n).lookup i=if eb ts i=true then some (gd best s ts i.toNat) else none:=by
 unfold du
 rw [fN]
 unfold eb
 by_cases A:0≤i
 ·by_cases B:i.toNat<ts.length
  ·have: ¬ n≤i.toNat:=by omega
   simp [A,B,this]
  ·have:=mV (ts:=ts) (i:=i.toNat) I
   simp [A,B,this]
 ·simp [A]
theorem nP {ts:List aa} {i:Int} {x:aa} (h0:0≤i) (hx:ts[i.toNat]? =some x):eb ts i= !decide (x.aN=0):=by unfold eb; rw [dW hx,dH h0]; rfl
def dm (s:ah) (ts:List aa) (i:Int):Int:=if aT s ts=0 then (if eb ts i=true then 0 else 2) else aT s ts
def dn (s:ah) (ts:List aa) (i:Int):ab:=if aT s ts=0∧eb ts i=true then ⟨gd false s ts i.toNat,gd true s ts i.toNat⟩ else ⟨0,0⟩
theorem gD {s:ah} {ts:List aa} {i:Int} (h: ¬ aT s ts=0):dn s ts i=⟨0,0⟩∧dm s ts i=aT s ts:=⟨if_neg (fun q=>h q.1),if_neg h⟩
theorem fC {s:ah} {ts:List aa} {i:Int} (h:aT s ts=0) (hi:eb ts i=false):dn s ts i=⟨0,0⟩∧dm s ts i=2:=⟨if_neg (fun q=>by rw [hi] at q; cases q.2),by unfold dm; rw [if_pos h,hi]; rfl⟩
theorem er {s:ah} {ts:List aa} {i:Int} (h:aT s ts=0) (hi:eb ts i=true):dn s ts i=⟨gd false s ts i.toNat,gd true s ts i.toNat⟩∧dm s ts i=0:=⟨if_pos ⟨h,hi⟩,by unfold dm; rw [if_pos h,if_pos hi]⟩
theorem mY {best:Bool} {s:ah} {ts:List aa} {i:Int}:((du best s ts ts.length).lookup i).isSome=eb ts i:=by
 rw [jd (Nat.le_refl _)]
 cases eb ts i<;>rfl
theorem h_ {best:Bool} {s:ah} {ts:List aa} {i:Int} (h:eb ts i=true):((du best s ts ts.length).lookup i).getD 0=gd best s ts i.toNat:=by
 rw [jd (Nat.le_refl _),if_pos h]; rfl
theorem nh {s:ah} {ts:List aa} {i:Nat} {x:aa} (hx:ts[i]? =some x) (hr:0<x.ax.Hi):gd false s ts i=1200*cL false s ts i/(10*x.ax.Hi)+s.dT.Lo:=by
 rw [g4 hx]; unfold dj
 rw [if_neg (by simp only [bM,if_true]; omega)]; rfl
theorem l4 {s:ah} {ts:List aa} {i:Nat} {x:aa} (hx:ts[i]? =some x) (hr:0<x.ax.Lo):gd true s ts i=1200*cL true s ts i/(10*x.ax.Lo)+s.dT.Hi:=by
 rw [g4 hx]; unfold dj
 rw [if_neg (by simp only [bM,Bool.true_eq_false,if_false]; omega)]; rfl
theorem l9 {best f:Bool} {x:aa} (h:ak x):0≤bM best f x.ax∧bM best f x.ax≤20000:=by
 obtain ⟨_,_,_,_,h⟩:=h
 simp only [ay] at h
 unfold bM; split<;>omega
theorem jB {x:aa} (h:ak x) (hc: ¬ x.aN=0):(500≤x.ax.Lo∧x.ax.Lo≤20000)∧500≤x.ax.Hi∧x.ax.Hi≤20000:=by
 obtain ⟨_,_,_,_,h⟩:=h
 simp only [ay] at h
 omega
theorem ql {best:Bool} {s:ah} {ts:List aa} {i:Nat} {a b:Int} (ha:a=aF best s ts i) (hb:b=aF best s ts (i+1)):max a b=cL best s ts i:=by rw [ha,hb]; rfl
end
section
def iQ (ts:List aa) (j:Nat):Int:=match ts[j]? with
 |some x=>x.dD
 |none=>0
theorem dU {ts:List aa} {j:Nat} {x:aa} (h:ts[j]? =some x):iQ ts j=x.dD:=by unfold iQ; rw [h]
def fc (best:Bool) (s:ah) (ts:List aa) (j:Nat):Bool:=cT ts j&&decide (iQ ts j<gd best s ts j)
/-- the curves that throw a sled -/
def en (best:Bool) (s:ah) (ts:List aa):List Int:=((List.range ts.length).filter (fc best s ts)).map fun (j:Nat)=>(j:Int)
def iR (ts:List aa) (p:Int×Int):Bool:=decide (iQ ts p.1.toNat<p.2)
theorem nL {best:Bool} {s:ah} {ts:List aa}:((du best s ts ts.length).filter (iR ts)).map (·.1)=en best s ts:=by
 unfold du en
 rw [List.filter_map,List.map_map,List.filter_filter]
 have:(List.range ts.length).filter (fun a=>(iR ts∘fun (j:Nat)=>((j:Int),gd best s ts j)) a&&(decide (ts.length≤a)||cT ts a))=(List.range ts.length).filter (fc best s ts):=by
  refine List.filter_congr fun j hj=>?_
  have hl:j<ts.length:=by simpa using hj
  have: ¬ ts.length≤j:=by omega
  simp only [Function.comp,iR,fc,Int.toNat_natCast,bD this,Bool.false_or]
  rw [Bool.and_comm]
 rw [this]
 rfl
theorem qg {best:Bool} {s:ah} {ts:List aa} {x y:Int} (h:(x,y)∈du best s ts ts.length):0≤x∧x<ts.length∧cT ts x.toNat=true∧y=gd best s ts x.toNat:=by
 unfold du at h
 obtain ⟨j,hj,he⟩:=aZ.1 h
 simp only [Prod.mk.injEq] at he
 obtain ⟨rfl,rfl⟩:=he
 rw [List.mem_filter] at hj
 have hl:j<ts.length:=by simpa using hj.1
 have A: ¬ ts.length≤j:=by omega
 have:=hj.2
 simp only [bD A,Bool.false_or] at this
 exact ⟨I,I,by simpa using this,sm⟩
theorem iI {β:Type} {x:Int} {y:β}: ∀ {l:List (Int×β)},(x,y)∈l→(l.map (·.1)).Nodup→l.Perm ((x,y)::dE l x)
 |[],h,_=>by cases h
 |p::l,h,hn=>by
  simp only [List.map_cons,List.nodup_cons] at hn
  rcases bm.1 h with rfl|h
  ·have:dE ((x,y)::l) x=l:=by
    unfold dE
    rw [List.filter_cons_of_neg sm]
    refine List.filter_eq_self.2 fun q hq=>?_
    have:q.1≠x:=fun e=>hn.1 (aZ.2 ⟨q,hq,e⟩)
    simpa using this
   rw [this]
  ·have A:p.1≠x:=fun e=>hn.1 (aZ.2 ⟨_,h,e.symm⟩)
   have:dE (p::l) x=p::dE l x:=by unfold dE; rw [List.filter_cons_of_pos (by simpa using A)]
   rw [this]
   exact ((iI h hn.2).cons p).trans (List.Perm.swap _ _ _)
theorem mZ {ts:List aa} {acc T:List Int} {left:List (Int×Int)} {x y:Int} (h:(acc++(left.filter (iR ts)).map (·.1)).Perm T) (hm:(x,y)∈left) (hn:(left.map (·.1)).Nodup) (ht:iQ ts x.toNat<y):
 ((acc++[x])++((dE left x).filter (iR ts)).map (·.1)).Perm T:=by
 refine List.Perm.trans ?_ h
 rw [List.append_assoc]
 refine List.Perm.append_left acc ?_
 have:=((iI hm hn).filter (iR ts)).map (·.1)
 rw [List.filter_cons_of_pos (by simpa [iR] using ht)] at this
 exact this.symm
theorem nx {ts:List aa} {acc T:List Int} {left:List (Int×Int)} {x y:Int} (h:(acc++(left.filter (iR ts)).map (·.1)).Perm T) (hm:(x,y)∈left) (hn:(left.map (·.1)).Nodup) (ht: ¬ iQ ts x.toNat<y):
 (acc++((dE left x).filter (iR ts)).map (·.1)).Perm T:=by
 refine List.Perm.trans ?_ h
 refine List.Perm.append_left acc ?_
 have:=((iI hm hn).filter (iR ts)).map (·.1)
 rw [List.filter_cons_of_neg (by simpa [iR] using ht)] at this
 exact this.symm
theorem pD {best:Bool} {s:ah} {ts:List aa}:(en best s ts).length≤ts.length:=by
 unfold en
 rw [List.length_map]
 exact Nat.le_trans (List.length_filter_le _ _) sm
theorem qf {best:Bool} {s:ah} {ts:List aa} {acc r:List Int} (h:(acc++r).Perm (en best s ts)):acc.length≤ts.length:=by
 have A:=h.length_eq
 have B:=pD (best:=best) (s:=s) (ts:=ts)
 rw [List.length_append] at A
 omega
theorem mW {best:Bool} {s:ah} {ts:List aa}:(en best s ts).Pairwise (· ≤ ·):=by
 unfold en
 rw [List.pairwise_map]
 refine (List.pairwise_lt_range.filter _).imp fun h=>?_
 omega
def r6 (best:Bool) (s:ah) (ts:List aa) (i:Nat):Prop:= ∀ j,j<i→fc best s ts j=false
theorem gC {best:Bool} {s:ah} {ts:List aa}:en best s ts=[]↔r6 best s ts ts.length:=by
 unfold en r6
 rw [List.map_eq_nil_iff,List.filter_eq_nil_iff]
 constructor
 ·intro h j hj
  have:=h j (by simpa using hj)
  simpa using this
 ·intro h j hj
  rw [h j (by simpa using hj)]; simp
/-- how safe a sled is -/
def fV (s:ah) (ts:List aa):Int:=if en false s ts=[] then (if en true s ts=[] then 2 else 1) else 0
theorem eM {s:ah} {ts:List aa} (h: ¬ en false s ts=[]):fV s ts=0:=if_neg h
theorem gu {s:ah} {ts:List aa} (h:en false s ts=[]) (h': ¬ en true s ts=[]):fV s ts=1:=by unfold fV; rw [if_pos h,if_neg h']
theorem fp {s:ah} {ts:List aa} (h:en false s ts=[]) (h':en true s ts=[]):fV s ts=2:=by unfold fV; rw [if_pos h,if_pos h']
def gN (s:ah) (ts:List aa):Int:=if aT s ts=0 then fV s ts else 0
theorem lR {s:ah} {ts:List aa} (h: ¬ aT s ts=0):gN s ts=0:=if_neg h
theorem cD {s:ah} {ts:List aa} (h:aT s ts=0):gN s ts=fV s ts:=if_pos h
theorem iT {l:List Int} (h:0<(l.length:Int)): ¬ l=[]:=fun e=>by rw [e] at h; simp at h
theorem fG {l:List Int} (h: ¬ 0<(l.length:Int)):l=[]:=ic I
end
section
theorem kq (p:Int→Bool) (n:Nat): ∃ r:Int,r=((List.range n).findIdx fun (k:Nat)=>p (k:Int):Nat):=⟨_,rfl⟩
noncomputable def eF (p:Int→Bool) (n:Nat):Int:=Classical.choose (kq p n)
theorem gZ (p:Int→Bool) (n:Nat):eF p n=((List.range n).findIdx fun (k:Nat)=>p (k:Int):Nat):=Classical.choose_spec (kq p n)
theorem f_ {p:Int→Bool} {n:Nat}:0≤eF p n∧eF p n≤n:=by
 rw [gZ]
 have:=List.findIdx_le_length (xs:=List.range n) (p:=fun (k:Nat)=>p (k:Int))
 rw [List.length_range] at this
 omega
theorem gv {p:Int→Bool} {n:Nat} {x:Int} (h0:0≤x) (h:x<eF p n):p x=false:=by
 have hb:=f_ (p:=p) (n:=n)
 rw [gZ] at h
 have B:x.toNat<(List.range n).findIdx fun (k:Nat)=>p (k:Int):=by omega
 have A:=List.not_of_lt_findIdx B
 simp only [List.getElem_range] at A
 rw [show (x.toNat:Int)=x by omega] at A
 simpa using A
theorem kj {p:Int→Bool} {n:Nat} (h:eF p n<n):p (eF p n)=true:=by
 rw [gZ] at h ⊢
 have A:((List.range n).findIdx fun (k:Nat)=>p (k:Int))<(List.range n).length:=by rw [List.length_range]; omega
 have:=List.findIdx_getElem (w:=A)
 simpa using this
def sy (p:Int→Bool):Prop:= ∀ a b:Int,0≤a→a≤b→p a=true→p b=true
theorem jw {p:Int→Bool} {n:Nat} (hm:sy p) {x:Int} (h:eF p n≤x) (hx:x<n):p x=true:=
 hm _ x f_.1 h (kj I)
theorem kB {p:Int→Bool} {n:Nat} {r:Int} (h0:0≤r) (hn:r<n) (hr:p r=true) (hb: ∀ x,0≤x→x<r→p x=false):eF p n=r:=by
 have A:=f_ (p:=p) (n:=n)
 rcases Int.lt_trichotomy (eF p n) r with h|h|h
 ·have:=hb _ A.1 h
  have e:=kj (p:=p) (n:=n) I
  rw [e] at this; cases this
 ·exact h
 ·have:=gv h0 h
  rw [hr] at this; cases this
theorem g8 {a w w':Int} (ha:0≤a) (hw:0<w) (h:w≤w'):a/w'≤a/w:=by
 have hw':0<w':=by omega
 rw [Int.le_ediv_iff_mul_le hw]
 have A:0≤a/w':=Int.ediv_nonneg ha I
 exact Int.le_trans (Int.mul_le_mul_of_nonneg_left h A) (Int.ediv_mul_le a I)
end
section
theorem oj {h h' k w:Int} (h0:0≤h) (hh:h≤h') (hk:0≤k) (hw:0<w):max 0 (h-h*k/w)≤max 0 (h'-h'*k/w):=by
 rcases Int.le_total k w with A|A
 ·have B:h'*k≤h*k+(h'-h)*w:=by
   have e:h'*k=h*k+(h'-h)*k:=by rw [← Int.add_mul]; congr 1; omega
   rw [e]
   exact Int.add_le_add_left (Int.mul_le_mul_of_nonneg_left A I) _
  have C:=Int.ediv_le_ediv hw B
  rw [Int.add_mul_ediv_right _ _ (Int.ne_of_gt hw)] at C
  omega
 ·have B:h*w≤h*k:=Int.mul_le_mul_of_nonneg_left A h0
  have C:=Int.ediv_le_ediv hw B
  rw [Int.mul_ediv_cancel _ (Int.ne_of_gt hw)] at C
  omega
theorem fy {h h' lo lo' fa fa' ru ru' dr dr' we we':Int} (h0:0≤h) (hh:h≤h') (hlo0:0≤lo') (hlo:lo'≤lo) (hfa:fa≤fa') (hru0:0≤ru') (hru:ru'≤ru) (hdr0:0≤dr') (hdr:dr'≤dr) (hwe0:0<we) (hwe:we≤we'):
 jt h lo fa ru dr we≤jt h' lo' fa' ru' dr' we':=by
 unfold jt
 have hk:dr'*lo'≤dr*lo:=Int.mul_le_mul hdr hlo hlo0 I
 have A:0≤dr'*lo':=Int.mul_nonneg hdr0 hlo0
 have B:h*(dr'*lo')/(100*we')≤h*(dr*lo)/(100*we):=
  Int.le_trans (g8 (Int.mul_nonneg h0 A) I I) (Int.ediv_le_ediv I (Int.mul_le_mul_of_nonneg_left hk h0))
 have C:=oj (k:=dr'*lo') (w:=100*we') h0 hh A I
 have D:ru'*lo'/100≤ru*lo/100:=Int.ediv_le_ediv I (Int.mul_le_mul hru hlo hlo0 I)
 rw [Int.mul_assoc h,Int.mul_assoc h']
 omega
theorem kx {b b':Bool} {s s':ah} {ts:List aa} (h0:bM b true s.Start≤bM b' true s'.Start) (hn: ∀ i,0≤aF b s ts i) (hs: ∀ x∈ts,∀ h h',0≤h→h≤h'→fR b s x h≤fR b' s' x h'): ∀ i,aF b s ts i≤aF b' s' ts i:=by
 intro i
 induction i with
 |zero=>exact h0
 |succ i ih=>
  simp only [aF]
  cases hx:ts[i]? with
  |none=>exact ih
  |some x=>exact hs x (aA hx) _ _ (hn i) ih
theorem eB {s:ab} {lo hi:Int} (h:ay s lo hi):bM false true s≤bM true true s∧bM true false s≤bM false false s:=by
 have:=h.1
 simp only [bM]
 constructor<;>simp <;>omega
theorem lB {s:ah} {ts:List aa} (hs:aC s) (ht: ∀ x∈ts,ak x) (i:Nat):aF false s ts i≤aF true s ts i:=by
 refine kx (eB hs.2.1).1 (fun i=>(cC hs ht i).1) (fun x hx h h' A hh=>?_) i
 have hm:=ht x hx
 unfold fR
 have C:=bq (best:=true) (f:=false) hm.2.1
 have D:=bq (best:=true) (f:=false) hs.2.2.1
 have B:=bq (best:=true) (f:=false) hs.2.2.2.1
 have E:=bq (best:=false) (f:=true) hs.2.2.2.2.1
 exact fy A hh I (eB hm.2.1).2 (eB hm.2.2.1).1 I (eB hs.2.2.1).2 I (eB hs.2.2.2.1).2 I (eB hs.2.2.2.2.1).1
theorem lj {s:ah} {ts:List aa} (hs:aC s) (ht: ∀ x∈ts,ak x) (i:Nat):cL false s ts i≤cL true s ts i:=by
 have A:=lB hs ht i
 have B:=lB hs ht (i+1)
 unfold cL; omega
theorem j8 {b:Bool} {s:ah} {x:aa} (hx:ak x) {h h':Int} (hh:h≤h'):dj b s x h≤dj b s x h':=by
 have hr:=l9 (best:=b) (f:=false) hx
 unfold dj
 split
 ·omega
 ·have:=Int.ediv_le_ediv (show 0<10*bM b false x.ax by omega) (show 1200*h≤1200*h' by omega)
  omega
theorem ki {s:ah} {x:aa} (hs:aC s) (hx:ak x) (hc: ¬ x.aN=0) {h h':Int} (h0:0≤h) (hh:h≤h'):dj false s x h≤dj true s x h':=by
 have hr:=jB hx hc
 have hq:=hx.2.2.2.2
 simp only [ay] at hq
 have C:=(eB hs.2.2.2.2.2).1
 have A:bM false false x.ax=x.ax.Hi:=rfl
 have B:bM true false x.ax=x.ax.Lo:=rfl
 unfold dj
 rw [A,B,if_neg I,if_neg I]
 have D:1200*h/(10*x.ax.Hi)≤1200*h/(10*x.ax.Lo):=g8 I I I
 have E:1200*h/(10*x.ax.Lo)≤1200*h'/(10*x.ax.Lo):=Int.ediv_le_ediv I I
 omega
theorem j5 {ts:List aa} {j:Nat} (h:cT ts j=true): ∃ x,ts[j]? =some x∧ ¬ x.aN=0:=by
 unfold cT at h
 split at h
 ·rename_i x hx; exact ⟨x,hx,by simpa using h⟩
 ·cases h
theorem kR {s:ah} {ts:List aa} (hs:aC s) (ht: ∀ x∈ts,ak x) (j:Nat) (h:fc false s ts j=true):fc true s ts j=true:=by
 unfold fc at h ⊢
 simp only [bg,decide_eq_true_eq] at h ⊢
 obtain ⟨x,hx,hc⟩:=j5 h.1
 refine ⟨h.1,Int.lt_of_lt_of_le h.2 ?_⟩
 rw [g4 hx,g4 hx]
 have A:0≤cL false s ts j:=by have:=(cC (best:=false) hs ht j).1; unfold cL; omega
 exact ki hs (ht x (aA hx)) hc A (lj hs ht j)
theorem lD {s:ah} {ts:List aa} (hs:aC s) (ht: ∀ x∈ts,ak x) (h:en true s ts=[]):en false s ts=[]:=by
 rw [gC] at h ⊢
 intro j hj
 cases hb:fc false s ts j with
 |false=>rfl
 |true=>have:=h j hj; rw [kR hs ht j hb] at this; cases this
theorem pt {s:ah} {ts:List aa} (hs:aC s) (ht: ∀ x∈ts,ak x):fV s ts=2↔en true s ts=[]:=by
 constructor
 ·intro h
  unfold fV at h
  by_cases A:en false s ts=[]
  ·rw [if_pos A] at h
   by_cases B:en true s ts=[]
   ·exact B
   ·rw [if_neg B] at h; omega
  ·rw [if_neg A] at h; omega
 ·intro h; exact fp (lD hs ht h) h
def iy (s:ah) (x:aa) (h:Int):Bool:=decide (x.dD<dj true s x h)
theorem js {s:ah} {x:aa} (hx:ak x):sy (iy s x):=fun a b _ A h=>by
 unfold iy at h ⊢
 have:=j8 (b:=true) (s:=s) hx A
 simp only [decide_eq_true_eq] at h ⊢
 omega
theorem mE {s:ah} {x:aa} (hx:ak x) {m:Int} (h:iy s x m=false): ∀ y,0≤y→y<m+1→iy s x y=false:=fun y A B=>by
 cases hp:iy s x y with
 |false=>rfl
 |true=>have:=js hx y m A I hp; rw [h] at this; cases this
noncomputable def je (s:ah) (x:aa):Int:=eF (iy s x) 1048576
theorem s_ {best:Bool} {s:ah} {ts:List aa} {k:Int} (h:(en best s ts)[0]? =some k):0≤k∧k<ts.length∧fc best s ts k.toNat=true:=by
 have hm:=aA h
 unfold en at hm
 obtain ⟨j,hj,rfl⟩:=aZ.1 hm
 rw [List.mem_filter] at hj
 have:=List.mem_range.1 hj.1
 exact ⟨I,I,by simpa using hj.2⟩
theorem oW {best:Bool} {s:ah} {ts:List aa} {i:Nat} {x:aa} (hx:ts[i]? =some x) (h:fc best s ts i=true): ¬ x.aN=0∧x.dD<gd best s ts i:=by
 unfold fc at h
 rw [dW hx,dU hx] at h
 simpa using h
/-- the head with which a sled is thrown first is no more than the greatest one -/
theorem pP {s:ah} {ts:List aa} {i:Nat} {x:aa} (hx:ts[i]? =some x) (h:fc true s ts i=true):iy s x (cL true s ts i)=true:=by
 have:=(oW hx h).2
 rw [g4 hx] at this
 exact dH this
theorem ph {s:ah} {ts:List aa} {i:Nat} {x:aa} (hs:aC s) (ht: ∀ x∈ts,ak x) (hi:i≤12) (hx:ts[i]? =some x) (h:fc true s ts i=true):0≤je s x∧je s x≤cL true s ts i:=by
 have hb:=mN (best:=true) hs ht hi
 refine ⟨f_.1,?_⟩
 rcases Int.lt_or_le (cL true s ts i) (je s x) with A|A
 ·have:=gv hb.1 A
  rw [pP hx h] at this; cases this
 ·exact A
noncomputable def eL (s:ah) (ts:List aa):Int:=if aT s ts=0 then ((en true s ts)[0]?).getD 0 else 0
noncomputable def eN (s:ah) (ts:List aa):Int:=if aT s ts=0 then (match (en true s ts)[0]? with
 |some k=>(match ts[k.toNat]? with
  |some x=>cE (je s x)
  |none=>0)
 |none=>0) else 0
noncomputable def eE (s:ah) (ts:List aa):Int:=if aT s ts=0 then (if en true s ts=[] then 6 else 0) else aT s ts
theorem fr {s:ah} {ts:List aa} (h: ¬ aT s ts=0):eL s ts=0∧eN s ts=0∧eE s ts=aT s ts:=⟨if_neg h,if_neg h,if_neg h⟩
theorem jz {s:ah} {ts:List aa} (h:aT s ts=0) (hn:en true s ts=[]):eL s ts=0∧eN s ts=0∧eE s ts=6:=by
 refine ⟨?_,?_,?_⟩
 ·unfold eL; rw [if_pos h,hn]; rfl
 ·unfold eN; rw [if_pos h,hn]; rfl
 ·unfold eE; rw [if_pos h,if_pos hn]
theorem gX {s:ah} {ts:List aa} {k:Int} {x:aa} (h:aT s ts=0) (hk:(en true s ts)[0]? =some k) (hx:ts[k.toNat]? =some x):eL s ts=k∧eN s ts=cE (je s x)∧eE s ts=0:=by
 refine ⟨?_,?_,?_⟩
 ·unfold eL; rw [if_pos h,hk]; rfl
 ·unfold eN; rw [if_pos h,hk]; simp only [hx]
 ·unfold eE; rw [if_pos h,if_neg (fun e=>by rw [e] at hk; cases hk)]
def dA (s:ah) (h:Int):ah:={s with Start:=⟨0,h⟩}
theorem o_ {s:ah} {h:Int} (hs:aC s) (h0:0≤h) (h1:h≤200000):aC (dA s h):=
 ⟨hs.1,⟨by simpa [dA] using h0,by simp [dA],by simpa [dA] using h1⟩,hs.2.2⟩
def ec (s:ah) (ts:List aa) (h:Int):Bool:= !decide (en true (dA s h) ts=[])
theorem kD {s:ah} {ts:List aa} (hs:aC s) (ht: ∀ x∈ts,ak x) {a b:Int} (h0:0≤a) (hab:a≤b) (i:Nat):0≤aF true (dA s a) ts i∧aF true (dA s a) ts i≤aF true (dA s b) ts i:=by
 have step: ∀ x∈ts,∀ h h',0≤h→h≤h'→fR true (dA s a) x h≤fR true (dA s b) x h':=fun x hx h h' h0 hh=>by
  have hm:=ht x hx
  have C:=bq (best:=true) (f:=false) hm.2.1
  have B:=bq (best:=true) (f:=false) hs.2.2.1
  have A:=bq (best:=true) (f:=false) hs.2.2.2.1
  have D:=bq (best:=true) (f:=true) hs.2.2.2.2.1
  unfold fR
  exact fy h0 hh I (Int.le_refl _) (Int.le_refl _) B.1 (Int.le_refl _) A.1 (Int.le_refl _) (show 0<bM true true s.Weight by omega) (Int.le_refl _)
 have nn: ∀ i,0≤aF true (dA s a) ts i:=fun i=>by
  induction i with
  |zero=>simpa [aF,dA,bM] using h0
  |succ i ih=>
   simp only [aF]
   cases ts[i]? with
   |none=>exact ih
   |some x=>simp only [fR,jt]; omega
 exact ⟨nn i,kx (by simpa [dA,bM] using hab) nn step i⟩
theorem iU {s:ah} {ts:List aa} (hs:aC s) (ht: ∀ x∈ts,ak x):sy (ec s ts):=fun a b C A h=>by
 unfold ec at h ⊢
 simp only [Bool.not_eq_true',decide_eq_false_iff_not] at h ⊢
 intro e
 refine h ?_
 rw [gC] at e ⊢
 intro j hj
 have:=e j hj
 unfold fc at this ⊢
 cases hc:cT ts j with
 |false=>rfl
 |true=>
  rw [hc,Bool.true_and,decide_eq_false_iff_not] at this
  rw [Bool.true_and,decide_eq_false_iff_not]
  obtain ⟨x,hx,_⟩:=j5 hc
  rw [g4 hx] at this ⊢
  have E:=(kD hs ht C A j).2
  have F:=(kD hs ht C A (j+1)).2
  have B:cL true (dA s a) ts j≤cL true (dA s b) ts j:=by unfold cL; omega
  have G:=j8 (b:=true) (s:=s) (ht x (aA hx)) B
  have D: ∀ h z,dj true (dA s h) x z=dj true s x z:=fun h z=>rfl
  rw [D] at this ⊢
  omega
noncomputable def fb (s:ah) (ts:List aa):Int:=eF (ec s ts) 200001
noncomputable def eK (s:ah) (ts:List aa):Int:=if aT s ts=0 then (if fb s ts=0 then 0 else fb s ts-1) else 0
noncomputable def eJ (s:ah) (ts:List aa):Int:=if aT s ts=0 then (if fb s ts=0 then 6 else 0) else aT s ts
theorem hU {s:ah} {ts:List aa} (h: ¬ aT s ts=0):eK s ts=0∧eJ s ts=aT s ts:=⟨if_neg h,if_neg h⟩
theorem jv {s:ah} {ts:List aa} (h:aT s ts=0) (hn:fb s ts=0):eK s ts=0∧eJ s ts=6:=by
 unfold eK eJ; rw [if_pos h,if_pos h,if_pos hn,if_pos hn]; exact ⟨rfl,rfl⟩
theorem gT {s:ah} {ts:List aa} (h:aT s ts=0) (hn: ¬ fb s ts=0):eK s ts=fb s ts-1∧eJ s ts=0:=by
 unfold eK eJ; rw [if_pos h,if_pos h,if_neg hn,if_neg hn]; exact ⟨rfl,rfl⟩
end
section
def ud (s:ah) (ts:List aa) (j:Nat):Int:=if cT ts j=true then max 0 (gd true s ts j) else 0
/-- the walls when the entries of a list are still to come -/
def o5 (s:ah) (ts:List aa) (l:List (Int×Int)):List Int:=(List.range ts.length).map fun (j:Nat)=>if l.any (fun p=>decide (p.1=(j:Int)))=true then 0 else ud s ts j
@[simp] theorem qz {s:ah} {ts:List aa} {l:List (Int×Int)}:(o5 s ts l).length=ts.length:=by simp [o5]
theorem og {s:ah} {ts:List aa} {h:Int}:decide (0<((en true (dA s h) ts).length:Int))=ec s ts h:=by
 unfold ec
 rw [Bool.eq_iff_iff]
 simp only [decide_eq_true_eq,Bool.not_eq_true',decide_eq_false_iff_not]
 constructor
 ·intro h e; rw [e] at h; simp at h
 ·intro h
  have:=List.length_pos_iff.2 h
  omega
theorem pS {s:ah} {ts:List aa}:0≤fb s ts∧fb s ts≤200001:=f_
open Go.RowKit
/-- a call that hands back v and turns what satisfies J into what does -/
structure wy (P:Program) (f:FuncId) (args:List Value) (Cp:List ag) (J:ag→Prop) (v:Value):Prop where
 go:iG P f=true
 run: ∀ w B,J B→B.holds w→(∀ X∈Cp,X.holds w)→(∀ X∈Cp,nI B X.ro)→Calls P f args.toArray w fun e w'=>e= .returned v∧ ∃ B',J B'∧Mv B B' w w'
def s9 (P:Program) (fv:Value) (args:List Value) (Cp:List ag) (J:ag→Prop) (v:Value):Prop:=
 ∃ f fi ca,fv= .func (.func f) fi ca∧wy P f (fi.toList++args++ca.toList) Cp J v
section
variable {E:bV} {ops:Array Oper} {Q:bc} {rest:List Oper} {D:List Deferred} {L:List (Nat×Value)} {C:List ag}
variable {d:Nat} {ty:TypeId} {ps:String} {af:Array Edge} {g:Option (Nat×Bool)}
theorem sI {fop:Operand} {xs:Array Operand} {ts:Array TypeId} {fv:Value} {vs:List Value} {Cp:List ag} {J:ag→Prop} {B:ag} {v:Value} (i:Nat) (hg:cS ops L g=true) (hf:ev L fop=some fv) (hx:evs L xs.toList=some vs) (c:s9 E.P fv vs Cp J v)
 (hJ:J B) (hC:C[i]? =some B) (hCp:jR C i Cp) (hd:Nat.blt d E.n=true) (k: ∀ B',J B'→RJ E ops Q rest D ((d,v)::L) (C.set i B')):
 RJ E ops Q (⟨some d,.call {callee:= .value fop,args:=xs,argTypes:=ts},ty,ps,af,g⟩::rest) D L C:=by
 obtain ⟨f,fi,ca,rfl,hF⟩:=c
 refine eX (α:=ag) (V:=fun _=>v) (p:=J) (A':=fun B'=>B') i hg hf hx U ?_ hC hCp hd (fun B' hB'=>k B' hB')
 exact ⟨hF.go,fun w hB hCp' A=>(hF.run w B hJ hB hCp' A).mono fun e w' ⟨he,B',hJ',hm⟩=>⟨B',he,hJ',hm⟩⟩
end
end
section
set_option maxRecDepth 20000
def bZ (w:Int):List aa:=[⟨3,⟨4000,4100⟩,⟨400,420⟩,⟨0,0⟩,0,0⟩,⟨5,⟨2000,2200⟩,⟨150,160⟩,⟨1500,1600⟩,1,w⟩,⟨8,⟨3000,3000⟩,⟨300,330⟩,⟨0,0⟩,0,0⟩]
def db:ah:=⟨1,⟨200,300⟩,⟨1,4⟩,⟨100,200⟩,⟨300000,400000⟩,⟨-20,30⟩⟩
theorem gh (w:Int):(bZ w).length≤1000000:=by simp [bZ]
theorem fh (w:Int): ∀ x∈bZ w,0≤x.aN∧x.aN≤255:=by
 intro x hx
 simp only [bZ,bm,List.not_mem_nil,or_false] at hx
 rcases hx with rfl|rfl|rfl<;>simp
theorem kY:aC db:=by decide
theorem iK:aG (bZ 100)=true:=by decide
theorem p7:aG (bZ 90)=true:=by decide
theorem gq:aT db (bZ 100)=0:=cf iK kY
theorem mP:aT db (bZ 90)=0:=cf p7 kY
theorem pJ:gR db (bZ 100)=[(ab.mk 200 300),(ab.mk 431 677),(ab.mk 487 814),(ab.mk 658 1108)]:=by
 rw [fm iK kY]; decide
theorem kK {h r:Int} (hh:0≤h) (h0:0≤r) (h1:10*r*r≤1962*h) (h2:1962*h<10*(r+1)*(r+1)):cE h=r:=p6 hh ⟨h0,h1,h2⟩
theorem rp {h r:Int} (hh:0≤h) (h0:0≤r) (h1:10*r*r<1962*h) (h2:1962*h<10*(r+1)*(r+1)):eU h=r+1:=by
 have e:=kK hh h0 (Int.le_of_lt h1) h2
 unfold eU; rw [e,if_pos h1]
theorem l2:jG db (bZ 100) 3=(ab.mk 359 467)∧gW db (bZ 100) 3=0:=by
 have h:=dI (i:=3) gq dc
 have A:aF false db (bZ 100) (3:Int).toNat=658:=by decide
 have B:aF true db (bZ 100) (3:Int).toNat=1108:=by decide
 rw [A,B,kK (r:=359) dc dc dc dc,rp (r:=466) dc dc dc dc] at h
 exact h
theorem km:dn db (bZ 100) 1=(ab.mk 16 95)∧dm db (bZ 100) 1=0:=by
 have h:=er (i:=1) gq dc
 have A:gd false db (bZ 100) (1:Int).toNat=16:=by decide
 have B:gd true db (bZ 100) (1:Int).toNat=95:=by decide
 rw [A,B] at h
 exact h
theorem mT:gN db (bZ 100)=2:=by rw [cD gq]; decide
theorem oB:gN db (bZ 90)=1:=by rw [cD mP]; decide
theorem jP:eL db (bZ 90)=1∧eN db (bZ 90)=386∧eE db (bZ 90)=0:=by
 have hk:(en true db (bZ 90))[0]? =some 1:=by decide
 have h:=gX mP hk (x:=⟨5,⟨2000,2200⟩,⟨150,160⟩,⟨1500,1600⟩,1,90⟩) (by rfl)
 have hx:ak ⟨5,⟨2000,2200⟩,⟨150,160⟩,⟨1500,1600⟩,1,90⟩:=by decide
 have A:je db ⟨5,⟨2000,2200⟩,⟨150,160⟩,⟨1500,1600⟩,1,90⟩=763:=
  kB dc dc dc (fun y B C=>mE hx (m:=762) dc y B I)
 rw [A,kK (r:=386) dc dc dc dc] at h
 exact h
theorem lx:eK db (bZ 100)=373∧eJ db (bZ 100)=0:=by
 have hm:=iU kY (cv iK)
 have e:fb db (bZ 100)=374:=kB dc dc dc (fun y B D=>by
  cases hp:ec db (bZ 100) y with
  |false=>rfl
  |true=>
   have A:=hm y 373 B I hp
   have C:ec db (bZ 100) 373=false:=by decide
   rw [C] at A; cases A)
 have h:=gT gq (by rw [e]; decide)
 rw [e] at h
 exact h
end
section
theorem qI {ts:List aa} {i:Nat} {x:aa} (hx:ts[i]? =some x) (h: ¬ x.aN=0):eb ts (i:Int)=true:=by
 rw [nP I (x:=x) (by simpa using hx),bD h]; rfl
theorem jX {s:ah} {ts:List aa} {i:Nat} {x:aa} (h:aT s ts=0) (hx:ts[i]? =some x) (hd: ¬ x.aN=0):dn s ts (i:Int)=ab.mk (gd false s ts i) (gd true s ts i)∧dm s ts (i:Int)=0:=by
 have:=er (i:=(i:Int)) h (qI hx hd)
 simpa only [Int.toNat_natCast] using this
end
section
def wo (ts:List aa) (w:Nat→Int):List aa:=ts.mapIdx fun j x=>{x with dD:=w j}
@[simp] theorem sk {ts:List aa} {w:Nat→Int}:(wo ts w).length=ts.length:=by simp [wo]
end
section
def n8 (best f:Bool) (z:ab):ab:=⟨bM best f z,bM best f z⟩
def sN (best:Bool) (x:aa):aa:={x with bR:=n8 best false x.bR,bT:=n8 best true x.bT,ax:=n8 best false x.ax}
/-- a stretch of which so many fields are at their ends -/
def vw (best:Bool):Nat→aa→aa
 |0,x=>x
 |1,x=>{x with bR:=n8 best false x.bR}
 |2,x=>{x with bR:=n8 best false x.bR,bT:=n8 best true x.bT}
 |_,x=>sN best x
def uY (best:Bool) (ts:List aa):List aa:=ts.map (sN best)
def u0 (best:Bool) (ts:List aa) (i k:Nat):List aa:=ts.mapIdx fun j x=>if j<i then sN best x else if j=i then vw best k x else x
@[simp] theorem rY {best:Bool} {ts:List aa}:(uY best ts).length=ts.length:=by simp [uY]
@[simp] theorem sg {best:Bool} {ts:List aa} {i k:Nat}:(u0 best ts i k).length=ts.length:=by simp [u0]
end
section
def eD (a b:ab):Prop:=b.Lo≤a.Lo∧a.Hi≤b.Hi
structure mu (s z:ah):Prop where
 start:eD s.Start z.Start
 wx:eD s.kO z.kO
 vN:eD s.fw z.fw
 weight:eD s.Weight z.Weight
 ux:eD s.dT z.dT
structure nW (x y:aa):Prop where
 sG:eD x.bR y.bR
 tm:eD x.bT y.bT
 tr:eD x.ax y.ax
 side:x.aN=y.aN
structure ny (ts us:List aa):Prop where
 len:us.length=ts.length
 at_: ∀ (i:Nat) x y,ts[i]? =some x→us[i]? =some y→nW x y
theorem eD.refl (a:ab):eD a a:=⟨Int.le_refl _,Int.le_refl _⟩
theorem mu.refl (s:ah):mu s s:=⟨.refl _,.refl _,.refl _,.refl _,.refl _⟩
theorem fJ {a b:ab} (h:eD a b):bM false true b≤bM false true a∧bM true true a≤bM true true b∧bM false false a≤bM false false b∧bM true false b≤bM true false a:=by
 simp only [bM]
 obtain ⟨A,B⟩:=h
 refine ⟨?_,?_,?_,?_⟩<;>simp <;>omega
section
variable {s z:ah} {ts us:List aa} (hs:aC s) (hz:aC z) (ht: ∀ x∈ts,ak x) (hu: ∀ x∈us,ak x) (is:mu s z) (it:ny ts us)
include hs hz ht hu is it
theorem k7: ∀ i,aF false z us i≤aF false s ts i∧aF true s ts i≤aF true z us i:=by
 intro i
 induction i with
 |zero=>exact ⟨(fJ is.start).1,(fJ is.start).2.1⟩
 |succ i ih=>
  simp only [aF]
  cases hx:ts[i]? with
  |none=>
   have B:=it.len
   have:us[i]? =none:=List.getElem?_eq_none (by have:=List.getElem?_eq_none_iff.1 hx; omega)
   rw [this]; exact ih
  |some x=>
   have B:=it.len
   have hi:=(av.1 hx).1
   have hy:us[i]? =some (us[i]'I):=cw I
   rw [hy]
   have A:=it.at_ i x _ hx hy
   generalize us[i]'I=y at hy A
   have C:=ht x (aA hx)
   have D:=hu y (aA hy)
   have T:=(cC (best:=false) hs ht i).1
   have J:=(cC (best:=true) hs ht i).1
   have K:=(cC (best:=false) hz hu i).1
   have AA:=(cC (best:=true) hz hu i).1
   have E:=fJ A.sG
   have F:=fJ A.tm
   have G:=fJ is.wx
   have H:=fJ is.vN
   have AB:=fJ is.weight
   have L:=fun b f=>bq (best:=b) (f:=f) C.2.1
   have P:=fun b f=>bq (best:=b) (f:=f) D.2.1
   have M:=fun b f=>bq (best:=b) (f:=f) hs.2.2.1
   have Q:=fun b f=>bq (best:=b) (f:=f) hz.2.2.1
   have N:=fun b f=>bq (best:=b) (f:=f) hs.2.2.2.1
   have R:=fun b f=>bq (best:=b) (f:=f) hz.2.2.2.1
   have O:=fun b f=>bq (best:=b) (f:=f) hs.2.2.2.2.1
   have S:=fun b f=>bq (best:=b) (f:=f) hz.2.2.2.2.1
   simp only [fR]
   constructor
   ·refine fy K ih.1 ?_ E.2.2.1 F.1 ?_ G.2.2.1 ?_ H.2.2.1 ?_ AB.1
    ·have:=L false false; omega
    ·have:=M false false; omega
    ·have:=N false false; omega
    ·have:=S false true; omega
   ·refine fy J ih.2 ?_ E.2.2.2 F.2.1 ?_ G.2.2.2 ?_ H.2.2.2 ?_ AB.2.1
    ·have:=P true false; omega
    ·have:=Q true false; omega
    ·have:=R true false; omega
    ·have:=O true true; omega
theorem sE {i:Nat} {x:aa} (hx:ts[i]? =some x) (hd: ¬ x.aN=0):gd false z us i≤gd false s ts i∧gd true s ts i≤gd true z us i:=by
 have D:=it.len
 have hi:=(av.1 hx).1
 have hy:us[i]? =some (us[i]'I):=cw I
 have A:=it.at_ i x _ hx hy
 generalize us[i]'I=y at hy A
 have B:=ht x (aA hx)
 have C:=hu y (aA hy)
 have rx:=jB B hd
 have ry:=jB C (by rw [← A.side]; exact hd)
 have AA:=k7 hs hz ht hu is it i
 have J:=k7 hs hz ht hu is it (i+1)
 have O:=(cC (best:=false) hz hu i).1
 have P:=(cC (best:=true) hs ht i).1
 rw [nh hy I,nh hx I,l4 hx I,l4 hy I]
 obtain ⟨Q,R⟩:=A.tr
 obtain ⟨S,T⟩:=is.ux
 have K:cL false z us i≤cL false s ts i:=by unfold cL; omega
 have L:cL true s ts i≤cL true z us i:=by unfold cL; omega
 have M:0≤cL false z us i:=by unfold cL; omega
 have N:0≤cL true s ts i:=by unfold cL; omega
 have E:1200*cL false z us i/(10*y.ax.Hi)≤1200*cL false z us i/(10*x.ax.Hi):=g8 I I I
 have F:1200*cL false z us i/(10*x.ax.Hi)≤1200*cL false s ts i/(10*x.ax.Hi):=Int.ediv_le_ediv I I
 have G:1200*cL true s ts i/(10*x.ax.Lo)≤1200*cL true s ts i/(10*y.ax.Lo):=g8 I I I
 have H:1200*cL true s ts i/(10*y.ax.Lo)≤1200*cL true z us i/(10*y.ax.Lo):=Int.ediv_le_ediv I I
 omega
end
def uv (w n:Int) (x:aa):aa:=if w % 2=0 then {x with bR:=⟨x.bR.Lo,x.bR.Hi+n⟩} else {x with bT:=⟨x.bT.Lo,x.bT.Hi+n⟩}
def r7 (ts:List aa) (w n:Int):List aa:=ts.modify (w % (ts.length:Int)).toNat (uv w n)
@[simp] theorem qQ {ts:List aa} {w n:Int}:(r7 ts w n).length=ts.length:=by simp [r7]
end
section
section
variable {s:ah} {ts us:List aa} {i:Nat} {x:aa}
theorem dR.wb (h:dR ts.length ts.length ts us):ny us ts:=⟨h.len.symm,fun i x y hx hy=>by
 have hi:=(av.1 hy).1
 have A:=h.at_ i y x hy hx
 rw [if_pos hi,if_pos hi] at A
 obtain ⟨⟨_,B,C,_⟩,a,b⟩:=A
 exact ⟨⟨a.1,a.2.2⟩,⟨b.1,b.2.2⟩,by rw [C]; exact .refl _,B⟩⟩
theorem dR.get (h:dR ts.length ts.length ts us) (hx:ts[i]? =some x): ∃ y,us[i]? =some y∧y.aN=x.aN∧y.dD=x.dD:=by
 have hi:=(av.1 hx).1
 have hl:=h.len
 have hy:us[i]? =some (us[i]'I):=cw I
 exact ⟨_,hy,(h.at_ i x _ hx hy).1.2.1,(h.at_ i x _ hx hy).1.2.2.2⟩
theorem dR.side (h:dR ts.length ts.length ts us) (hs: ∀ x∈ts,0≤x.aN∧x.aN≤255): ∀ y∈us,0≤y.aN∧y.aN≤255:=fun y hy=>by
 obtain ⟨j,hj⟩:=List.mem_iff_getElem?.1 hy
 have hl:=h.len
 have A:=(av.1 hj).1
 have hx:ts[j]? =some (ts[j]'I):=cw I
 rw [(h.at_ j _ y hx hj).1.2.1]
 exact hs _ (aA hx)
variable (hs:aC s) (ht: ∀ x∈ts,ak x) (h:dR ts.length ts.length ts us)
include hs ht h
theorem pB (i:Nat):aF false s ts i≤aF false s us i∧aF true s us i≤aF true s ts i:=k7 hs hs (h.ok ht) ht (.refl s) h.wb i
theorem ng (hx:ts[i]? =some x) (hd: ¬ x.aN=0):gd false s ts i≤gd false s us i∧gd true s us i≤gd true s ts i:=by
 obtain ⟨y,hy,A,B⟩:=h.get hx
 exact sE hs hs (h.ok ht) ht (.refl s) h.wb hy (by rw [A]; exact hd)
theorem nu {j:Nat} (hj:j<ts.length):(fc false s ts j=true→fc false s us j=true)∧(fc true s us j=true→fc true s ts j=true):=by
 have hx:ts[j]? =some (ts[j]'hj):=cw hj
 obtain ⟨y,hy,A,B⟩:=h.get hx
 unfold fc
 rw [dW hx,dW hy,dU hx,dU hy,A,B]
 by_cases hd:(ts[j]'hj).aN=0
 ·rw [dH hd]; exact ⟨fun q=>q,fun q=>q⟩
 ·have hg:=ng hs ht h hx hd
  rw [bD hd]
  simp only [Bool.not_false,Bool.true_and,decide_eq_true_eq]
  omega
theorem o4 (hq: ¬ fV s ts=1):fV s us=fV s ts:=by
 have hl:=h.len
 by_cases B:en false s ts=[]
 ·by_cases C:en true s ts=[]
  ·rw [fp B C]
   refine (pt hs (h.ok ht)).2 (gC.2 fun j hj=>?_)
   have A:=gC.1 C j I
   cases hb:fc true s us j with
   |false=>rfl
   |true=>rw [(nu hs ht h I).2 hb] at A; cases A
  ·exact absurd (gu B C) hq
 ·rw [eM B]
  refine eM fun e=>B (gC.2 fun j hj=>?_)
  have A:=gC.1 e j I
  cases hb:fc false s ts j with
  |false=>rfl
  |true=>rw [(nu hs ht h hj).1 hb] at A; cases A
end
end
section
open Go.RowKit
set_option linter.unusedSectionVars false
theorem jM {P:Program} {kt:Nat} (hk:P.underlying kt=some (.int .i64)):pU P kt (Value.int .i64):=by
 refine ⟨fun e x w=>cU hk e,fun x w es cc=>?_,fun x=>by simp [Instr.sameBits],fun x y h=>by injection h⟩
 have key: ∀ (es:List MapEntry) (i:Nat),(∀ e∈es,∃ k:Int,e.key= .int .i64 k)→(Instr.findNow (.int .i64) (.int .i64 x) es i=some none∧ ∀ e∈es,e.key≠ .int .i64 x)∨ ∃ j e,Instr.findNow (.int .i64) (.int .i64 x) es i=some (some (i+j,e.val))∧es[j]? =some e∧e.key= .int .i64 x:=by
  intro es
  induction es with
  |nil=>intro i _; exact .inl ⟨rfl,sm⟩
  |cons e es ih=>
   intro i cc
   obtain ⟨k,A⟩:=cc e sm
   by_cases h:x=k
   ·subst h
    exact .inr ⟨0,e,by simp [Instr.findNow,Instr.sameNow,A],U,A⟩
   ·have hb:(x==k)=false:=by simpa using h
    rcases ih (i+1) (fun y hy=>cc y (by simp [hy])) with ⟨B,C⟩|⟨j,e',B,C,D⟩
    ·refine .inl ⟨by simp [Instr.findNow,Instr.sameNow,A,hb,B],fun y hy=>?_⟩
     rcases bm.1 hy with rfl|hy
     ·rw [A]; intro q; injection q with _ q; exact h q.symm
     ·exact C y hy
    ·refine .inr ⟨j+1,e',?_,by simpa using C,D⟩
     simp only [Instr.findNow,Instr.sameNow,A,hb,if_true,B]
     simp; omega
 rcases key es 0 cc with ⟨B,C⟩|⟨j,e,B,C,D⟩
 ·exact .inl ⟨MapKept.run_findKey hk B,C⟩
 ·exact .inr ⟨j,e,MapKept.run_findKey hk (by simpa using B),C,D⟩
theorem St.rH {S:BS} {w0 w w':World} {C:List ag} {A N:ag} (h:St S w0 C w) (i:Nat) (hA:C[i]? =some A) (k:bk no w w') (hN:N.holds w') (hf: ∀ b,N.bL b→w.heap.size≤b∨A.bL b∧ ¬ A.wf b∧ ¬ N.wf b):St S w0 (N::C) w':=by
 have h':=h.same k
 have G:=aA hA
 have hi:=(av.1 hA).1
 have B:C[i]=A:=(av.1 hA).2
 refine ⟨h'.keeps,fun X hX=>?_,List.Pairwise.cons (fun X hX b hb hb'=>?_) h'.sep,fun X hX b hb=>?_,fun X hX b hb=>?_⟩
 ·rcases bm.1 hX with rfl|hX
  ·exact hN
  ·exact h'.holds X hX
 ·rcases hf b hb with E|⟨E,AA,H⟩
  ·have:=X.lt w (h.holds X hX) b hb'; omega
  ·refine ⟨H,?_⟩
   obtain ⟨j,hj,D⟩:=List.mem_iff_getElem.1 hX
   by_cases e:j=i
   ·subst e; rw [← D,B]; exact AA
   ·rcases Nat.lt_or_gt_of_ne e with F|F
    ·have:=bP.1 h.sep j i hj hi F b (by rw [D]; exact hb') (by rw [B]; exact E)
     rw [← D]; exact this.1
    ·have:=bP.1 h.sep i j hi hj F b (by rw [B]; exact E) (by rw [D]; exact hb')
     rw [← D]; exact this.2
 ·rcases bm.1 hX with rfl|hX
  ·rcases hf b (X.dO b hb) with E|⟨_,_,H⟩
   ·exact .inl (Nat.le_trans h.keeps.size E)
   ·exact absurd hb H
  ·exact h'.own X hX b hb
 ·rcases bm.1 hX with rfl|hX
  ·rcases hf b hb with E|⟨E,_,_⟩
   ·exact .inl (Nat.le_trans h.keeps.size E)
   ·exact h.seen A G b E
  ·exact h'.seen X hX b hb
section
variable {K:Type} [DecidableEq K] {kV:K→Value}
/-- an iterator over a map that is read alone -/
def nC (kV:K→Value) (r b:Nat) (m left:List (K×Value)) (cur:Option (K×Value)):ag where
 bL k:=k=r∨k=b
 wf k:=k=r
 holds w:=r≠b∧ ∃ (es:Array MapEntry) (c since:Nat) (seen:Array Nat) (st:Nat),w.heap[b]? =some (.map es c)∧df kV es c m∧w.heap[r]? =some (.mapIter (some b) since seen st)∧(∀ e∈es.toList,e.born<since)∧since≤st∧since≤c∧
  (leftOf es seen).toList.map (fun (e:MapEntry)=>(e.key,e.val))=left.map (fun p=>(kV p.1,p.2))∧
  ∀ p,cur=some p→ ∃ (e:MapEntry) (seen0:Array Nat),e∈es.toList∧seen=seen0.push e.born∧st=c∧e.key=kV p.1∧e.val=p.2
 wr:=false
 dO _ h:= .inl h
 whole h:=by cases h
 lt w h k hk:=by
  obtain ⟨_,es,c,since,seen,st,h1,_,h2,_⟩:=h
  rcases hk with rfl|rfl
  ·exact bG h2
  ·exact bG h1
 gI w w' hk h:=by
  obtain ⟨hne,es,c,since,seen,st,h1,h2,h3,h4⟩:=h
  exact ⟨hne,es,c,since,seen,st,(hk b (.inr rfl)).trans h1,h2,(hk r (.inl rfl)).trans h3,h4⟩
theorem ij {r b:Nat} {m left:List (K×Value)} {cur:Option (K×Value)}:(∀ w,(nC kV r b m left cur).holds w→(nC kV r b m left none).holds w)∧(∀ k,(nC kV r b m left none).bL k→(nC kV r b m left cur).bL k)∧ ∀ k,(nC kV r b m left none).wf k→(nC kV r b m left cur).wf k:=
 ⟨fun w h=>by
  obtain ⟨A,es,c,since,seen,st,B,C,D,E,F,h5',G,_⟩:=h
  exact ⟨A,es,c,since,seen,st,B,C,D,E,F,h5',G,fun p hp=>by cases hp⟩,fun _ h=>h,fun _ h=>h⟩
section
variable {E:bV} {ops:Array Oper} {Q:bc} {rest:List Oper} {D:List Deferred} {L:List (Nat×Value)} {C:List ag}
variable {dst:Option Tmp} {d:Nat} {ty:TypeId} {ps:String} {af:Array Edge} {g:Option (Nat×Bool)}
theorem jV {t kt et:TypeId} {xm:Operand} {b:Nat} {m:List (K×Value)} {A:ag} (i:Nat) (hg:cS ops L g=true) (hm:ev L xm=some (.map (some b))) (ht:E.P.underlying t=some (.map kt et)) (hA:C[i]? =some A) (hAf:A.bL b∧ ¬ A.wf b) (hC:ka C (nZ kV b m).holds) (hd:Nat.blt d E.n=true)
 (k: ∀ r,RJ E ops Q rest D ((d,.pointer (some ⟨r,0,none⟩))::L) (nC kV r b m m none::C)):RJ E ops Q (⟨some d,.range t xm,ty,ps,af,g⟩::rest) D L C:=by
 intro a w B hs
 have hd':d<E.n:=by rw [← Nat.blt_eq]; exact hd
 unfold g7
 rw [if_pos (bw B hg)]
 obtain ⟨es,c,he,hi⟩:=hs.has hC
 have G:b<w.heap.size:=bG he
 have F:(getObj b).run E.P w= .ok (.map es c) w:=MapKept.run_getObj_map he
 refine cu (v:= .pointer (some ⟨w.heap.size,0,none⟩)) (w':=w.alloc (.mapIter (some b) c #[] c)) sm ?_ ?_
 ·simp [execOp,Instr.range,B.ev hm,run_underlying ht,F,newObj,Sem.run]
 ·refine k _ _ _ (B.put hd' _) (hs.rH i hA (bk.alloc no w _) ⟨I,es,c,c,#[],c,?_,hi,heap_alloc_new w _,hi.qx,Nat.le_refl _,Nat.le_refl _,?_,fun p hp=>by cases hp⟩ (fun q hq=>?_))
  ·rw [Below.heap_alloc w _ b G]; exact he
  ·have:leftOf es #[]=es:=by unfold leftOf; exact Array.filter_eq_self.2 sm
   rw [this]; exact hi.list
  ·rcases hq with rfl|rfl
   ·exact .inl (Nat.le_refl _)
   ·refine .inr ⟨hAf.1,hAf.2,fun (e:q=w.heap.size)=>by omega⟩
theorem nT (hinj: ∀ x y,kV x=kV y→x=y) {xi:Operand} {r b:Nat} {m left:List (K×Value)} {cur:Option (K×Value)} (i:Nat) (hg:cS ops L g=true) (hm:ev L xi=some (.pointer (some ⟨r,0,none⟩))) (hC:C[i]? =some (nC kV r b m left cur)) (hd:Nat.blt d E.n=true)
 (k0:left=[]→RJ E ops Q rest D ((d,.tuple [.bool false].toArray)::L) C)
 (k1: ∀ x v,(x,v)∈left→(left.map (·.1)).Nodup→RJ E ops Q rest D ((d,.tuple [.bool true,kV x,v].toArray)::L) (C.set i (nC kV r b m (e6 left x) (some (x,v))))):
 RJ E ops Q (⟨some d,.next xi false,ty,ps,af,g⟩::rest) D L C:=by
 intro a w G hs
 have hd':d<E.n:=by rw [← Nat.blt_eq]; exact hd
 unfold g7
 rw [if_pos (bw G hg)]
 obtain ⟨R,es,c,since,seen,st,X,hi,Y,J,V,M,A,_⟩:=hs.holds _ (aA hC)
 rcases run_next_at (P:=E.P) w ty r b since st seen es c Y X J V with ⟨Z,hr⟩|⟨e,he,N,H,hr⟩
 ·refine cu (v:= .tuple #[.bool false]) (w':=w) sm ?_ ?_
  ·simp [execOp,G.ev hm,hr]
  ·refine k0 ?_ _ _ (G.put hd' _) hs
   have:(leftOf es seen).toList=[]:=by rw [← List.length_eq_zero_iff,Array.length_toList]; exact Z
   rw [this] at A
   exact List.map_eq_nil_iff.1 A.symm
 ·have O:(e.key,e.val)∈left.map (fun p=>(kV p.1,p.2)):=by rw [← A]; exact aZ.2 ⟨e,he,rfl⟩
  obtain ⟨p,hp,S⟩:=aZ.1 O
  obtain ⟨x,v⟩:=p
  simp only [Prod.mk.injEq] at S
  obtain ⟨hk,hv⟩:=S
  refine cu (v:= .tuple #[.bool true,e.key,e.val]) (w':=ChangeMaps.setBlock N r (.mapIter (some b) since (seen.push e.born) c)) sm ?_ ?_
  ·simp [execOp,G.ev hm,hr]
  ·rw [← hk,← hv]
   have AB:=mK hinj hi A
   have F:e∈es.toList:=by unfold leftOf at he; rw [Array.toList_filter] at he; exact (List.mem_filter.1 he).1
   have f:c=c:=rfl
   have B:N.heap=w.heap:=by rcases H with rfl|rfl<;>rfl
   refine k1 x v hp AB _ _ (G.put hd' _) (hs.mv i hC ⟨⟨R,es,c,since,seen.push e.born,c,?_,hi,?_,J,M,M,?_,fun q hq=>?_⟩,?_,fun q hq=> .inl hq,fun q hq=> .inl hq⟩)
   ·show (N.heap.setIfInBounds r _)[b]? =_
    rw [Array.getElem?_setIfInBounds_ne R,B]; exact X
   ·show (N.heap.setIfInBounds r _)[r]? =_
    rw [Array.getElem?_setIfInBounds_self_of_lt (by rw [B]; exact bG Y)]
   ·have T:leftOf es (seen.push e.born)=(leftOf es seen).filter (fun z=> !(z.born==e.born)):=by
     unfold leftOf
     rw [Array.filter_filter]
     congr 1
     funext z
     simp only [Array.contains_push,Bool.not_or]
     rw [Bool.and_comm]
    rw [T,Array.toList_filter]
    have key: ∀ (l:List MapEntry) (ll:List (K×Value)),(∀ z∈l,z∈es.toList)→l.map (fun (e:MapEntry)=>(e.key,e.val))=ll.map (fun p=>(kV p.1,p.2))→
     (l.filter (fun z=> !(z.born==e.born))).map (fun (e:MapEntry)=>(e.key,e.val))=(e6 ll x).map (fun p=>(kV p.1,p.2)):=by
     intro l
     induction l with
     |nil=>intro ll _ h; cases ll with
      |nil=>rfl
      |cons p ll=>simp at h
     |cons z l ih=>
      intro ll hz h
      cases ll with
      |nil=>simp at h
      |cons p ll=>
       simp only [List.map_cons,List.cons.injEq,Prod.mk.injEq] at h
       have ih':=ih ll (fun y hy=>hz y (by simp [hy])) h.2
       have AC:(z.born=e.born)↔(p.1=x):=by
        constructor
        ·intro hb
         have:z=e:=me hi.born (hz z sm) F hb
         rw [this] at h
         have:=h.1.1.symm.trans hk.symm
         exact hinj _ _ this
        ·intro hx
         have W:z.key=e.key:=by rw [h.1.1,hx,hk]
         rw [oN hinj hi (hz z sm) F W]
       unfold e6 at ih' ⊢
       by_cases hx:p.1=x
       ·rw [List.filter_cons_of_neg (by simp [AC.2 hx]),List.filter_cons_of_neg (by simp [hx])]; exact ih'
       ·rw [List.filter_cons_of_pos (by simpa using fun hb=>hx (AC.1 hb)),List.filter_cons_of_pos (by simpa using hx)]
        simp only [List.map_cons,h.1.1,h.1.2,ih']
    exact key _ _ (fun z hz=>by unfold leftOf at hz; rw [Array.toList_filter] at hz; exact (List.mem_filter.1 hz).1) A
   ·cases hq
    exact ⟨e,seen,F,U,U,hk.symm,hv.symm⟩
   ·refine ⟨?_,?_,?_,?_,fun q hq hn=>?_⟩
    ·rcases H with rfl|rfl<;>rfl
    ·rcases H with rfl|rfl<;>rfl
    ·rcases H with rfl|rfl<;>rfl
    ·show w.heap.size≤(N.heap.setIfInBounds r _).size
     simp [B]
    ·show (N.heap.setIfInBounds r _)[q]? =_
     rw [Array.getElem?_setIfInBounds_ne (fun e=>hn e.symm),B]
theorem jh {xi:Operand} {r b:Nat} {m left:List (K×Value)} {x:K} {v:Value} (i:Nat) (hg:cS ops L g=true) (hm:ev L xi=some (.pointer (some ⟨r,0,none⟩))) (hC:C[i]? =some (nC kV r b m left (some (x,v)))):
 SD E ops ⟨dst,.entry xi,ty,ps,af,g⟩ D L C (.tuple [kV x,v].toArray):=
 br hg sm fun a w F hs=>by
  obtain ⟨N,es,c,since,seen,st,J,hi,M,H,O,AA,G,B⟩:=hs.holds _ (aA hC)
  obtain ⟨e,A,he,rfl,rfl,hk,hv⟩:=B _ rfl
  have:=run_entry_at (P:=E.P) w r b since A es st e M J he hi.born
  simp [execOp,F.ev hm,this,hk,hv]
theorem iW (hinj: ∀ x y,kV x=kV y→x=y) {β:Type} {f:β→Value} {xi:Operand} {r b:Nat} {m:List (K×Value)} {ll:List (K×β)} {cur:Option (K×Value)} (i:Nat) (hg:cS ops L g=true) (hm:ev L xi=some (.pointer (some ⟨r,0,none⟩))) (hC:C[i]? =some (nC kV r b m (cG f ll) cur)) (hd:Nat.blt d E.n=true)
 (k0:ll=[]→RJ E ops Q rest D ((d,.tuple [.bool false].toArray)::L) C)
 (k1: ∀ x y,(x,y)∈ll→(ll.map (·.1)).Nodup→RJ E ops Q rest D ((d,.tuple [.bool true,kV x,f y].toArray)::L) (C.set i (nC kV r b m (cG f (e6 ll x)) (some (x,f y))))):
 RJ E ops Q (⟨some d,.next xi false,ty,ps,af,g⟩::rest) D L C:=by
 refine nT hinj i hg hm hC hd (fun h=>k0 (List.map_eq_nil_iff.1 h)) (fun x v B hn=>?_)
 obtain ⟨p,hp,A⟩:=aZ.1 B
 simp only [Prod.mk.injEq] at A
 obtain ⟨rfl,rfl⟩:=A
 have:=k1 p.1 p.2 hp (by simpa [cG,Function.comp_def] using hn)
 rwa [mS] at this
end
end
end
section
open Go.RowKit
section
variable {P:Program} {t:TypeId} {x y:Operand}
theorem s8 {e:TypeId} {a:OA} {n c:Nat} (ht:P.underlying t=some (.slice e)):cP P .eql t x y (.slice a n c) (.slice none 0 0) (.bool (decide (a=none))):=fun w=>by
 have A:(Op.equal t (.slice a n c) (.slice none 0 0)).run P w= .ok (decide (a=none)) w:=by
  unfold Op.equal
  show (Op.equalIn (9999+1) t (.slice a n c) (.slice none 0 0)).run P w=_
  unfold Op.equalIn
  cases a<;>simp [run_underlying ht]
 have B:eqGuard .eql t x y (.slice a n c) (.slice none 0 0)=pure ():=rfl
 rw [B]
 show (Sem.run P (do let b ← Op.equal t (.slice a n c) (.slice none 0 0); pure (vB b)) w)=_
 simp [A]
end
section
variable {E:bV} {ops:Array Oper} {Q:bc} {rest:List Oper} {D:List Deferred} {L:List (Nat×Value)} {C:List ag}
variable {dst:Option Tmp} {d:Nat} {ty:TypeId} {ps:String} {af:Array Edge} {g:Option (Nat×Bool)}
/-- a row that lies nowhere is empty -/
theorem qe {a:OA} {n sz:Nat} {es:List (List Value)} (hR:ka C (rd a n sz es).holds) (ha:a=none) (hz:0<sz) (k:es=[]→RJ E ops Q rest D L C):RJ E ops Q rest D L C:=fun act w hf hs=>by
 refine k ?_ act w hf hs
 obtain ⟨F,G,B⟩:=hs.has hR
 rcases Nat.eq_zero_or_pos (n*sz) with h|h
 ·have:n=0:=by
   rcases Nat.mul_eq_zero.1 h with h|h
   ·exact h
   ·omega
  exact ic I
 ·obtain ⟨ad,A,_⟩:=B h
  rw [ha] at A; cases A
theorem nm {A:ag} (i:Nat) (h:C[i]? =some A.ro):ka C A.holds:=fun w hw=>by
 have B:=hw A.ro (aA h)
 exact B
end
end
section
open Go.RowKit
def uZ (b:Bool):List Value:=[.bool b]
@[simp] theorem rL (b:Bool):(uZ b).length=1:=rfl
end
section
open Go.RowKit
theorem jc (s:ah) (best:Bool) (tsA:OA) (tsN tsC:Nat) (z:ab) (f:Bool):
 cn Try.prog 53 [(vA (aW.cells (aW.mk s (ai.mk (cp.mk tsA tsN tsC)) best))),(vA (ab.cells z)),(vB f)] [] (vI (bM best f z)):=by
 refine aS kr Try.func53 U U fun AB Q hQ hN=>?_
 try dsimp only
 refine WS fun _ A=>dp U fun G=>dp U fun H=>aP 1 U<|RK A<|aj fun _ B=>WS fun _ C=>rP 3 [] (mc 1 U mn) ?_
 refine rS (BI U (sO wi))<|RK C<|bY U (fun D=>?_) (fun D=>?_)
 ·replace D:best=f:=by simpa using D
  refine WS fun _ E=>rP 3 [] (mc 0 U mn) ?_
  refine RK E<|an<|Q1 hQ U U U ?_
  clear hQ hN E C B A
  exact cI (by unfold bM; cases hb:best<;>cases f<;>simp_all)
 replace D: ¬ best=f:=by simpa using D
 refine WK B<|WS fun _ F=>rP 3 [] (mc 0 U mn) ?_
 refine RK F<|an<|Q1 hQ U U U ?_
 clear hQ hN F C B A
 exact cI (by unfold bM; cases hb:best<;>cases f<;>simp_all)
theorem ko (n lo hi:Int):
 cn Try.prog 37 [(vI n),(vI lo),(vI hi)] [] (vB (decide (lo≤n∧n≤hi))):=by
 refine aS kr Try.func37 U U fun D Q hQ hN=>?_
 try dsimp only
 refine WS fun _ B=>aP 1 U<|RK B<|WS fun _ A=>rP 4 [] mn ?_
 refine cb (t:=10) U (aL fun C=>?_) (aM fun C=>?_)
 ·refine rP 5 [] mn ?_
  refine RK A<|an<|Q1 hQ U U U ?_
  exact cB (fj.2 I)
 refine rP 5 [] mn ?_
 refine RK A<|an<|Q1 hQ U U U ?_
 exact cB (bD I).symm
theorem dx (n lo hi:Int):
 cn Try.prog 22 [(vI n),(vI lo),(vI hi)] [] (vB (decide (lo≤n∧n≤hi))):=by
 refine aS kr Try.func22 U U fun D Q hQ hN=>?_
 try dsimp only
 refine WS fun _ B=>aP 1 U<|RK B<|WS fun _ A=>rP 4 [] mn ?_
 refine cb (t:=10) U (aL fun C=>?_) (aM fun C=>?_)
 ·refine rP 5 [] mn ?_
  refine RK A<|an<|Q1 hQ U U U ?_
  exact cB (fj.2 I)
 refine rP 5 [] mn ?_
 refine RK A<|an<|Q1 hQ U U U ?_
 exact cB (bD I).symm
theorem iB (s:ab) (lo hi:Int):
 cn Try.prog 38 [(vA (ab.cells s)),(vI lo),(vI hi)] [] (vB (decide (s.Lo≤s.Hi∧lo≤s.Lo∧s.Hi≤hi))):=by
 refine aS kr Try.func38 U U fun E Q hQ hN=>?_
 try dsimp only
 refine WS fun _ B=>dp U fun D=>aP 1 U<|RK B<|WS fun _ A=>e7 5 [] (mc 0 U mn) U<|rS (CL (ko s.Lo lo s.Hi) (ao) U)<|rP 1 [] mn ?_
 refine cM (t:=13) U (aM fun C=>?_) (aL fun C=>?_)
 ·refine rP 6 [] mn ?_
  refine RK A<|an<|Q1 hQ U U U ?_
  exact cB (bD I).symm
 refine rP 6 [] (mc 0 U mn) ?_
 refine RK A<|an<|Q1 hQ U U U ?_
 exact cB (fj.2 I)
theorem ei (s:ab) (lo hi:Int):
 cn Try.prog 23 [(vA (ab.cells s)),(vI lo),(vI hi)] [] (vB (decide (s.Lo≤s.Hi∧lo≤s.Lo∧s.Hi≤hi))):=by
 refine aS kr Try.func23 U U fun E Q hQ hN=>?_
 try dsimp only
 refine WS fun _ B=>dp U fun D=>aP 1 U<|RK B<|WS fun _ A=>e7 5 [] (mc 0 U mn) U<|rS (CL (dx s.Lo lo s.Hi) (ao) U)<|rP 1 [] mn ?_
 refine cM (t:=13) U (aM fun C=>?_) (aL fun C=>?_)
 ·refine rP 6 [] mn ?_
  refine RK A<|an<|Q1 hQ U U U ?_
  exact cB (bD I).symm
 refine rP 6 [] (mc 0 U mn) ?_
 refine RK A<|an<|Q1 hQ U U U ?_
 exact cB (fj.2 I)
theorem qP (t:List aa) (tA:OA) (tC:Nat):
 cn Try.prog 19 [(vA (ai.cells (ai.mk (cp.mk tA t.length tC))))] [(rd tA t.length 9 (t.map aa.cells))] (vB (decide (20<(t.length:Int)))):=by
 refine aS kr Try.func19 U U fun D Q hQ hN=>?_
 try dsimp only
 refine WS fun _ A=>dp U fun C=>aP 1 U<|RK A<|WS fun _ B=>rP 5 [] (mc 0 U mn) ?_
 refine RK B<|an ?_
 exact Q1 hQ U U U U
end
section
open Go.RowKit
theorem lT (la:List ab) (laA:OA) (laC:Nat) (lb:List ab) (lbA:OA) (lbC:Nat) (h1:la.length≤1000000) (h2:lb.length≤1000000):
 cn Try.prog 16 [(vS laA la.length laC),(vS lbA lb.length lbC)] [(rd laA la.length 2 (la.map ab.cells)),(rd lbA lb.length 2 (lb.map ab.cells))] (vB (decide (la=lb))):=by
 refine aS kr Try.func16 U U fun AB Q hQ hN=>?_
 try dsimp only
 refine WS fun _ AC=>aP 1 U<|RK AC<|aj fun _ J=>WS fun _ K=>rP 5 [] mn ?_
 refine RK K<|bY U (aJ fun hl=>?_) (aI fun hl=>?_)
 ·refine WS fun _ L=>rP 1 [] mn ?_
  refine RK L<|an<|Q1 hQ U U U ?_
  first|exact cB (bD (jT hx hy h)).symm|exact cB (dH (jC I A I)).symm|exact cB (bD (fun e=>by subst e; omega)).symm
 refine WK J<|aj fun _ M=>WS fun _ N=>rP 1 [] mn ?_
 refine RK N<|au ?_
 have B:(0≤la.length)∧(la.take 0=lb.take 0):=by simp
 refine bx (ι:={z:Nat // (z≤la.length)∧(la.take z=lb.take z)}) [0,1] [0,1] U U (fun z=>[(5,(vI (z.1:Int)))]) (fun z=>[]) (fun _=>rfl) (fun _=>rfl) (fun z=>la.length-z.1) ⟨0,B⟩ (aB U) (aV [0,1]) ?_
 clear B
 rintro ⟨i,⟨R,A⟩⟩ J7 H
 try dsimp only
 refine aj fun _ O=>WS fun _ P=>rP 4 [] mn ?_
 refine RK P<|bp U (aM fun G=>?_) (aL fun G=>?_)
 ·refine bo<|ae<|ae<|aw<|KK M<|WS fun _ F=>rP 1 [] mn ?_
  refine RK F<|an<|Q1 hQ U U U ?_
  first|exact cB (bD (jT hx hy h)).symm|exact cB (dH (jC I A I)).symm|exact cB (bD (fun e=>by subst e; omega)).symm
 refine WK O<|aj fun _ C=>au<|aj fun _ D=>cy ck 9 kr<|dP 2 [] mn ?_
 obtain ⟨x,hx⟩:=bh la i I
 have S:=bC ab.cells hx
 refine dS (IA i U (aH 0 U) gG dc I I)<|dS (nw i 0 (ab.cells x) U cd (aH 0 U) S U dc U U)<|dP 2 [] mn ?_
 obtain ⟨y,hy⟩:=bh lb i I
 have T:=bC ab.cells hy
 refine dS (IA i U (aH 1 U) gG dc I I)<|dS (nw i 0 (ab.cells y) U cd (aH 1 U) T U dc U U)<|dS (BI U (r_ _ _ x y))<|b_<|RK D<|bp U (aI fun h=>?_) (aJ fun h=>?_)
 ·refine bW<|az<|KK C<|aq<|rP 3 [] mn ?_
  refine aD ?_
  refine aR (H ⟨(i+1),⟨I,oE A hx hy h⟩⟩ _ _ _ U os (aB U) (aV [0,1]))
 refine WS fun _ E=>rP 1 [] mn ?_
 refine RK E<|an<|Q1 hQ U U U ?_
 first|exact cB (bD (jT hx hy h)).symm|exact cB (dH (jC I A I)).symm|exact cB (bD (fun e=>by subst e; omega)).symm
theorem uL (s:ah) (best:Bool) (tsA:OA) (tsN tsC:Nat) (h lo:Int) (hs:aC s) (hh:0≤h∧h≤400000) (hl:0≤lo∧lo≤100000):
 cn Try.prog 64 [(vA (aW.cells (aW.mk s (ai.mk (cp.mk tsA tsN tsC)) best))),(vI h),(vI lo)] [] (vI (min h (h*bM best false s.fw*lo/(100*bM best true s.Weight)))):=by
 have C:=bq (best:=best) (f:=false) hs.2.2.2.1
 have G:=bq (best:=best) (f:=true) hs.2.2.2.2.1
 have D:=ma hh.1 hh.2 C.1 C.2
 have E:=ma D.1 D.2 hl.1 hl.2
 have H:=tG (b:=100*bM best true s.Weight) E.1 E.2 I
 refine aS kr Try.func64 U U fun AB Q hQ hN=>?_
 try dsimp only
 refine WS fun _ A=>dp U fun F=>aP 1 U<|RK A<|aj fun _ B=>cy ck 19 kr<|kc 5 [] (mc 0 U mn) U<|dS (LP (ab.cells s.fw) 0 U cd U U U)<|dS (CL (jc s best tsA tsN tsC s.fw false) (ao) U)<|dS (BI U (fQ ⟨I,I⟩))<|eR 1 U<|dS (BI U (fQ ⟨I,I⟩))<|kc 3 [] (mc 0 U mn) U<|dS (LP (ab.cells s.Weight) 0 U cd U U U)<|dS (CL (jc s best tsA tsN tsC s.Weight true) (ao) U)<|dS (BI U (fQ ⟨I,I⟩))<|dS (BI U (lL I I I))<|dS (MN U)<|dP 1 [] mn ?_
 refine b_<|RK B<|an ?_
 exact Q1 hQ U U U U
theorem uN (s:ah) (best:Bool) (tsA:OA) (tsN tsC:Nat) (h lo:Int) (hs:aC s) (hl:0≤lo∧lo≤100000):
 cn Try.prog 65 [(vA (aW.cells (aW.mk s (ai.mk (cp.mk tsA tsN tsC)) best))),(vI h),(vI lo)] [] (vI (bM best false s.kO*lo/100)):=by
 have C:=bq (best:=best) (f:=false) hs.2.2.1
 have E:=ma C.1 C.2 hl.1 hl.2
 refine aS kr Try.func65 U U fun F Q hQ hN=>?_
 try dsimp only
 refine WS fun _ A=>dp U fun D=>aP 1 U<|RK A<|WS fun _ B=>e7 3 [] (mc 0 U mn) U<|rS (LP (ab.cells s.kO) 0 U cd U U U)<|rS (CL (jc s best tsA tsN tsC s.kO false) (ao) U)<|aP 1 U<|rS (BI U (fQ ⟨I,I⟩))<|rS (BI U (lL I I I))<|rP 1 [] mn ?_
 refine RK B<|an ?_
 exact Q1 hQ U U U U
theorem p9:
 cn Try.prog 52 [] [] (vA ((dz.cells (dz.mk (Value.func (.func 64) [].toArray [].toArray)))++(dz.cells (dz.mk (Value.func (.func 65) [].toArray [].toArray))))):=by
 refine aS kr Try.func52 U U fun D Q hQ hN=>?_
 try dsimp only
 refine WS fun _ A=>AL U rV fun C=>RK A<|WS fun _ B=>rS (SX (aY (xs:=[(0,.func 64)]) (cs:=(dz.cells (dz.mk (Value.func (.func 64) [].toArray [].toArray)))) U U (aX se U)) U U)<|rS (SX (aY (xs:=[(0,.func 65)]) (cs:=(dz.cells (dz.mk (Value.func (.func 65) [].toArray [].toArray)))) U U (aX se U)) U U)<|rS (SX (aY (xs:=[(0,.tmp 1),(1,.tmp 2)]) (cs:=((dz.cells (dz.mk (Value.func (.func 64) [].toArray [].toArray)))++(dz.cells (dz.mk (Value.func (.func 65) [].toArray [].toArray))))) U U (aX ur U)) U U)<|eg U si U<|RK B<|an ?_
 exact u_ hQ [0] (mc 0 U mn) U U
end
section
open Go.RowKit
theorem kA (s:ah) (best:Bool) (tsA:OA) (tsN tsC:Nat):
 kI Try.prog 28 [(vA (aW.cells (aW.mk s (ai.mk (cp.mk tsA tsN tsC)) best)))] [] (fun (x:Nat)=>(Value.func (.func 51) [].toArray [(vP x)].toArray)) (fun (x:Nat)=>True) (fun (x:Nat)=>[(ct x 69 (aW.cells (aW.mk s (ai.mk (cp.mk tsA tsN tsC)) best)))]):=by
 refine dM kr Try.func28 U U fun D Q hQ hN=>?_
 try dsimp only
 refine WS fun _ A=>dp U fun C=>aP 1 U<|RK A<|WS fun _ B=>rS (FU U)<|rP 1 [] mn ?_
 refine RK B<|an<|LX hQ C [0] [] mn U U U U ?_
 trivial
theorem oM (s:ah) (ts:List aa) (tsA:OA) (tsC:Nat) (best:Bool) (g1:Nat) (hs:aC s) (hst: ∀ x∈ts,ak x) (hlen:ts.length≤12):
 rO Try.prog 51 [] [(vP g1)] [(rd tsA ts.length 9 (ts.map aa.cells)),(ct g1 69 (aW.cells (aW.mk s (ai.mk (cp.mk tsA ts.length tsC)) best)))] (eY best s ts):=by
 refine nD kr Try.func51 U U fun l J Z A0 w0 Q hY p o hQ hN=>?_
 try dsimp only
 refine WS fun _ t=>rS (CL p9 (ao) U)<|AL U rV fun b2=>eg U si U<|RK t<|WS fun _ u=>e7 3 [] (mr 3 U mn) U<|rS (wC (ab.cells s.Start) 3 U cd U U U)<|rS (CL (jc s best tsA ts.length tsC s.Start true) (ao) U)<|aP 1 U<|RK u<|aj fun _ v=>WS fun _ y=>rP 5 [] (mr 3 U mn) ?_
 refine RK y<|au ?_
 have H:(0≤ts.length)∧(J 0 A0)∧(Fo A0 w0 A0):=by exact ⟨I,p,o⟩
 refine bx (ι:={z:Nat×ag // (z.1≤ts.length)∧(J z.1 z.2)∧(Fo A0 w0 z.2)}) [0,1,3,19,20] [0,2,3] U U (fun z=>[(4,(vI (aF best s ts z.1.1))),(21,(vI (z.1.1:Int)))]) (fun z=>[z.1.2]) (fun _=>rfl) (fun _=>rfl) (fun z=>ts.length-z.1.1) ⟨(0,A0),H⟩ (aB U) (aV [0,2,3,1]) ?_
 clear H
 rintro ⟨⟨i,A⟩,⟨K,B,C⟩⟩ J6 q
 try dsimp only at K B C
 try dsimp only
 have hb:=cC (best:=best) hs hst i
 refine WS fun _ AB=>rP 1 [] mn ?_
 refine RK AB<|aj fun _ AC=>bp U (aM fun h9=>?_) (aL fun h9=>?_)
 ·refine bo<|ae<|ae<|aw<|KK v<|aq<|rP 6 [] (mr 2 U mn) ?_
  refine kT 3 hY B C U U U (n7 I I) U U (fun B37 G E=>?_) (fun B37 G E=>?_)
  rotate_left 1
  ·refine aD ?_
   refine hN _ _ _ (eC (vs:=[]) trivial fun w hs=>oS 3 U G E hs)
  refine aD ?_
  refine hN _ _ _ (eC (vs:=[]) trivial fun w hs=>uD 3 U (by rw [fK]; have e:ts.length=i:=I; rw [e]; exact G) E hs)
 refine WK AC<|aj fun _ M=>au<|WS fun _ N=>rP 1 [] mn ?_
 obtain ⟨x,L⟩:=bh ts i I
 have m:=bC aa.cells L
 refine rS (IA i U (aH 1 U) gU dc I I) ?_
 have n:=hst x (aA L)
 have k:=bq (best:=best) (f:=false) n.2.1
 have AQ:=bq (best:=best) (f:=true) n.2.2.1
 have h5:=bq (best:=best) (f:=false) hs.2.2.2.1
 have h6:=bq (best:=best) (f:=true) hs.2.2.2.2.1
 have h7:=bq (best:=best) (f:=false) hs.2.2.1
 have m1:=ma hb.1 (show aF best s ts i≤400000 by omega) h5.1 h5.2
 have m2:=ma m1.1 m1.2 (show 0≤bM best false x.bR by omega) k.2
 have m3:=tG (b:=100*bM best true s.Weight) m2.1 m2.2 I
 have m4:=ma h7.1 h7.2 (show 0≤bM best false x.bR by omega) k.2
 refine rS (nw i 0 (aa.cells x) U cd (aH 1 U) m U dc U U)<|AL U oh fun AM=>aP 1 U<|eg U pg U<|RK N<|aj fun _ O=>WS fun _ AE=>rP 3 [] mn ?_
 refine kT 4 hY B C U U U (iP I) U U (fun B15 F D=>?_) (fun B15 F D=>?_)
 rotate_left 1
 ·refine rP 1 [] mn ?_
  refine RK AE<|aK U<|an ?_
  refine hQ _ _ _ (eC (vs:=[]) trivial fun w hs=>oS 4 U F D hs)
 refine aP 1 U<|RK AE<|bH U<|WK O<|aj fun _ P=>cy ck 12 kr<|kc 2 [] (mr 3 U mn) U<|dS (LP (ab.cells x.bR) 0 U cd U U U)<|dS (CL (jc s best tsA ts.length tsC x.bR false) (ao) U)<|kc 3 [] (mr 3 U mn) U<|dS (LP (ab.cells x.bT) 0 U cd U U U)<|dS (CL (jc s best tsA ts.length tsC x.bT true) (ao) U)<|eR 3 U<|b_<|RK P<|aj fun _ R=>WS fun _ S=>e7 2 [] (mc 1 U mn) U<|RK S<|au<|jQ 3<|fx fun R21 g=>WS fun _ T=>rS (SX (bu (r:= .bool true) U U U l6) U U)<|RK T<|aj fun _ AD=>aK U<|WK AD<|aj fun _ V=>au<|WS fun _ W=>rS (SX (l_ (vs:=(dz.cells (dz.mk (Value.func (.func 64) [].toArray [].toArray)))) 0 U U U r8 cd U dc U) U U)<|AL U sf fun AN=>eg U rT U<|RK W<|aq<|rP 6 [0,1] (mc 0 U (mr 4 U mn)) ?_
 refine rS (CL (uL s best tsA ts.length tsC (aF best s ts i) (bM best false x.bR) hs sd sd) (ao) U) ?_
 refine aP 2 U<|aD<|az<|KK V<|aq<|rS (SX (bu (r:= .int .i64 1) U U U (gP ⟨dc,dc⟩)) U U)<|aP 1 U<|RK g<|fx fun R27 h=>WS fun _ X=>rS (SX (bu (r:= .bool true) U U U l6) U U)<|RK X<|aj fun _ Y=>aK U<|WK Y<|aj fun _ a=>au<|WS fun _ c=>rS (SX (l_ (vs:=(dz.cells (dz.mk (Value.func (.func 65) [].toArray [].toArray)))) 1 U U U r8 cd U dc U) U U)<|AL U sf fun AO=>eg U rT U<|RK c<|aq<|rP 6 [0,1] (mc 0 U (mr 5 U mn)) ?_
 refine rS (CL (uN s best tsA ts.length tsC (aF best s ts i) (bM best false x.bR) hs sd) (ao) U) ?_
 refine aP 2 U<|aD<|az<|KK a<|aq<|rS (SX (bu (r:= .int .i64 2) U U U (gP ⟨dc,dc⟩)) U U)<|aP 1 U<|RK h<|fx fun R33 AH=>WS fun _ d=>rS (SX (bu (r:= .bool false) U U U l6) U U)<|RK d<|aj fun _ AF=>bH U<|bo<|ae<|ae<|aw<|KK R<|aq<|aP 1 U<|rS (MX U)<|aP 1 U<|aD<|az<|KK M<|aq<|rP 2 [] mn ?_
 refine aD ?_
 have j:(vI (aF best s ts (i+1)))=(vI (max 0 ((((aF best s ts i)+(bM best true x.bT))-(min (aF best s ts i) ((aF best s ts i)*bM best false s.fw*(bM best false x.bR)/(100*bM best true s.Weight))))-(bM best false s.kO*(bM best false x.bR)/100)))):=by rw [lY L]; refine cI ?_; unfold fR jt; omega
 refine aR (q ⟨((i+1),B15),⟨I,F,D⟩⟩ _ _ _ U os (cz 5<|bO U j<|aB U) (aV [3,4,5,6]))
theorem pQ (s:ah) (ts:List aa) (tsA:OA) (tsC:Nat) (best:Bool) (hs:aC s) (hst: ∀ x∈ts,ak x) (hlen:ts.length≤12):
 kI Try.prog 27 [(vA (aW.cells (aW.mk s (ai.mk (cp.mk tsA ts.length tsC)) best)))] [(rd tsA ts.length 9 (ts.map aa.cells))] (fun (x:(OA)×Nat)=>(vS x.1 ((bX best s ts).length) x.2)) (fun (x:(OA)×Nat)=>True) (fun (x:(OA)×Nat)=>[(own x.1 x.2 3 1 ((bX best s ts).map iC))]):=by
 refine dM kr Try.func27 U U fun W Q hQ hN=>?_
 try dsimp only
 refine WS fun _ G=>dp U fun V=>aP 1 U<|RK G<|WS fun _ H=>AL U sL fun O=>RK H<|aj fun _ AC=>WS fun _ J=>rP 1 [] (mc 1 U mn) ?_
 refine cX (kA s best tsA ts.length tsC) (ao) U fun P T=>?_
 try dsimp only
 refine RK J<|au<|m0 3 U (by exact fun _ h=>h)<|iF 3 1 ?_
 refine kN (L0:=[(3,(vP O))]) (F:=[(rd tsA ts.length 9 (ts.map aa.cells)).ro,(ct P 69 (aW.cells (aW.mk s (ai.mk (cp.mk tsA ts.length tsC)) best)))]) (xs:=(eY best s ts)) (fun k (y:(OA)×Nat)=>True) (fun k y=>[(own y.1 y.2 3 1 (((bX best s ts).take k).map iC)),(ct O 72 [(vS y.1 (((bX best s ts).take k).length) y.2)]),(rd tsA ts.length 9 (ts.map aa.cells)).ro]) (fun _ (_:Unit)=>False) (fun _ _=>[]) [0,3,5] [1,2] (none,0) U U (oM s ts tsA tsC best P (by first|assumption|omega|(simp; done)) (by first|assumption|omega|(simp; done)) (by first|assumption|omega|(simp; done))) U U U (by trivial) (by simp only [List.forall_mem_cons,List.not_mem_nil,false_imp_iff,implies_true,and_true]; exact ⟨⟨_,sm,(fY (dh _))⟩,⟨_,sm,(dh _)⟩⟩) (by exact jW) U (aB U) ?_ ?_ (fun _ _ _ h=>h.elim) (fun _ _ h=>h.elim)
 rotate_left 1
 ·rintro AB ⟨a,c⟩ L
  try dsimp only
  rw [jL]
  refine az<|KK AC<|WS fun _ C=>rP 2 [] (mc 4 U mn) ?_
  refine RK C<|an<|hQ _ _ _ (mI 0 U U<|eC (vs:=[(vS a ((bX best s ts).length) c)]) ⟨U,trivial⟩ fun w hs=>sV (a,c) [3] ?_ ?_ U U U hs)
  ·rfl
  ·trivial
 rintro k x ⟨a,c⟩ l ra rb S X K10 Qr11 hx K B A M N
 obtain ⟨hk,rfl⟩:=ku hx
 try dsimp only
 refine aq<|rP 1 [] mn ?_
 refine aD<|aR (B _ _ ?_)
 refine au<|aq<|rP 2 [] (mc 2 U mn) ?_
 refine gp (xs:=[.tmp 11]) (cs:=[(vI (aF best s ts k))]) U eP rf U U U U (by simp [Value.cells]) U U fun R=>?_
 refine ig (es2:=(List.map iC ((bX best s ts).take (k+1)))) (m':=((bX best s ts).take (k+1)).length) 2 U U U uH U U sm (bI (es:=List.map iC [(aF best s ts k)]) 0 U U (by simp [cY]) U) (px _) (by simp [di]; omega) (by simp [di,maxLen]; omega) (by rw [l0 hk]; simp) sm U fun D E=>?_
 try dsimp only
 refine wA U tj U U<|aD<|az ?_
 exact A (D,E) _ _ (by trivial) (aV [1,2,3,4])
end
section
open Go.RowKit
theorem sY (s:ah) (hc:0≤s.Class∧s.Class≤255):
 cn Try.prog 21 [(vA (ah.cells s))] [] (vB (decide (aC s))):=by
 refine aS kr Try.func21 U U fun AB Q hQ hN=>?_
 try dsimp only
 refine WS fun _ B=>dp U fun H=>aP 1 U<|RK B<|WS fun _ A=>e7 2 [] (mc 0 U mn) U<|rS (SX (ek (m:=s.Class) U U rA k_ (cR (by first|assumption|omega))) U U)<|rS (CL (ko s.Class 1 3) (ao) U)<|rP 1 [] mn ?_
 refine cM (t:=7) U (aM fun C=>?_) (aL fun C=>?_)
 ·refine rP 25 [] mn ?_
  refine RK A<|an<|Q1 hQ U U U ?_
  exact cB (bD (by simp only [aC,ay]; omega)).symm
 refine aP 1 U<|rS (LP (ab.cells s.Start) 0 U cd U U U)<|rS (CL (iB s.Start 0 200000) (ao) U)<|rP 2 [] mn ?_
 refine cM (t:=12) U (aM fun D=>?_) (aL fun D=>?_)
 ·refine rP 20 [] mn ?_
  refine RK A<|an<|Q1 hQ U U U ?_
  exact cB (bD (by simp only [aC,ay]; omega)).symm
 refine aP 1 U<|rS (LP (ab.cells s.kO) 0 U cd U U U)<|rS (CL (iB s.kO 0 100) (ao) U)<|rP 2 [] mn ?_
 refine cM (t:=17) U (aM fun E=>?_) (aL fun E=>?_)
 ·refine rP 15 [] mn ?_
  refine RK A<|an<|Q1 hQ U U U ?_
  exact cB (bD (by simp only [aC,ay]; omega)).symm
 refine aP 1 U<|rS (LP (ab.cells s.fw) 0 U cd U U U)<|rS (CL (iB s.fw 0 1000) (ao) U)<|rP 2 [] mn ?_
 refine cM (t:=22) U (aM fun F=>?_) (aL fun F=>?_)
 ·refine rP 10 [] mn ?_
  refine RK A<|an<|Q1 hQ U U U ?_
  exact cB (bD (by simp only [aC,ay]; omega)).symm
 refine aP 1 U<|rS (LP (ab.cells s.Weight) 0 U cd U U U)<|rS (CL (iB s.Weight 50000 800000) (ao) U)<|rP 2 [] mn ?_
 refine cM (t:=27) U (aM fun G=>?_) (aL fun G=>?_)
 ·refine rP 5 [] mn ?_
  refine RK A<|an<|Q1 hQ U U U ?_
  exact cB (bD (by simp only [aC,ay]; omega)).symm
 refine aP 1 U<|rS (LP (ab.cells s.dT) 0 U cd U U U)<|rS (CL (iB s.dT (-500) 500) (ao) U)<|rP 2 [] mn ?_
 refine RK A<|an<|Q1 hQ U U U ?_
 exact cB (fj.2 (by simp only [aC,ay]; omega))
theorem fg (lo hi:Int) (l:List ab) (lA:OA) (lC:Nat) (hle:lo≤hi) (hlen:l.length≤1000000):
 cn Try.prog 63 [(vI lo),(vI hi),(vS lA l.length lC)] [(rd lA l.length 2 (l.map ab.cells))] (vB (k4 lo hi l)):=by
 refine aS kr Try.func63 U U fun S Q hQ hN=>?_
 try dsimp only
 refine WS fun _ G=>aP 1 U<|RK G<|aj fun _ H=>WS fun _ AB=>rP 3 [] mn ?_
 refine RK AB<|au ?_
 have B:(0≤l.length)∧((l.take 0).all (fun s=>decide (s.Lo≤s.Hi∧lo≤s.Lo∧s.Hi≤hi))=true):=by simp
 refine bx (ι:={z:Nat // (z≤l.length)∧((l.take z).all (fun s=>decide (s.Lo≤s.Hi∧lo≤s.Lo∧s.Hi≤hi))=true)}) [0,1,2,9,10] [0] U U (fun z=>[(11,(vI (z.1:Int)))]) (fun z=>[]) (fun _=>rfl) (fun _=>rfl) (fun z=>l.length-z.1) ⟨0,B⟩ (aB U) (aV [0]) ?_
 clear B
 rintro ⟨i,⟨N,A⟩⟩ J4 F
 try dsimp only
 refine WS fun _ J=>rP 1 [] mn ?_
 refine RK J<|aj fun _ K=>bp U (aM fun R=>?_) (aL fun R=>?_)
 ·refine bo<|ae<|ae<|aw<|KK H<|WS fun _ E=>rP 1 [] mn ?_
  refine RK E<|an<|Q1 hQ U U U ?_
  first|exact cB (oY hx (bD (by rw [ab.ext_iff] at h; simp only at h; omega))).symm|exact cB (nE I A).symm
 refine WK K<|aj fun _ L=>au<|WS fun _ M=>?_
 obtain ⟨x,hx⟩:=bh l i I
 have O:=bC ab.cells hx
 refine rS (IA i U (aH 0 U) gG dc I I)<|rS (nw i 0 (ab.cells x) U cd (aH 0 U) O U dc U U)<|AL U fD fun P=>eg U fO U<|RK M<|WS fun _ C=>e7 6 [] (mc 0 U mn) U<|rS (MN U)<|rS (MX U)<|rP 5 [] (mc 0 U mn) ?_
 refine rS (MX U)<|rS (MN U)<|rS (SX (aY (xs:=[(0,.tmp 22),(1,.tmp 29)]) (cs:=(ab.cells (ab.mk (max lo (min x.Lo x.Hi)) (min hi (max x.Lo x.Hi))))) U U (aX gV U)) U U)<|rS (BI U (r_ _ _ x (ab.mk (max lo (min x.Lo x.Hi)) (min hi (max x.Lo x.Hi)))))<|RK C<|bY U (aJ fun h=>?_) (aI fun h=>?_)
 ·refine WS fun _ D=>rP 1 [] mn ?_
  refine RK D<|an<|Q1 hQ U U U ?_
  first|exact cB (oY hx (bD (by rw [ab.ext_iff] at h; simp only at h; omega))).symm|exact cB (nE I A).symm
 refine bW<|az<|KK L<|aq<|rP 2 [] mn ?_
 refine aD ?_
 refine aR (F ⟨(i+1),⟨I,o8 hx A (dH (by rw [ab.ext_iff] at h; simp only at h; omega))⟩⟩ _ _ _ U os (aB U) (aV [1]))
theorem oP (s:ah):
 cn Try.prog 50 [(vA (ah.cells s))] [] (vI (if aC s then 0 else 30)):=by
 refine aS kr Try.func50 U U fun Z Q hQ hN=>?_
 try dsimp only
 refine WS fun _ R=>dp U fun Y=>aP 1 U<|RK R<|aj fun _ S=>WS fun _ A=>e7 2 [] (mc 0 U mn) U<|rS (BI U l6)<|rP 1 [] mn ?_
 refine cb (t:=6) U (aL fun W=>?_) (aM fun W=>?_)
 ·refine aP 39 U<|RK A<|aK U<|WS fun _ T=>rP 1 [] mn ?_
  refine RK T<|an<|Q1 hQ U U U ?_
  first|exact cI (if_neg (by simp only [aC,ay]; omega)).symm|exact cI (if_pos (by simp only [aC,ay]; omega)).symm
 refine e7 2 [] (mc 0 U mn) U<|rS (BI U pd)<|rP 2 [] mn ?_
 refine cb (t:=11) U (aL fun X=>?_) (aM fun X=>?_)
 ·refine aP 34 U<|RK A<|aK U<|WS fun _ AB=>rP 1 [] mn ?_
  refine RK AB<|an<|Q1 hQ U U U ?_
  first|exact cI (if_neg (by simp only [aC,ay]; omega)).symm|exact cI (if_pos (by simp only [aC,ay]; omega)).symm
 refine rP 1 [] mn ?_
 refine rS (LP (ab.cells s.Start) 0 U cd U U U)<|gp (xs:=[.tmp 13]) (cs:=(ab.cells s.Start)) U gG fD U U U U (by simp [Value.cells,ab.aO]) U U fun V=>?_
 refine rS (CL (cn.eq (fg 0 200000 ([s.Start]) (some ⟨V,0,none⟩) 1 sd sd) dZ) (bB (bI 0 U U (by simp [ab.aO]) U)<|ao) U) ?_
 refine rP 3 [] mn ?_
 refine cb (t:=18) U (aJ fun L=>?_) (aI fun L=>?_)
 ·refine aP 27 U<|RK A<|aK U<|WS fun _ B=>rP 1 [] mn ?_
  refine RK B<|an<|Q1 hQ U U U ?_
  first|exact cI (if_neg (by simp only [aC,ay]; omega)).symm|exact cI (if_pos (by simp only [aC,ay]; omega)).symm
 refine rP 1 [] mn ?_
 refine rS (LP (ab.cells s.kO) 1 U cd U U U)<|gp (xs:=[.tmp 20]) (cs:=(ab.cells s.kO)) U gG fD U U U U (by simp [Value.cells,ab.aO]) U U fun H=>?_
 refine rS (CL (cn.eq (fg 0 100 ([s.kO]) (some ⟨H,0,none⟩) 1 sd sd) dZ) (bB (bI 0 U U (by simp [ab.aO]) U)<|ao) U) ?_
 refine rP 3 [] mn ?_
 refine cb (t:=25) U (aJ fun M=>?_) (aI fun M=>?_)
 ·refine aP 20 U<|RK A<|aK U<|WS fun _ C=>rP 1 [] mn ?_
  refine RK C<|an<|Q1 hQ U U U ?_
  first|exact cI (if_neg (by simp only [aC,ay]; omega)).symm|exact cI (if_pos (by simp only [aC,ay]; omega)).symm
 refine rP 1 [] mn ?_
 refine rS (LP (ab.cells s.fw) 2 U cd U U U)<|gp (xs:=[.tmp 27]) (cs:=(ab.cells s.fw)) U gG fD U U U U (by simp [Value.cells,ab.aO]) U U fun AC=>?_
 refine rS (CL (cn.eq (fg 0 1000 ([s.fw]) (some ⟨AC,0,none⟩) 1 sd sd) dZ) (bB (bI 0 U U (by simp [ab.aO]) U)<|ao) U) ?_
 refine rP 3 [] mn ?_
 refine cb (t:=32) U (aJ fun N=>?_) (aI fun N=>?_)
 ·refine aP 13 U<|RK A<|aK U<|WS fun _ D=>rP 1 [] mn ?_
  refine RK D<|an<|Q1 hQ U U U ?_
  first|exact cI (if_neg (by simp only [aC,ay]; omega)).symm|exact cI (if_pos (by simp only [aC,ay]; omega)).symm
 refine rP 1 [] mn ?_
 refine rS (LP (ab.cells s.Weight) 3 U cd U U U)<|gp (xs:=[.tmp 34]) (cs:=(ab.cells s.Weight)) U gG fD U U U U (by simp [Value.cells,ab.aO]) U U fun J=>?_
 refine rS (CL (cn.eq (fg 50000 800000 ([s.Weight]) (some ⟨J,0,none⟩) 1 sd sd) dZ) (bB (bI 0 U U (by simp [ab.aO]) U)<|ao) U) ?_
 refine rP 3 [] mn ?_
 refine cb (t:=39) U (aJ fun O=>?_) (aI fun O=>?_)
 ·refine aP 6 U<|RK A<|aK U<|WS fun _ E=>rP 1 [] mn ?_
  refine RK E<|an<|Q1 hQ U U U ?_
  first|exact cI (if_neg (by simp only [aC,ay]; omega)).symm|exact cI (if_pos (by simp only [aC,ay]; omega)).symm
 refine rP 1 [] mn ?_
 refine rS (LP (ab.cells s.dT) 4 U cd U U U)<|gp (xs:=[.tmp 41]) (cs:=(ab.cells s.dT)) U gG fD U U U U (by simp [Value.cells,ab.aO]) U U fun K=>?_
 refine rS (CL (cn.eq (fg (-500) 500 ([s.dT]) (some ⟨K,0,none⟩) 1 sd sd) dZ) (bB (bI 0 U U (by simp [ab.aO]) U)<|ao) U) ?_
 refine rP 2 [] mn ?_
 refine RK A<|bY U (aJ fun P=>?_) (aI fun P=>?_)
 ·refine WS fun _ F=>rP 1 [] mn ?_
  refine RK F<|an<|Q1 hQ U U U ?_
  first|exact cI (if_neg (by simp only [aC,ay]; omega)).symm|exact cI (if_pos (by simp only [aC,ay]; omega)).symm
 refine WK S<|WS fun _ G=>rP 1 [] mn ?_
 refine RK G<|an<|Q1 hQ U U U ?_
 first|exact cI (if_neg (by simp only [aC,ay]; omega)).symm|exact cI (if_pos (by simp only [aC,ay]; omega)).symm
end
section
open Go.RowKit
theorem uc (n lo hi:Int) (g1 g2:Nat):
 cn Try.prog 58 [(vI n),(vP g1),(vP g2)] [(ct g1 3 [(vI lo)]),(ct g2 3 [(vI hi)])] (vB (decide (n<lo∨hi<n))):=by
 refine aS kr Try.func58 U U fun D Q hQ hN=>?_
 try dsimp only
 refine WS fun _ B=>aP 1 U<|RK B<|WS fun _ A=>rP 4 [] (mr 0 U mn) ?_
 refine cb (t:=8) U (aL fun C=>?_) (aM fun C=>?_)
 ·refine rP 5 [] mn ?_
  refine RK A<|an<|Q1 hQ U U U ?_
  exact cB (dH I).symm
 refine rP 5 [] (mr 1 U mn) ?_
 refine RK A<|an<|Q1 hQ U U U ?_
 exact cB (fj.2 I)
theorem qT (l:List Int) (lA:OA) (lC:Nat) (f:Value) (p:Int→Bool) (X:ag) (hf: ∀ x0,x0∈l→tT Try.prog f [.int .i64 x0] [X] (.bool (p x0))) (hlen:l.length≤1000000):
 cn Try.prog 68 [(vS lA l.length lC),f] [(rd lA l.length 1 (l.map iC)),X] (vI (ju p l)):=by
 refine aS kr Try.func68 U U fun R Q hQ hN=>?_
 try dsimp only
 refine WS fun _ F=>aP 1 U<|RK F<|aj fun _ G=>WS fun _ H=>rP 3 [] mn ?_
 refine RK H<|au ?_
 have B:(0≤l.length)∧((l.take 0).any p=false):=by simp
 refine bx (ι:={z:Nat // (z≤l.length)∧((l.take z).any p=false)}) [0,1,7] [0,1] U U (fun z=>[(8,(vI (z.1:Int)))]) (fun z=>[]) (fun _=>rfl) (fun _=>rfl) (fun z=>l.length-z.1) ⟨0,B⟩ (aB U) (aV [0,1]) ?_
 clear B
 rintro ⟨i,⟨N,A⟩⟩ J4 M
 try dsimp only
 refine WS fun _ AB=>rP 1 [] mn ?_
 refine RK AB<|aj fun _ J=>bp U (aM fun P=>?_) (aL fun P=>?_)
 ·refine bo<|ae<|ae<|aw<|KK G<|WS fun _ E=>rP 1 [] mn ?_
  refine RK E<|an<|Q1 hQ U U U ?_
  clear hQ hN E J AB H G F
  exact cI (j3 I A).symm
 refine WK J<|aj fun _ K=>au<|WS fun _ L=>aP 2 U<|RK L<|WS fun _ C=>rP 3 [] mn ?_
 obtain ⟨x,hx⟩:=bh l i I
 have O:=bC iC hx
 refine rS (IA i U (aH 0 U) eP dc I I)<|rS (fX i 0 (vI x) U cd (aH 0 U) O U dc U)<|rS (SX (mO U U U (hf x (aA hx)) (aU [1])) U U)<|RK C<|bp U (fun hp=>?_) (fun hp=>?_)
 ·refine bW<|az<|KK K<|aq<|rP 2 [] mn ?_
  refine aD ?_
  refine aR (M ⟨(i+1),⟨I,oJ hx A hp⟩⟩ _ _ _ U os (aB U) (aV [0,1]))
 refine WS fun _ D=>rP 2 [] mn ?_
 refine RK D<|an<|Q1 hQ U U U ?_
 clear hQ hN D C L K J AB H G F
 first|exact cI (pZ hx hp A).symm|exact cI (j3 I A).symm
theorem mq (l:List Int) (lA:OA) (lC:Nat) (f:Value) (p:Int→Bool) (X:ag) (hf: ∀ x0,x0∈l→tT Try.prog f [.int .i64 x0] [X] (.bool (p x0))) (hlen:l.length≤1000000):
 cn Try.prog 57 [(vS lA l.length lC),f] [(rd lA l.length 1 (l.map iC)),X] (vB (l.any p)):=by
 refine aS kr Try.func57 U U fun C Q hQ hN=>?_
 try dsimp only
 refine WS fun _ A=>aP 1 U<|RK A<|WS fun _ B=>aP 2 U<|rS (CL (qT l lA lC f p X (by exact hf) hlen) (aU [0,1]) U)<|rP 2 [] mn ?_
 refine RK B<|an<|Q1 hQ U U U ?_
 exact cB ox
theorem mD (lo hi:Int) (l:List Int) (lA:OA) (lC:Nat) (hlen:l.length≤1000000):
 cn Try.prog 41 [(vI lo),(vI hi),(vS lA l.length lC)] [(rd lA l.length 1 (l.map iC))] (vB (ly lo hi l)):=by
 refine aS kr Try.func41 U U fun F Q hQ hN=>?_
 try dsimp only
 refine WS fun _ D=>tM U U fun A=>tM U U fun B=>aP 1 U<|RK D<|WS fun _ E=>rP 1 [] mn ?_
 refine rS (FU U) ?_
 refine rS (CL (mq l lA lC (Value.func (.func 58) [].toArray [(vP A),(vP B)].toArray) (fun C=>(decide (C<lo∨hi<C))) (so [(ct A 3 [(vI lo)]),(ct B 3 [(vI hi)])]) (by intro C _; exact j6 (fi:=[]) (ca:=[(vP A),(vP B)]) (ik (uc C lo hi A B) (aU [0,1]))) hlen) (kv 2 U U<|bB (ia (aU [1,0]))<|ao) U) ?_
 refine rP 2 [] mn ?_
 refine RK E<|an ?_
 exact Q1 hQ U U U U
theorem jq (s:ab) (lo hi:Int):
 cn Try.prog 42 [(vA (ab.cells s)),(vI lo),(vI hi)] [] (vB (decide (s.Lo≤s.Hi∧lo≤s.Lo∧s.Hi≤hi))):=by
 refine aS kr Try.func42 U U fun F Q hQ hN=>?_
 try dsimp only
 refine WS fun _ B=>dp U fun E=>aP 1 U<|RK B<|WS fun _ A=>rP 6 [] (mc 0 U mn) ?_
 refine gp (xs:=[.tmp 10,.tmp 12]) (cs:=[(vI s.Lo),(vI s.Hi)]) U eP rf U U U U (by simp [Value.cells]) U U fun C=>?_
 refine rS (CL (cn.eq (mD lo hi ([s.Lo,s.Hi]) (some ⟨C,0,none⟩) 2 (by (simp; done))) kz) (bB (bI 0 U U (by simp [cY]) U)<|ao) U) ?_
 refine rP 1 [] mn ?_
 refine cM (t:=15) U (aM fun D=>?_) (aL fun D=>?_)
 ·refine rP 7 [] mn ?_
  refine RK A<|an<|Q1 hQ U U U ?_
  exact cB (bD I).symm
 refine rP 7 [] (mc 1 U mn) ?_
 refine RK A<|an<|Q1 hQ U U U ?_
 exact cB (fj.2 I)
end
section
open Go.RowKit
theorem qL (ts:List aa) (tsA:OA) (tsC:Nat) (hlen:ts.length≤1000000):
 cn Try.prog 20 [(vA (ai.cells (ai.mk (cp.mk tsA ts.length tsC))))] [(rd tsA ts.length 9 (ts.map aa.cells))] (vB (aG ts)):=by
 refine aS kr Try.func20 U U fun w0 Q hQ hN=>?_
 try dsimp only
 refine WS fun _ Ab=>dp U fun b2=>aP 1 U<|RK Ab<|aj fun _ Ac=>WS fun _ Ad=>e7 3 [] (mc 0 U mn) U<|rS (CL (dx (ts.length:Int) 1 12) (ao) U)<|rP 1 [] mn ?_
 refine RK Ad<|bY U (aJ fun h5=>?_) (aI fun h5=>?_)
 ·refine WS fun _ Ae=>rP 1 [] mn ?_
  refine RK Ae<|an<|Q1 hQ U U U ?_
  exact cB (eZ I).symm
 refine WK Ac<|aj fun _ Af=>WS fun _ Ag=>rP 1 [] mn ?_
 refine RK Ag<|au ?_
 have E:(0≤ts.length)∧(bf (-1) ts=bf (bQ ts 0) (ts.drop 0))∧(-1≤bQ ts 0):=by (refine ⟨I,rfl,by simp [bQ]⟩)
 refine bx (ι:={z:Nat // (z≤ts.length)∧(bf (-1) ts=bf (bQ ts z) (ts.drop z))∧(-1≤bQ ts z)}) [1] [0,1] U U (fun z=>[(3,(vI (z.1:Int)))]) (fun z=>[]) (fun _=>rfl) (fun _=>rfl) (fun z=>ts.length-z.1) ⟨0,E⟩ (aB U) (aV [0,1]) ?_
 clear E
 rintro ⟨i,⟨Ah,A,Ai⟩⟩ J9 D
 try dsimp only
 have hz:i=0→bQ ts i= -1:=l7
 refine aj fun _ K=>WS fun _ L=>rP 5 [] (mc 0 U mn) ?_
 refine RK L<|bp U (aM fun v=>?_) (aL fun v=>?_)
 ·refine bo<|ae<|ae<|aw<|KK Af<|WS fun _ u=>rP 1 [] mn ?_
  refine RK u<|an<|Q1 hQ U U U ?_
  exact cB (jf A I I).symm
 refine WK K<|aj fun _ C=>au<|WS fun _ M=>rP 3 [] (mc 0 U mn) ?_
 obtain ⟨x,hx⟩:=bh ts i I
 have Aj:=bC aa.cells hx
 refine rS (IA i U (aH 1 U) gU dc I I)<|rS (nw i 0 (aa.cells x) U cd (aH 1 U) Aj U dc U U)<|AL U oh fun Al=>eg U pg U<|RK M<|aj fun _ F=>aj fun _ B=>cy ck 38 kr<|kc 2 [] (mc 0 U mn) U<|dS (CL (dx x.Id 0 9999) (ao) U)<|dP 2 [] mn ?_
 refine ed (t:=26) U (aJ fun w=>?_) (aI fun w=>?_)
 ·refine eR 11 U<|eR 22 U<|b_<|RK B<|aK U<|WS fun _ N=>rP 1 [] mn ?_
  refine RK N<|an<|Q1 hQ U U U ?_
  exact cB (ba A hx (by simp only [ak,ay]; omega)).symm
 refine dP 3 [] mn ?_
 refine im (t:=29) U (aM fun AB=>?_) (aL fun AB=>?_)
 ·refine eR 8 U<|eR 6 U<|dS (LP (ab.cells x.bR) 0 U cd U U U)<|dS (CL (ei x.bR 1 30000) (ao) U)<|dP 3 [] mn ?_
  refine ed (t:=48) U (aJ fun AQ=>?_) (aI fun AQ=>?_)
  ·refine eR 11 U<|b_<|RK B<|aK U<|WS fun _ e=>rP 1 [] mn ?_
   refine RK e<|an<|Q1 hQ U U U ?_
   exact cB (ba A hx (by simp only [ak,ay]; omega)).symm
  refine eR 1 U<|dS (LP (ab.cells x.bT) 0 U cd U U U)<|dS (CL (ei x.bT 0 5000) (ao) U)<|dP 3 [] mn ?_
  refine ed (t:=54) U (aJ fun AR=>?_) (aI fun AR=>?_)
  ·refine eR 5 U<|b_<|RK B<|aK U<|WS fun _ f=>rP 1 [] mn ?_
   refine RK f<|an<|Q1 hQ U U U ?_
   exact cB (ba A hx (by simp only [ak,ay]; omega)).symm
  refine kc 2 [] (mc 0 U mn) U<|dS (CL (dx x.dD 0 5000) (ao) U)<|dP 2 [] mn ?_
  refine b_<|RK B<|bY U (aJ fun AS=>?_) (aI fun AS=>?_)
  ·refine WS fun _ g=>rP 1 [] mn ?_
   refine RK g<|an<|Q1 hQ U U U ?_
   exact cB (ba A hx (by simp only [ak,ay]; omega)).symm
  refine WK F<|WS fun _ h=>e7 2 [] (mc 0 U mn) U<|RK h<|au<|WS fun _ j=>rS (BI U dB)<|rP 1 [] mn ?_
  refine RK j<|bY U (aL fun AT=>?_) (aM fun AT=>?_)
  ·refine WS fun _ Am=>rP 5 [] (mc 0 U mn) ?_
   refine cb (t:=68) U (aJ fun AU=>?_) (aI fun AU=>?_)
   ·refine aP 5 U<|RK Am<|aK U<|WS fun _ k=>rP 1 [] mn ?_
    refine RK k<|an<|Q1 hQ U U U ?_
    exact cB (ba A hx (by simp only [ak,ay]; omega)).symm
   refine rP 5 [] (mc 0 U mn) ?_
   refine RK Am<|bp U (aI fun AV=>?_) (aJ fun AV=>?_)
   ·refine bW<|az<|az<|KK C<|aq<|rP 3 [] mn ?_
    refine aD ?_
    refine aR (D ⟨(i+1),⟨I,b1 A hx (by simp only [ak,ay]; omega),by rw [bN hx]; omega⟩⟩ _ _ _ U os (aB U) (aV [1,2]))
   refine WS fun _ l=>rP 1 [] mn ?_
   refine RK l<|an<|Q1 hQ U U U ?_
   exact cB (ba A hx (by simp only [ak,ay]; omega)).symm
  refine aj fun _ J=>WS fun _ m=>rS (BI U dB)<|rP 1 [] mn ?_
  refine RK m<|bY U (aL fun AW=>?_) (aM fun AW=>?_)
  ·refine WK J<|bp U (aM fun AX=>?_) (aL fun AX=>?_)
   ·refine WS fun _ p=>rP 1 [] mn ?_
    refine RK p<|an<|Q1 hQ U U U ?_
    exact cB (eZ I).symm
   refine WS fun _ n=>aP 1 U<|rS (LP (ab.cells x.ax) 0 U cd U U U)<|rS (CL (ei x.ax 500 20000) (ao) U)<|rP 1 [] mn ?_
   refine RK n<|bp U (aI fun AY=>?_) (aJ fun AY=>?_)
   ·refine bW<|az<|az<|KK C<|aq<|rP 3 [] mn ?_
    refine aD ?_
    refine aR (D ⟨(i+1),⟨I,b1 A hx (by simp only [ak,ay]; omega),by rw [bN hx]; omega⟩⟩ _ _ _ U os (aB U) (aV [1,2]))
   refine WS fun _ o=>rP 1 [] mn ?_
   refine RK o<|an<|Q1 hQ U U U ?_
   exact cB (ba A hx (by simp only [ak,ay]; omega)).symm
  refine aq<|rS (BI U dB)<|rP 1 [] mn ?_
  refine RK J<|bp U (aM fun AZ=>?_) (aL fun AZ=>?_)
  ·refine WS fun _ s=>rP 1 [] mn ?_
   refine RK s<|an<|Q1 hQ U U U ?_
   exact cB (ba A hx (by simp only [ak,ay]; omega)).symm
  refine WS fun _ q=>aP 1 U<|rS (LP (ab.cells x.ax) 0 U cd U U U)<|rS (CL (ei x.ax 500 20000) (ao) U)<|rP 1 [] mn ?_
  refine RK q<|bp U (aI fun Aa=>?_) (aJ fun Aa=>?_)
  ·refine bW<|az<|az<|KK C<|aq<|rP 3 [] mn ?_
   refine aD ?_
   refine aR (D ⟨(i+1),⟨I,b1 A hx (by simp only [ak,ay]; omega),by rw [bN hx]; omega⟩⟩ _ _ _ U os (aB U) (aV [1,2]))
  refine WS fun _ r=>rP 1 [] mn ?_
  refine RK r<|an<|Q1 hQ U U U ?_
  exact cB (ba A hx (by simp only [ak,ay]; omega)).symm
 refine dP 6 [0,1] (mc 0 U (mc 1 U mn)) ?_
 obtain ⟨y,hy⟩:=bh ts (i-1) I
 have Ak:=bC aa.cells hy
 refine dS (IA (i-1) U (aH 2 U) gU dc I I)<|dS (mm ((i-1)*9) U (aH 2 U) (Nat.mul_pos I dc) iY U) ?_
 have An:=mx I hy
 refine dS (fX (i-1) 0 (vI y.Id) U cd (aH 2 U) Ak U dc U)<|dP 4 [] mn ?_
 refine ed (t:=42) U (aL fun AC=>?_) (aM fun AC=>?_)
 ·refine eR 17 U<|b_<|RK B<|aK U<|WS fun _ O=>rP 1 [] mn ?_
  refine RK O<|an<|Q1 hQ U U U ?_
  exact cB (ba A hx (by simp only [ak,ay]; omega)).symm
 refine eR 1 U<|dS (LP (ab.cells x.bR) 0 U cd U U U)<|dS (CL (ei x.bR 1 30000) (ao) U)<|dP 3 [] mn ?_
 refine ed (t:=48) U (aJ fun AD=>?_) (aI fun AD=>?_)
 ·refine eR 11 U<|b_<|RK B<|aK U<|WS fun _ P=>rP 1 [] mn ?_
  refine RK P<|an<|Q1 hQ U U U ?_
  exact cB (ba A hx (by simp only [ak,ay]; omega)).symm
 refine eR 1 U<|dS (LP (ab.cells x.bT) 0 U cd U U U)<|dS (CL (ei x.bT 0 5000) (ao) U)<|dP 3 [] mn ?_
 refine ed (t:=54) U (aJ fun AE=>?_) (aI fun AE=>?_)
 ·refine eR 5 U<|b_<|RK B<|aK U<|WS fun _ R=>rP 1 [] mn ?_
  refine RK R<|an<|Q1 hQ U U U ?_
  exact cB (ba A hx (by simp only [ak,ay]; omega)).symm
 refine kc 2 [] (mc 0 U mn) U<|dS (CL (dx x.dD 0 5000) (ao) U)<|dP 2 [] mn ?_
 refine b_<|RK B<|bY U (aJ fun AF=>?_) (aI fun AF=>?_)
 ·refine WS fun _ S=>rP 1 [] mn ?_
  refine RK S<|an<|Q1 hQ U U U ?_
  exact cB (ba A hx (by simp only [ak,ay]; omega)).symm
 refine WK F<|WS fun _ T=>e7 2 [] (mc 0 U mn) U<|RK T<|au<|WS fun _ AG=>rS (BI U dB)<|rP 1 [] mn ?_
 refine RK AG<|bY U (aL fun AH=>?_) (aM fun AH=>?_)
 ·refine WS fun _ G=>rP 5 [] (mc 0 U mn) ?_
  refine cb (t:=68) U (aJ fun AI=>?_) (aI fun AI=>?_)
  ·refine aP 5 U<|RK G<|aK U<|WS fun _ V=>rP 1 [] mn ?_
   refine RK V<|an<|Q1 hQ U U U ?_
   exact cB (ba A hx (by simp only [ak,ay]; omega)).symm
  refine rP 5 [] (mc 0 U mn) ?_
  refine RK G<|bp U (aI fun AJ=>?_) (aJ fun AJ=>?_)
  ·refine bW<|az<|az<|KK C<|aq<|rP 3 [] mn ?_
   refine aD ?_
   refine aR (D ⟨(i+1),⟨I,b1 A hx (by simp only [ak,ay]; omega),by rw [bN hx]; omega⟩⟩ _ _ _ U os (aB U) (aV [1,2]))
  refine WS fun _ W=>rP 1 [] mn ?_
  refine RK W<|an<|Q1 hQ U U U ?_
  exact cB (ba A hx (by simp only [ak,ay]; omega)).symm
 refine aj fun _ H=>WS fun _ X=>rS (BI U dB)<|rP 1 [] mn ?_
 refine RK X<|bY U (aL fun AK=>?_) (aM fun AK=>?_)
 ·refine WK H<|bp U (aM fun AM=>?_) (aL fun AM=>?_)
  ·refine WS fun _ a=>rP 1 [] mn ?_
   refine RK a<|an<|Q1 hQ U U U ?_
   exact cB (eZ I).symm
  refine WS fun _ Y=>aP 1 U<|rS (LP (ab.cells x.ax) 0 U cd U U U)<|rS (CL (ei x.ax 500 20000) (ao) U)<|rP 1 [] mn ?_
  refine RK Y<|bp U (aI fun AN=>?_) (aJ fun AN=>?_)
  ·refine bW<|az<|az<|KK C<|aq<|rP 3 [] mn ?_
   refine aD ?_
   refine aR (D ⟨(i+1),⟨I,b1 A hx (by simp only [ak,ay]; omega),by rw [bN hx]; omega⟩⟩ _ _ _ U os (aB U) (aV [1,2]))
  refine WS fun _ Z=>rP 1 [] mn ?_
  refine RK Z<|an<|Q1 hQ U U U ?_
  exact cB (ba A hx (by simp only [ak,ay]; omega)).symm
 refine aq<|rS (BI U dB)<|rP 1 [] mn ?_
 refine RK H<|bp U (aM fun AO=>?_) (aL fun AO=>?_)
 ·refine WS fun _ d=>rP 1 [] mn ?_
  refine RK d<|an<|Q1 hQ U U U ?_
  exact cB (ba A hx (by simp only [ak,ay]; omega)).symm
 refine WS fun _ b=>aP 1 U<|rS (LP (ab.cells x.ax) 0 U cd U U U)<|rS (CL (ei x.ax 500 20000) (ao) U)<|rP 1 [] mn ?_
 refine RK b<|bp U (aI fun AP=>?_) (aJ fun AP=>?_)
 ·refine bW<|az<|az<|KK C<|aq<|rP 3 [] mn ?_
  refine aD ?_
  refine aR (D ⟨(i+1),⟨I,b1 A hx (by simp only [ak,ay]; omega),by rw [bN hx]; omega⟩⟩ _ _ _ U os (aB U) (aV [1,2]))
 refine WS fun _ c=>rP 1 [] mn ?_
 refine RK c<|an<|Q1 hQ U U U ?_
 exact cB (ba A hx (by simp only [ak,ay]; omega)).symm
theorem j7 (ts:List aa) (tsA:OA) (tsC:Nat) (hlen:ts.length≤1000000) (hside: ∀ x∈ts,0≤x.aN∧x.aN≤255):
 cn Try.prog 49 [(vA (ai.cells (ai.mk (cp.mk tsA ts.length tsC))))] [(rd tsA ts.length 9 (ts.map aa.cells))] (vI (if aG ts=true then 0 else 10)):=by
 refine aS kr Try.func49 U U fun w0 Q hQ hN=>?_
 try dsimp only
 refine WS fun _ v=>dp U fun b2=>aP 1 U<|RK v<|qO U<|aj fun _ w=>WS fun _ y=>rP 3 [] (mc 0 U mn) ?_
 refine gp (xs:=[.tmp 11]) (cs:=[(vI (ts.length:Int))]) U eP rf U U U U (by simp [Value.cells]) U U fun b5=>?_
 refine rS (CL (cn.eq (mD 1 12 ([(ts.length:Int)]) (some ⟨b5,0,none⟩) 1 (by (simp; done))) fk) (bB (bI 0 U U (by simp [cY]) U)<|ao) U) ?_
 refine rP 1 [] mn ?_
 refine RK y<|bY U (aJ fun h6=>?_) (aI fun h6=>?_)
 ·refine WS fun _ AB=>rP 1 [] mn ?_
  refine RK AB<|an<|Q1 hQ U U U ?_
  exact cI (if_neg (by rw [eZ I]; decide)).symm
 refine WK w<|WS fun _ AC=>aP 1 U<|RK AC<|WS fun _ AD=>aP 1 U<|RK AD<|aj fun _ J=>rC<|KK J<|aj fun _ B=>WS fun _ K=>rP 4 [] (mc 1 U mn) ?_
 refine RK K<|au ?_
 have D:(0≤ts.length)∧(bf (-1) ts=bf (bQ ts 0) (ts.drop 0))∧(-1≤bQ ts 0)∧(bQ ts 0≤9999):=by (refine ⟨I,rfl,by simp [bQ],by simp [bQ]⟩)
 refine bx (ι:={z:Nat // (z≤ts.length)∧(bf (-1) ts=bf (bQ ts z) (ts.drop z))∧(-1≤bQ ts z)∧(bQ ts z≤9999)}) [1,4,16,17] [1,2] U U (fun z=>[(3,(vI (bQ ts z.1))),(18,(vI (z.1:Int)))]) (fun z=>[]) (fun _=>rfl) (fun _=>rfl) (fun z=>ts.length-z.1) ⟨0,D⟩ (aB U) (aV [1,2]) ?_
 clear D
 rintro ⟨i,⟨AE,A,AF,AH⟩⟩ J13 E
 try dsimp only
 refine WS fun _ L=>rP 1 [] mn ?_
 refine RK L<|aj fun _ M=>bp U (aM fun k=>?_) (aL fun k=>?_)
 ·refine bo<|ae<|ae<|aw<|KK B<|WS fun _ O=>rP 2 [] mn ?_
  refine RK O<|an<|Q1 hQ U U U ?_
  exact cI (if_pos (jf A I I)).symm
 refine WK M<|aj fun _ F=>au<|WS fun _ N=>?_
 obtain ⟨x,hx⟩:=bh ts i I
 have AI:=bC aa.cells hx
 refine rS (IA i U (aH 1 U) gU dc I I) ?_
 have AN:=hside x (aA hx)
 refine rS (nw i 0 (aa.cells x) U cd (aH 1 U) AI U dc U U)<|AL U oh fun AJ=>eg U pg U<|RK N ?_
 refine k8 (ι:=Unit) [1,3,4,6,16,17,18] [0,1,2] U U (fun z=>[(7,(vB (decide (x.aN=0∧x.ax.Lo=0∧x.ax.Hi=0))))]) (fun z=>[]) (fun _=>rfl) (fun _=>rfl) ?_ fun K20 G=>?_
 ·intro _
  try dsimp only
  refine k8 (ι:=Unit) [1,3,4,6,7,16,17,18] [0,1,2] U U (fun z=>[(8,(vB (decide ((1≤x.aN∧x.aN≤2)∧x.ax.Lo≤x.ax.Hi∧500≤x.ax.Lo∧x.ax.Hi≤20000))))]) (fun z=>[]) (fun _=>rfl) (fun _=>rfl) ?_ fun K21 H=>?_
  ·intro _
   try dsimp only
   refine aj fun _ AK=>WS fun _ C=>rP 4 [] (mc 0 U mn) ?_
   refine gp (xs:=[.tmp 44]) (cs:=[(vI x.Id)]) U eP rf U U U U (by simp [Value.cells]) U U fun h=>?_
   refine rS (CL (cn.eq (mD ((bQ ts i)+1) 9999 ([x.Id]) (some ⟨h,0,none⟩) 1 (by (simp; done))) fk) (bB (bI 0 U U (by simp [cY]) U)<|ao) U) ?_
   refine rP 2 [] mn ?_
   refine cb (t:=48) U (aJ fun o=>?_) (aI fun o=>?_)
   ·refine aP 26 U<|RK C<|aK U<|WS fun _ P=>aP 1 U<|RK P<|bo<|ae<|dG U<|ae<|ae<|aw<|KK B<|WS fun _ R=>rP 2 [] mn ?_
    refine RK R<|an<|Q1 hQ U U U ?_
    exact cI (if_neg (by rw [ba A hx (by simp only [ak,ay]; omega)]; decide)).symm
   refine aP 1 U<|rS (LP (ab.cells x.bR) 1 U cd U U U)<|rS (CL (jq x.bR 1 30000) (ao) U)<|rP 3 [] mn ?_
   refine cb (t:=54) U (aJ fun p=>?_) (aI fun p=>?_)
   ·refine aP 20 U<|RK C<|aK U<|WS fun _ S=>aP 1 U<|RK S<|bo<|ae<|dG U<|ae<|ae<|aw<|KK B<|WS fun _ T=>rP 2 [] mn ?_
    refine RK T<|an<|Q1 hQ U U U ?_
    exact cI (if_neg (by rw [ba A hx (by simp only [ak,ay]; omega)]; decide)).symm
   refine aP 1 U<|rS (LP (ab.cells x.bT) 1 U cd U U U)<|rS (CL (jq x.bT 0 5000) (ao) U)<|rP 3 [] mn ?_
   refine cb (t:=60) U (aJ fun q=>?_) (aI fun q=>?_)
   ·refine aP 14 U<|RK C<|aK U<|WS fun _ AG=>aP 1 U<|RK AG<|bo<|ae<|dG U<|ae<|ae<|aw<|KK B<|WS fun _ V=>rP 2 [] mn ?_
    refine RK V<|an<|Q1 hQ U U U ?_
    exact cI (if_neg (by rw [ba A hx (by simp only [ak,ay]; omega)]; decide)).symm
   refine rP 2 [] (mc 1 U mn) ?_
   refine gp (xs:=[.tmp 62]) (cs:=[(vI x.dD)]) U eP rf U U U U (by simp [Value.cells]) U U fun j=>?_
   refine rS (CL (cn.eq (mD 0 5000 ([x.dD]) (some ⟨j,0,none⟩) 1 (by (simp; done))) fk) (bB (bI 0 U U (by simp [cY]) U)<|ao) U) ?_
   refine rP 3 [] mn ?_
   refine cb (t:=67) U (aJ fun r=>?_) (aI fun r=>?_)
   ·refine aP 7 U<|RK C<|aK U<|WS fun _ W=>aP 1 U<|RK W<|bo<|ae<|dG U<|ae<|ae<|aw<|KK B<|WS fun _ X=>rP 2 [] mn ?_
    refine RK X<|an<|Q1 hQ U U U ?_
    exact cI (if_neg (by rw [ba A hx (by simp only [ak,ay]; omega)]; decide)).symm
   refine rP 3 [] mn ?_
   refine cM (t:=70) U (aI fun s=>?_) (aJ fun s=>?_)
   ·refine aP 4 U<|RK C<|bH U<|WK AK<|aq<|e7 3 [] (mc 2 U mn) U<|aD<|az<|KK F<|aq<|rP 2 [] mn ?_
    refine aD ?_
    have f:(vI (bQ ts (i+1)))=(vI x.Id):=by rw [bN hx]
    refine aR (E ⟨(i+1),⟨I,b1 A hx (by simp only [ak,ay]; omega),by rw [bN hx]; omega,by rw [bN hx]; omega⟩⟩ _ _ _ U os (cz 4<|bO U f<|aB U) (aV [3,4]))
   refine rP 4 [] mn ?_
   refine RK C<|bp U (aI fun u=>?_) (aJ fun u=>?_)
   ·refine WK AK<|aq<|e7 3 [] (mc 2 U mn) U<|aD<|az<|KK F<|aq<|rP 2 [] mn ?_
    refine aD ?_
    have e:(vI (bQ ts (i+1)))=(vI x.Id):=by rw [bN hx]
    refine aR (E ⟨(i+1),⟨I,b1 A hx (by simp only [ak,ay]; omega),by rw [bN hx]; omega,by rw [bN hx]; omega⟩⟩ _ _ _ U os (cz 4<|bO U e<|aB U) (aV [3,4]))
   refine WS fun _ Y=>aP 1 U<|RK Y<|bo<|ae<|dG U<|ae<|ae<|aw<|KK B<|WS fun _ Z=>rP 2 [] mn ?_
   refine RK Z<|an<|Q1 hQ U U U ?_
   exact cI (if_neg (by rw [ba A hx (by simp only [ak,ay]; omega)]; decide)).symm
  refine aq<|rP 2 [] (mc 0 U mn) ?_
  refine rS (SX (ek (m:=x.aN) U U rA k_ (cR (by first|assumption|omega))) U U)<|gp (xs:=[.tmp 33]) (cs:=[(vI x.aN)]) U eP rf U U U U (by simp [Value.cells]) U U fun g=>?_
  refine rS (CL (cn.eq (mD 1 2 ([x.aN]) (some ⟨g,0,none⟩) 1 (by (simp; done))) fk) (bB (bI 0 U U (by simp [cY]) U)<|ao) U) ?_
  refine rP 1 [] mn ?_
  refine cM (t:=36) U (aM fun n=>?_) (aL fun n=>?_)
  ·refine rP 5 [] mn ?_
   refine aD ?_
   have d:(decide ((1≤x.aN∧x.aN≤2)∧x.ax.Lo≤x.ax.Hi∧500≤x.ax.Lo∧x.ax.Hi≤20000))=false:=bD I
   refine aR (iA (cz 8<|hZ U d<|cQ.nil _) (aV [1,2,3]) (H ()))
  refine aP 1 U<|rS (LP (ab.cells x.ax) 1 U cd U U U)<|rS (CL (jq x.ax 500 20000) (ao) U)<|rP 2 [] mn ?_
  refine aD ?_
  have c:(decide ((1≤x.aN∧x.aN≤2)∧x.ax.Lo≤x.ax.Hi∧500≤x.ax.Lo∧x.ax.Hi≤20000))=(decide (x.ax.Lo≤x.ax.Hi∧500≤x.ax.Lo∧x.ax.Hi≤20000)):=fj.2 I
  refine aR (iA (cz 8<|hZ U c<|cQ.nil _) (aV [1,2,3]) (H ()))
 refine aq<|e7 2 [] (mc 0 U mn) U<|rS (BI U dB)<|rP 1 [] mn ?_
 refine cM (t:=25) U (aM fun l=>?_) (aL fun l=>?_)
 ·refine rP 6 [] mn ?_
  refine aD ?_
  have b:(decide (x.aN=0∧x.ax.Lo=0∧x.ax.Hi=0))=false:=bD I
  refine aR (iA (cz 7<|hZ U b<|cQ.nil _) (aV [0,1,2]) (G ()))
 refine aP 1 U<|rS (LP (ab.cells x.ax) 0 U cd U U U)<|rS (SX (aY (xs:=[]) (cs:=(ab.cells (ab.mk 0 0))) U U (aX gV U)) U U)<|rS (BI U (pb _ _ x.ax (ab.mk 0 0)))<|rP 2 [] mn ?_
 refine aD ?_
 have a:(decide (x.aN=0∧x.ax.Lo=0∧x.ax.Hi=0))=(decide (x.ax=(ab.mk 0 0))):=fj.2 (by (simp only [ab.ext_iff] at *; omega))
 refine aR (iA (cz 7<|hZ U a<|cQ.nil _) (aV [0,1,2]) (G ()))
end
section
open Go.RowKit
theorem gb (ts:List aa) (tsA:OA) (tsC:Nat) (s:ah) (hlen:ts.length≤1000000) (hside: ∀ x∈ts,0≤x.aN∧x.aN≤255) (htr:aG ts=false):
 cn Try.prog 26 [(vA (ai.cells (ai.mk (cp.mk tsA ts.length tsC)))),(vA (ah.cells s))] [(rd tsA ts.length 9 (ts.map aa.cells))] (vT [(vA (aW.cells (aW.mk (ah.mk 0 (ab.mk 0 0) (ab.mk 0 0) (ab.mk 0 0) (ab.mk 0 0) (ab.mk 0 0)) (ai.mk (cp.mk none 0 0)) false))),(vA (aW.cells (aW.mk (ah.mk 0 (ab.mk 0 0) (ab.mk 0 0) (ab.mk 0 0) (ab.mk 0 0) (ab.mk 0 0)) (ai.mk (cp.mk none 0 0)) false))),(vI (aT s ts))]):=by
 refine aS kr Try.func26 U U fun L Q hQ hN=>?_
 try dsimp only
 refine WS fun _ C=>dp U fun H=>dp U fun AB=>AL U cW fun J=>AL U cW fun K=>aP 1 U<|RK C<|aj fun _ G=>WS fun _ D=>e7 1 [] (mc 3 U mn) U<|rS (CL (j7 ts tsA tsC hlen hside) (aU [4]) U)<|aP 1 U<|RK D<|WS fun _ E=>rP 2 [] mn ?_
 refine RK E<|bp U (aI fun h=>?_) (aJ fun h=>?_)
 ·exfalso; simp [htr] at h
 refine aj fun _ F=>ep ck [3,4] [] [] [0,1,2,3,4] [] U U U U U<|eS U (LW 1 U cd U U)<|eS U (LW 0 U cd U U)<|eS U (MV U)<|eS U (AG U)<|gK U<|cg U fun T10 A=>kb U cV U<|aD (A _ _ (aV [0,1,2,3,4]) ?_)
 refine cg U fun T11 B=>eg U cV U<|aD (B _ _ (aV [0,1,2,3,4]) ?_)
 refine hG U<|KK F<|an<|qc hQ [0,1] (mc 1 U (mc 0 U mn)) U ?_
 (simp only [htr,ey htr]; rfl)
theorem dY (ts:List aa) (tsA:OA) (tsC:Nat) (s:ah) (hlen:ts.length≤1000000) (hside: ∀ x∈ts,0≤x.aN∧x.aN≤255) (htr:aG ts=true):
 cn Try.prog 26 [(vA (ai.cells (ai.mk (cp.mk tsA ts.length tsC)))),(vA (ah.cells s))] [(rd tsA ts.length 9 (ts.map aa.cells))] (vT [(vA (aW.cells (aW.mk s (ai.mk (cp.mk tsA ts.length tsC)) false))),(vA (aW.cells (aW.mk s (ai.mk (cp.mk tsA ts.length tsC)) true))),(vI (aT s ts))]):=by
 refine aS kr Try.func26 U U fun L Q hQ hN=>?_
 try dsimp only
 refine WS fun _ C=>dp U fun H=>dp U fun AB=>AL U cW fun J=>AL U cW fun K=>aP 1 U<|RK C<|aj fun _ D=>WS fun _ E=>e7 1 [] (mc 3 U mn) U<|rS (CL (j7 ts tsA tsC hlen hside) (aU [4]) U)<|aP 1 U<|RK E<|WS fun _ F=>rP 2 [] mn ?_
 refine RK F<|bY U (aJ fun h=>?_) (aI fun h=>?_)
 ·exact absurd (by simp [htr]) h
 refine WK D<|aj fun _ G=>ep ck [8,9] [] [] [2,3,4] [] U U U U U<|eS U (LW 0 U cd U U)<|eS U (LW 1 U cd U U)<|eS U (SX (aY (xs:=[(0,.tmp 15),(1,.tmp 16),(2,.const (vB false))]) (cs:=(aW.cells (aW.mk s (ai.mk (cp.mk tsA ts.length tsC)) false))) U U (aX ug U)) U U)<|eS U (LW 0 U cd U U)<|eS U (LW 1 U cd U U)<|eS U (SX (aY (xs:=[(0,.tmp 18),(1,.tmp 19),(2,.const (vB true))]) (cs:=(aW.cells (aW.mk s (ai.mk (cp.mk tsA ts.length tsC)) true))) U U (aX ug U)) U U)<|eS U (LW 0 U cd U U)<|eS U (CL (oP s) (ao) U)<|eS U (AG U)<|gK U<|cg U fun T10 A=>kb U cV U<|aD (A _ _ (aV [2,3,4]) ?_)
 refine cg U fun T11 B=>eg U cV U<|aD (B _ _ (aV [2,3,4]) ?_)
 refine hG U<|KK G<|an<|qc hQ [0,1] (mc 1 U (mc 0 U mn)) U ?_
 (rw [aT,if_pos htr]<;>rfl)
end
section
open Go.RowKit
theorem oF (ts:List aa) (tsA:OA) (tsC:Nat) (s:ah) (hlen:ts.length≤1000000) (hside: ∀ x∈ts,0≤x.aN∧x.aN≤255) (htr:aG ts=false):
 cn Try.prog 8 [(vA (ai.cells (ai.mk (cp.mk tsA ts.length tsC)))),(vA (ah.cells s))] [(rd tsA ts.length 9 (ts.map aa.cells))] (vT [(vS none 0 0),(vI (aT s ts))]):=by
 have E: ¬ aT s ts=0:=by rw [ey htr]; decide
 refine aS vQ Try.func8 U U fun K Q hQ hN=>?_
 try dsimp only
 refine WS fun _ A=>dp U fun G=>dp U fun H=>aP 2 U<|RK A<|WS fun _ B=>e7 2 [0,1] (mc 1 U (mc 0 U mn)) U<|rS (CL (gb ts tsA tsC s hlen hside htr) (aU [2]) U)<|aP 4 U<|AL U cW fun AB=>AL U cW fun J=>kb U cV U<|eg U cV U<|aP 1 U<|RK B<|aj fun _ F=>WS fun _ C=>rP 2 [] mn ?_
 refine RK C<|bp U (aI fun he=>?_) (aJ fun he=>?_)
 ·exact absurd he E
 refine WS fun _ D=>rP 3 [] mn ?_
 refine RK D<|an ?_
 exact Q2 hQ U U U U U
theorem mL (ts:List aa) (tsA:OA) (tsC:Nat) (s:ah) (hlen:ts.length≤1000000) (hside: ∀ x∈ts,0≤x.aN∧x.aN≤255) (htr:aG ts=true) (hns: ¬ aC s):
 cn Try.prog 8 [(vA (ai.cells (ai.mk (cp.mk tsA ts.length tsC)))),(vA (ah.cells s))] [(rd tsA ts.length 9 (ts.map aa.cells))] (vT [(vS none 0 0),(vI (aT s ts))]):=by
 have E: ¬ aT s ts=0:=by rw [eG htr hns]; decide
 refine aS vQ Try.func8 U U fun K Q hQ hN=>?_
 try dsimp only
 refine WS fun _ A=>dp U fun G=>dp U fun H=>aP 2 U<|RK A<|WS fun _ B=>e7 2 [0,1] (mc 1 U (mc 0 U mn)) U<|rS (CL (dY ts tsA tsC s hlen hside htr) (aU [2]) U)<|aP 4 U<|AL U cW fun AB=>AL U cW fun J=>kb U cV U<|eg U cV U<|aP 1 U<|RK B<|aj fun _ F=>WS fun _ C=>rP 2 [] mn ?_
 refine RK C<|bp U (aI fun he=>?_) (aJ fun he=>?_)
 ·exact absurd he E
 refine WS fun _ D=>rP 3 [] mn ?_
 refine RK D<|an ?_
 exact Q2 hQ U U U U U
theorem pV (ts:List aa) (tsA:OA) (tsC:Nat) (s:ah) (hlen:ts.length≤1000000) (hside: ∀ x∈ts,0≤x.aN∧x.aN≤255) (htr:aG ts=true) (hs:aC s):
 kI Try.prog 8 [(vA (ai.cells (ai.mk (cp.mk tsA ts.length tsC)))),(vA (ah.cells s))] [(rd tsA ts.length 9 (ts.map aa.cells))] (fun (x:(OA)×Nat)=>(vT [(vS x.1 ((bA s ts).length) x.2),(vI (aT s ts))])) (fun (x:(OA)×Nat)=>True) (fun (x:(OA)×Nat)=>[(own x.1 x.2 27 2 ((bA s ts).map ab.cells))]):=by
 have R:=cf htr hs
 have v:=cv htr
 have o:=cK htr
 have t:=dy htr
 refine dM vQ Try.func8 U U fun w0 Q hQ hN=>?_
 try dsimp only
 refine WS fun _ V=>dp U fun b2=>dp U fun b3=>aP 2 U<|RK V<|WS fun _ W=>e7 2 [0,1] (mc 1 U (mc 0 U mn)) U<|rS (CL (dY ts tsA tsC s hlen hside htr) (aU [2]) U)<|aP 4 U<|AL U cW fun b5=>AL U cW fun b6=>kb U cV U<|eg U cV U<|aP 1 U<|RK W<|aj fun _ X=>WS fun _ Y=>rP 2 [] mn ?_
 refine RK Y<|bY U (aJ fun he=>?_) (aI fun he=>?_)
 ·exact absurd R he
 refine WK X<|WS fun _ Z=>AL U vg fun C=>RK Z<|WS fun _ H=>rP 1 [] (mc 1 U mn) ?_
 refine cX (pQ s ts tsA tsC true hs sd sd) (aU [5]) U fun i p=>?_
 obtain ⟨B,G⟩:=i
 try dsimp only
 refine AL U sL fun D=>wh U tj U U<|RK H<|aj fun _ AC=>WS fun _ J=>rP 1 [] (mc 4 U mn) ?_
 refine cX (kA s false tsA ts.length tsC) (ao) U fun E q=>?_
 try dsimp only
 refine RK J<|au<|m0 8 U (by exact fun _ h=>h)<|iF 27 2 ?_
 refine kN (L0:=[(9,(vP C)),(10,(vP D))]) (F:=[(rd tsA ts.length 9 (ts.map aa.cells)).ro,(ct E 69 (aW.cells (aW.mk s (ai.mk (cp.mk tsA ts.length tsC)) false)))]) (xs:=(eY false s ts)) (fun k (y:(OA)×Nat)=>True) (fun k y=>[(own y.1 y.2 27 2 (((bA s ts).take k).map ab.cells)),(ct D 72 [(vS B ((bX true s ts).length) G)]),(own B G 3 1 ((bX true s ts).map iC)),(ct C 36 [(vS y.1 (((bA s ts).take k).length) y.2)]),(rd tsA ts.length 9 (ts.map aa.cells)).ro]) (fun _ (_:Unit)=>False) (fun _ _=>[]) [0,3,4,5,10] [1,2] (none,0) U U (oM s ts tsA tsC false E (by first|assumption|omega|(simp; done)) (by first|assumption|omega|(simp; done)) (by first|assumption|omega|(simp; done))) U U U (by trivial) (by simp only [List.forall_mem_cons,List.not_mem_nil,false_imp_iff,implies_true,and_true]; exact ⟨⟨_,sm,(fY (dh _))⟩,⟨_,sm,(dh _)⟩⟩) (by exact jW) U (aB U) ?_ ?_ (fun _ _ _ h=>h.elim) (fun _ _ h=>h.elim)
 rotate_left 1
 ·rintro z ⟨a,c⟩ d
  try dsimp only
  rw [jS]
  refine az<|KK AC<|WS fun _ M=>rP 3 [] (mc 6 U mn) ?_
  refine RK M<|an<|hQ _ _ _ (mI 0 U U<|eC (vs:=[(vS a ((bA s ts).length) c),(vI 0)]) ⟨U,U,trivial⟩ fun w hs=>sV (a,c) [3] ?_ ?_ U U U hs)
  ·rw [R]; rfl
  ·trivial
 rintro k x ⟨a,c⟩ l ra rb S w1 K22 Qr23 hx b K A g j
 obtain ⟨hk,rfl⟩:=ku hx
 try dsimp only
 have u:=di (best:=true) (s:=s) (ts:=ts)
 refine WS fun _ L=>aP 1 U<|RK L<|aq<|rP 1 [] mn ?_
 refine aD<|aR (K _ _ ?_)
 refine au<|ep ck [7,8,9] [0] [0] [0,2,3,5] [0,1,2,3,4,5] U U U U U<|fS U (wm 4 U uf U)<|eS U (MV U)<|eS U (wm 1 U uo U)<|eS U (MV U) ?_
 obtain ⟨m,hm⟩:=bh (bX true s ts) k I
 have e:=bC iC hm
 refine eS U (IA k U (ar (n:=(bX true s ts).length) 2 U sm) eP dc I I) ?_
 have f:m=aF true s ts k:=by rw [fF hk] at hm; exact (Option.some.inj hm).symm
 refine eS U (fX k 0 (vI m) U tS (ar (n:=(bX true s ts).length) 2 U sm) e U dc U)<|eS U (SX (aY (xs:=[(0,.tmp 30),(1,.tmp 34)]) (cs:=(ab.cells (ab.mk (aF false s ts k) m))) U U (aX gV U)) U U)<|gK U<|rk U fun T26 N=>gp (xs:=[.tmp 35]) (cs:=(ab.cells (ab.mk (aF false s ts k) m))) U gG fD U U U U (by simp [Value.cells,ab.aO]) U U fun r=>aD (N _ _ (aV [1,3,4,6]) (aV [1,2,3,4,5,6]) ?_)
 refine cg U fun T28 O=>?_
 refine ig (es2:=(List.map ab.cells ((bA s ts).take (k+1)))) (m':=((bA s ts).take (k+1)).length) 2 U U U vt U U sm (bI (es:=List.map ab.cells [(ab.mk (aF false s ts k) m)]) 0 U U (by simp [ab.aO]) U) (jk _) (by simp [cO]; omega) (by simp [cO,maxLen]; omega) (by rw [lN hk,f]; simp [fB]) sm U fun T AB=>?_
 try dsimp only
 refine aD (O _ _ (aV [1,3,4,6]) ?_)
 refine cg U fun T31 P=>wq U vh U U<|aD (P _ _ (aV [1,3,4,6]) ?_)
 refine hG U<|az ?_
 exact A (T,AB) _ _ (by trivial) (aV [1,2,3,4,5,6])
theorem pW (ts:List aa) (tsA:OA) (tsC:Nat) (s:ah) (hlen:ts.length≤1000000) (hside: ∀ x∈ts,0≤x.aN∧x.aN≤255) (hb: ¬ aT s ts=0):
 cn Try.prog 8 [(vA (ai.cells (ai.mk (cp.mk tsA ts.length tsC)))),(vA (ah.cells s))] [(rd tsA ts.length 9 (ts.map aa.cells))] (vT [(vS none 0 0),(vI (aT s ts))]):=by
 by_cases A:aG ts=true
 ·by_cases hs:aC s
  ·exact absurd (cf A hs) hb
  ·exact mL ts tsA tsC s hlen hside A hs
 ·exact oF ts tsA tsC s hlen hside (by simpa using A)
theorem jo (ts:List aa) (tsA:OA) (tsC:Nat) (s:ah) (hlen:ts.length≤1000000) (hside: ∀ x∈ts,0≤x.aN∧x.aN≤255):
 kI Try.prog 8 [(vA (ai.cells (ai.mk (cp.mk tsA ts.length tsC)))),(vA (ah.cells s))] [(rd tsA ts.length 9 (ts.map aa.cells))] (fun (x:(OA)×Nat)=>(vT [(vS x.1 ((gR s ts).length) x.2),(vI (aT s ts))])) (fun (x:(OA)×Nat)=>True) (fun (x:(OA)×Nat)=>[(own x.1 x.2 27 2 ((gR s ts).map ab.cells))]):=by
 by_cases hb:aT s ts=0
 ·obtain ⟨A,B⟩:=dV hb
  rw [fm A B]
  exact pV ts tsA tsC s hlen hside A B
 ·rw [ow hb]
  exact cn.wv (none,0) (pW ts tsA tsC s hlen hside hb) trivial o6
end
section
open Go.RowKit
theorem pI (s:ah) (ts:List aa) (tsA:OA) (tsC:Nat) (best:Bool) (i h:Int) (x:aa) (hs:aC s) (hst: ∀ x∈ts,ak x) (hlen:ts.length≤12) (hi:0≤i∧i<ts.length) (hh:0≤h∧h≤1100000) (hx:ts[i.toNat]? =some x):
 cn Try.prog 35 [(vA (aW.cells (aW.mk s (ai.mk (cp.mk tsA ts.length tsC)) best))),(vI i),(vI h)] [(rd tsA ts.length 9 (ts.map aa.cells))] (vI (dj best s x h)):=by
 refine aS kr Try.func35 U U fun N Q hQ hN=>?_
 try dsimp only
 refine WS fun _ B=>dp U fun J=>aP 1 U<|RK B<|aj fun _ C=>cy ck 11 kr<|dP 5 [] (mc 0 U mn) ?_
 obtain ⟨y,hy⟩:=bh ts ((i).toNat) I
 have H:=bC aa.cells hy
 refine dS (IA ((i).toNat) U (aH 1 U) gU dc I I)<|dS (mm ((((i).toNat)*9)+5) U (aH 1 U) (Nat.mul_pos I dc) iY U) ?_
 have AB:=hst y (aA hy)
 have K:=l9 (best:=best) (f:=false) AB
 have L:=bq (best:=best) (f:=true) hs.2.2.2.2.2
 refine dS (nw ((i).toNat) 5 (ab.cells y.ax) U cd (aH 1 U) H U dc U U)<|dS (CL (jc s best tsA ts.length tsC y.ax false) (ao) U)<|dS (BI U (fQ ⟨I,I⟩))<|eR 1 U<|b_<|RK C<|aj fun _ D=>WS fun _ E=>rP 2 [] mn ?_
 refine RK E<|bY U (aL fun he=>?_) (aM fun he=>?_)
 ·refine WS fun _ F=>rP 1 [] mn ?_
  refine RK F<|an<|Q1 hQ U U U ?_
  obtain rfl:y=x:=Option.some.inj (hy.symm.trans hx)
  first|exact cI (by rw [dj,if_pos he])|exact cI (by rw [dj,if_neg he])
 refine WK D<|aj fun _ G=>cy ck 11 kr<|eR 1 U<|dS (BI U (fQ ⟨I,I⟩))<|dP 1 [] mn ?_
 have M:=tG (a:=1200*h) (b:=10*bM best false y.ax) (A:=1320000000) I I I
 refine dS (BI U (lL I I I))<|kc 3 [] (mc 0 U mn) U<|dS (LP (ab.cells s.dT) 0 U cd U U U)<|dS (CL (jc s best tsA ts.length tsC s.dT true) (ao) U)<|dP 2 [] mn ?_
 refine b_<|RK G<|an<|Q1 hQ U U U ?_
 obtain rfl:y=x:=Option.some.inj (hy.symm.trans hx)
 first|exact cI (by rw [dj,if_pos he])|exact cI (by rw [dj,if_neg he])
theorem iM (s:ah) (ts:List aa) (tsA:OA) (tsC:Nat) (best:Bool) (hs:aC s) (hst: ∀ x∈ts,ak x) (hlen:ts.length≤12) (hside: ∀ x∈ts,0≤x.aN∧x.aN≤255):
 kI Try.prog 30 [(vA (aW.cells (aW.mk s (ai.mk (cp.mk tsA ts.length tsC)) best)))] [(rd tsA ts.length 9 (ts.map aa.cells))] (fun (x:Nat)=>(Value.map (some x))) (fun (x:Nat)=>True) (fun (x:Nat)=>[(mp x (eO iV (du best s ts ts.length)))]):=by
 refine dM kr Try.func30 U U fun u Q hQ hN=>?_
 try dsimp only
 refine WS fun _ X=>dp U fun r=>aP 1 U<|RK X<|WS fun _ Y=>rP 1 [] (mc 0 U mn) ?_
 refine cX (pQ s ts tsA tsC best hs hst hlen) (aU [1]) U fun p o=>?_
 obtain ⟨q,t⟩:=p
 try dsimp only
 refine aP 1 U<|RK Y<|WS fun _ Z=>qJ U U fun D=>aP 1 U<|RK Z<|aj fun _ F=>WS fun _ G=>rP 5 [] (mc 2 U mn) ?_
 refine RK G<|au ?_
 have A:(0≤ts.length):=by omega
 refine bx (ι:={z:Nat // (z≤ts.length)}) [1,3,4,14] [1,2,3] U U (fun z=>[(15,(vI (z.1:Int)))]) (fun z=>[(mp D (eO iV ((cc best s ts).take z.1)))]) (fun _=>rfl) (fun _=>rfl) (fun z=>ts.length-z.1) ⟨0,A⟩ (aB U) (aV [1,2,3,0]) ?_
 clear A
 rintro ⟨i,a⟩ J12 E
 try dsimp only
 refine WS fun _ H=>rP 1 [] mn ?_
 refine RK H<|aj fun _ AC=>bY U (aL fun V=>?_) (aM fun V=>?_)
 ·refine WK AC<|aj fun _ J=>au<|WS fun _ K=>rP 2 [] mn ?_
  refine RK K<|cy ck 15 kr ?_
  have k:=di (best:=best) (s:=s) (ts:=ts)
  obtain ⟨x,hx⟩: ∃ y,ts[i]? =some y:=⟨ts[i]'I,cw I⟩
  have h:=mN (best:=best) hs hst (i:=i) I
  refine dP 6 [] (mc 1 U mn) ?_
  obtain ⟨m,hm⟩:=bh (bX best s ts) i I
  have c:=bC iC hm
  refine dS (IA i U (ar (n:=(bX best s ts).length) 0 U sm) eP dc I I)<|dS (fX i 0 (vI m) U cd (ar (n:=(bX best s ts).length) 0 U sm) c U dc U)<|dP 3 [] mn ?_
  obtain ⟨n,hn⟩:=bh (bX best s ts) (i+1) I
  have e:=bC iC hn
  refine dS (IA (i+1) U (ar (n:=(bX best s ts).length) 0 U sm) eP dc I I)<|dS (fX (i+1) 0 (vI n) U cd (ar (n:=(bX best s ts).length) 0 U sm) e U dc U)<|dS (MX U) ?_
  have mv:m=aF best s ts i:=by rw [fF I] at hm; exact (Option.some.inj hm).symm
  have nv:n=aF best s ts (i+1):=by rw [fF I] at hn; exact (Option.some.inj hn).symm
  have d:=ql mv nv
  rw [d]
  refine dS (CL (pI s ts tsA tsC best (i:Int) (cL best s ts i) x hs hst hlen sd sd (by simpa using hx)) (aU [2]) U) ?_
  refine b_ ?_
  have T:(jj ((cc best s ts).take i) (i:Int) (dj best s x (cL best s ts i)))=((cc best s ts).take (i+1)):=by rw [← g4 (best:=best) (s:=s) hx]; exact nY I
  refine qm (C':=[_,_,_,(mp D (eO iV ((cc best s ts).take (i+1))))]) 3 U U U U oL k_ U ((od _ _ _ _).symm.trans (congrArg _ T)) U<|aD<|az<|KK J<|aq<|rP 2 [] mn ?_
  refine aD ?_
  refine aR (E ⟨(i+1),(by first|omega|(simp only []; omega))⟩ _ _ _ U os (aB U) (aV [0,1,2,3]))
 refine bo<|ae<|ae<|aw<|KK F<|aj fun _ L=>WS fun _ M=>rP 5 [] (mc 1 U mn) ?_
 refine RK M<|au ?_
 rw [o3 I]
 have A:(0≤ts.length):=by omega
 refine bx (ι:={z:Nat // (z≤ts.length)}) [1,4,36,37] [0,1,2] U U (fun z=>[(38,(vI (z.1:Int)))]) (fun z=>[(mp D (eO iV (du best s ts z.1)))]) (fun _=>rfl) (fun _=>rfl) (fun z=>ts.length-z.1) ⟨0,A⟩ (aB U) (aV [0,1,2,3]) ?_
 clear A
 rintro ⟨j,b⟩ J21 B
 try dsimp only
 refine WS fun _ N=>rP 1 [] mn ?_
 refine RK N<|aj fun _ O=>bp U (aM fun W=>?_) (aL fun W=>?_)
 ·refine bo<|ae<|ae<|aw<|KK L<|WS fun _ S=>?_
  obtain rfl:j=ts.length:=by omega
  refine rP 2 [] mn ?_
  refine RK S<|an<|LX hQ D [3] [] mn U U U U ?_
  trivial
 refine WK O<|aj fun _ C=>au<|WS fun _ P=>rP 1 [] mn ?_
 obtain ⟨y,hy⟩:=bh ts j I
 have f:=bC aa.cells hy
 refine rS (IA j U (aH 2 U) gU dc I I)<|rS (nw j 0 (aa.cells y) U cd (aH 2 U) f U dc U U)<|AL U oh fun g=>aP 1 U<|eg U pg U<|RK P<|WS fun _ R=>rP 1 [] mn ?_
 have l:=hside y (aA hy)
 refine rP 1 [] (mc 0 U mn) ?_
 refine rS (BI U dB)<|RK R<|bp U (aM fun hd=>?_) (aL fun hd=>?_)
 ·refine bW<|az<|KK C<|aq ?_
  first|rw [kF hy hd]|skip
  refine rP 2 [] mn ?_
  refine aD ?_
  refine aR (B ⟨(j+1),(by first|omega|(simp only []; omega))⟩ _ _ _ U os (aB U) (aV [1,2,3,4]))
 refine aq<|rP 2 [] mn ?_
 have AB:(dE (du best s ts j) (j:Int))=(du best s ts (j+1)):=by exact oK hy hd
 refine ou (C':=[_,_,_,_,(mp D (eO iV (du best s ts (j+1))))]) 4 U U U U oL k_ U ((kH _ _ _).symm.trans (congrArg _ AB)) U<|aD<|az<|KK C<|aq ?_
 first|rw [kF hy hd]|skip
 refine rP 2 [] mn ?_
 refine aD ?_
 refine aR (B ⟨(j+1),(by first|omega|(simp only []; omega))⟩ _ _ _ U os (aB U) (aV [1,2,3,4]))
theorem mM (ts:List aa) (tsA:OA) (tsC:Nat) (s:ah) (i:Int) (hlen:ts.length≤1000000) (hside: ∀ x∈ts,0≤x.aN∧x.aN≤255) (htr:aG ts=false):
 cn Try.prog 10 [(vA (ai.cells (ai.mk (cp.mk tsA ts.length tsC)))),(vA (ah.cells s)),(vI i)] [(rd tsA ts.length 9 (ts.map aa.cells))] (vT [(vA (ab.cells (dn s ts i))),(vI (dm s ts i))]):=by
 have A: ¬ aT s ts=0:=by rw [ey htr]; decide
 refine aS kr Try.func10 U U fun L Q hQ hN=>?_
 try dsimp only
 refine WS fun _ C=>dp U fun G=>dp U fun H=>AL U fD fun AB=>aP 1 U<|RK C<|WS fun _ D=>e7 2 [0,1] (mc 2 U (mc 1 U mn)) U<|rS (CL (gb ts tsA tsC s hlen hside htr) (aU [3]) U)<|aP 4 U<|AL U cW fun J=>AL U cW fun K=>kb U cV U<|eg U cV U<|aP 1 U<|RK D<|aj fun _ F=>WS fun _ E=>rP 2 [] mn ?_
 refine RK E<|bp U (aI fun he=>?_) (aJ fun he=>?_)
 ·exact absurd he A
 refine WS fun _ B=>rS (SX (aY (xs:=[]) (cs:=(ab.cells (ab.mk 0 0))) U U (aX gV U)) U U)<|aP 1 U<|vc U fO U<|rP 1 [] mn ?_
 refine RK B<|an<|qc hQ [0] (mc 2 U mn) U ?_
 rw [(gD (i:=i) A).1,(gD (i:=i) A).2]
theorem lG (ts:List aa) (tsA:OA) (tsC:Nat) (s:ah) (i:Int) (hlen:ts.length≤1000000) (hside: ∀ x∈ts,0≤x.aN∧x.aN≤255) (htr:aG ts=true) (hns: ¬ aC s):
 cn Try.prog 10 [(vA (ai.cells (ai.mk (cp.mk tsA ts.length tsC)))),(vA (ah.cells s)),(vI i)] [(rd tsA ts.length 9 (ts.map aa.cells))] (vT [(vA (ab.cells (dn s ts i))),(vI (dm s ts i))]):=by
 have A: ¬ aT s ts=0:=by rw [eG htr hns]; decide
 refine aS kr Try.func10 U U fun L Q hQ hN=>?_
 try dsimp only
 refine WS fun _ C=>dp U fun G=>dp U fun H=>AL U fD fun AB=>aP 1 U<|RK C<|WS fun _ D=>e7 2 [0,1] (mc 2 U (mc 1 U mn)) U<|rS (CL (dY ts tsA tsC s hlen hside htr) (aU [3]) U)<|aP 4 U<|AL U cW fun J=>AL U cW fun K=>kb U cV U<|eg U cV U<|aP 1 U<|RK D<|aj fun _ F=>WS fun _ E=>rP 2 [] mn ?_
 refine RK E<|bp U (aI fun he=>?_) (aJ fun he=>?_)
 ·exact absurd he A
 refine WS fun _ B=>rS (SX (aY (xs:=[]) (cs:=(ab.cells (ab.mk 0 0))) U U (aX gV U)) U U)<|aP 1 U<|vc U fO U<|rP 1 [] mn ?_
 refine RK B<|an<|qc hQ [0] (mc 2 U mn) U ?_
 rw [(gD (i:=i) A).1,(gD (i:=i) A).2]
theorem ob (ts:List aa) (tsA:OA) (tsC:Nat) (s:ah) (i:Int) (hlen:ts.length≤1000000) (hside: ∀ x∈ts,0≤x.aN∧x.aN≤255) (htr:aG ts=true) (hs:aC s):
 cn Try.prog 10 [(vA (ai.cells (ai.mk (cp.mk tsA ts.length tsC)))),(vA (ah.cells s)),(vI i)] [(rd tsA ts.length 9 (ts.map aa.cells))] (vT [(vA (ab.cells (dn s ts i))),(vI (dm s ts i))]):=by
 have A:=cf htr hs
 have R:=cv htr
 have K:=cK htr
 have P:=dy htr
 refine aS kr Try.func10 U U fun X Q hQ hN=>?_
 try dsimp only
 refine WS fun _ G=>dp U fun S=>dp U fun T=>AL U fD fun AB=>aP 1 U<|RK G<|WS fun _ H=>e7 2 [0,1] (mc 2 U (mc 1 U mn)) U<|rS (CL (dY ts tsA tsC s hlen hside htr) (aU [3]) U)<|aP 4 U<|AL U cW fun V=>AL U cW fun W=>kb U cV U<|eg U cV U<|aP 1 U<|RK H<|aj fun _ AC=>WS fun _ J=>rP 2 [] mn ?_
 refine RK J<|bY U (aJ fun he=>?_) (aI fun he=>?_)
 ·exact absurd A he
 refine WK AC<|WS fun _ B=>rP 1 [] (mc 1 U mn) ?_
 refine cX (iM s ts tsA tsC false hs sd sd hside) (aU [5]) U fun N L=>?_
 try dsimp only
 refine aP 1 U<|rS (SX (oc (l:=(du false s ts ts.length)) (f:=iV) (z:=0) U U U oL k_ wk (by exact aH 0 U)) U U)<|aP 5 U<|RK B<|aj fun _ C=>WS fun _ D=>rP 2 [] mn ?_
 refine RK D<|bY U (fun hd=>?_) (fun hd=>?_)
 ·rw [Bool.not_eq_true'] at hd
  refine WS fun _ E=>rS (SX (aY (xs:=[]) (cs:=(ab.cells (ab.mk 0 0))) U U (aX gV U)) U U)<|vb U fO U<|rP 1 [] mn ?_
  refine RK E<|an<|qc hQ [0] (mc 3 U mn) U ?_
  rw [mY] at hd
  first|rw [(fC (i:=i) A hd).1,(fC (i:=i) A hd).2]|rw [(er (i:=i) A hd).1,(er (i:=i) A hd).2,h_ hd,h_ hd]
 rw [Bool.not_eq_false'] at hd
 refine WK C<|WS fun _ F=>rP 2 [] (mc 1 U mn) ?_
 refine cX (iM s ts tsA tsC true hs sd sd hside) (aU [6]) U fun O M=>?_
 try dsimp only
 refine aP 1 U<|rS (SX (mw (l:=(du true s ts ts.length)) (f:=iV) (z:=0) U U U oL k_ wk (by exact aH 0 U)) U U)<|rS (SX (aY (xs:=[(0,.tmp 34),(1,.tmp 38)]) (cs:=(ab.cells (ab.mk ((List.lookup i (du false s ts ts.length)).getD 0) ((List.lookup i (du true s ts ts.length)).getD 0)))) U U (aX gV U)) U U)<|wc U fO U<|rP 1 [] mn ?_
 refine RK F<|an<|qc hQ [0] (mc 4 U mn) U ?_
 rw [mY] at hd
 first|rw [(fC (i:=i) A hd).1,(fC (i:=i) A hd).2]|rw [(er (i:=i) A hd).1,(er (i:=i) A hd).2,h_ hd,h_ hd]
theorem mU (ts:List aa) (tsA:OA) (tsC:Nat) (s:ah) (i:Int) (hlen:ts.length≤1000000) (hside: ∀ x∈ts,0≤x.aN∧x.aN≤255) (hb: ¬ aT s ts=0):
 cn Try.prog 10 [(vA (ai.cells (ai.mk (cp.mk tsA ts.length tsC)))),(vA (ah.cells s)),(vI i)] [(rd tsA ts.length 9 (ts.map aa.cells))] (vT [(vA (ab.cells (dn s ts i))),(vI (dm s ts i))]):=by
 by_cases A:aG ts=true
 ·by_cases hs:aC s
  ·exact absurd (cf A hs) hb
  ·exact lG ts tsA tsC s i hlen hside A hs
 ·exact mM ts tsA tsC s i hlen hside (by simpa using A)
theorem jI (ts:List aa) (tsA:OA) (tsC:Nat) (s:ah) (i:Int) (hlen:ts.length≤1000000) (hside: ∀ x∈ts,0≤x.aN∧x.aN≤255):
 cn Try.prog 10 [(vA (ai.cells (ai.mk (cp.mk tsA ts.length tsC)))),(vA (ah.cells s)),(vI i)] [(rd tsA ts.length 9 (ts.map aa.cells))] (vT [(vA (ab.cells (dn s ts i))),(vI (dm s ts i))]):=by
 by_cases hb:aT s ts=0
 ·obtain ⟨A,B⟩:=dV hb
  exact ob ts tsA tsC s i hlen hside A B
 ·exact mU ts tsA tsC s i hlen hside hb
end
section
open Go.RowKit
theorem qG (x:Int):
 cn Try.prog 85 [(vI x)] [] (vB false):=by
 refine aS kr Try.func85 U U fun C Q hQ hN=>?_
 try dsimp only
 refine WS fun _ A=>aP 1 U<|RK A<|WS fun _ B=>rP 4 [] mn ?_
 refine RK B<|an<|Q1 hQ U U U ?_
 simp
theorem sU (x y:Int):
 cn Try.prog 75 [(vI x),(vI y)] [] (vB (decide (x<y))):=by
 refine aS kr Try.func75 U U fun C Q hQ hN=>?_
 try dsimp only
 refine WS fun _ A=>aP 1 U<|RK A<|WS fun _ B=>aP 1 U<|rS (CL (qG x) (ao) U)<|rP 11 [] mn ?_
 refine RK B<|an<|Q1 hQ U U U ?_
 exact cB (fj.2 I)
theorem oD (l:List Int) (lA:OA) (lC:Nat) (hlen:l.length≤1000000):
 q6 Try.prog 69 [(vS lA l.length lC),(vI 0),(vI (l.length:Int))] [] (own lA lC 3 1 (l.map iC)) (fun (x:(List Int))=>(vT [])) (fun (x:(List Int))=>x.Perm l∧x.Pairwise (· ≤ ·)) (fun (x:(List Int))=>(own lA lC 3 1 (x.map iC))):=by
 refine gQ kr Try.func69 U U fun g Q hQ hN=>?_
 try dsimp only
 refine WS fun _ X=>aP 1 U<|rS (SX (bu (r:= .int .i64 1) U U U (gP ⟨dc,dc⟩)) U U)<|rP 1 [] mn ?_
 refine RK X<|au ?_
 have A:(1≤1∧(1≤l.length∨1=1))∧(l.length=l.length)∧(l.Perm l)∧(te l 1):=by exact ⟨I,rfl,List.Perm.refl _,rI⟩
 refine bx (ι:={z:Nat×(List Int) // (1≤z.1∧(z.1≤l.length∨z.1=1))∧(z.2.length=l.length)∧(z.2.Perm l)∧(te z.2 z.1)}) [0,1,2] [] U U (fun z=>[(6,(vI (z.1.1:Int)))]) (fun z=>[(own lA lC 3 1 (z.1.2.map iC))]) (fun _=>rfl) (fun _=>rfl) (fun z=>l.length-z.1.1) ⟨(1,l),A⟩ (aB U) (aV [0]) ?_
 clear A
 rintro ⟨⟨i,m⟩,⟨K,AC,E,F⟩⟩ J2 M
 try dsimp only at K AC E F
 try dsimp only
 refine aj fun _ Y=>WS fun _ Z=>rP 3 [] mn ?_
 refine RK Z<|bp U (aM fun e=>?_) (aL fun e=>?_)
 ·refine bo<|ae<|ae<|aw<|LM hN m 0 [] mn U U U U ?_
  exact ⟨E,qM F I⟩
 refine WK Y<|aj fun _ O=>au<|WS fun _ b=>rP 2 [] mn ?_
 refine RK b<|au ?_
 have A:(i≤i)∧(m.length=l.length)∧(m.Perm l)∧(tc m i i):=by exact ⟨Nat.le_refl _,AC,E,nS F I⟩
 refine bx (ι:={z:Nat×(List Int) // (z.1≤i)∧(z.2.length=l.length)∧(z.2.Perm l)∧(tc z.2 i z.1)}) [0,1,2,6] [] U U (fun z=>[(7,(vI (z.1.1:Int)))]) (fun z=>[(own lA lC 3 1 (z.1.2.map iC))]) (fun _=>rfl) (fun _=>rfl) (fun z=>z.1.1) ⟨(i,m),A⟩ (aB U) (aV [0]) ?_
 clear A
 rintro ⟨⟨j,q⟩,⟨G,B,C,D⟩⟩ J8 W
 try dsimp only at G B C D
 try dsimp only
 refine aj fun _ c=>aj fun _ J=>cy ck 15 kr<|dP 4 [] mn ?_
 refine im (t:=19) U (aM fun hj=>?_) (aL fun hj=>?_)
 ·refine eR 11 U<|b_<|RK J<|bH U<|bo<|ae<|ae<|aw<|az<|KK O<|aq<|rP 3 [] mn ?_
  refine aD ?_
  refine aR (M ⟨((i+1),q),⟨I,B,C,by exact pE I D⟩⟩ _ _ _ U (by simp only []; omega) (aB U) (aV [0]))
 refine dP 2 [] mn ?_
 obtain ⟨x,hx⟩:=bh q j I
 have L:=bC iC hx
 refine dS (IA j U (ar (n:=l.length) 0 U sq) eP dc I I) ?_
 refine dS (fX j 0 (vI x) U cd (ar (n:=q.length) 0 U sm) L U dc U)<|dP 3 [] mn ?_
 obtain ⟨y,hy⟩:=bh q (j-1) I
 have V:=bC iC hy
 refine dS (IA (j-1) U (ar (n:=l.length) 0 U sq) eP dc I I) ?_
 refine dS (fX (j-1) 0 (vI y) U cd (ar (n:=q.length) 0 U sm) V U dc U)<|dS (CL (sU x y) (ao) U)<|dP 1 [] mn ?_
 refine b_<|RK J<|bp U (aM fun H=>?_) (aL fun H=>?_)
 ·refine bo<|ae<|ae<|aw<|az<|KK O<|aq<|rP 3 [] mn ?_
  refine aD ?_
  refine aR (M ⟨((i+1),q),⟨I,B,C,by exact qo hx hy I G H D⟩⟩ _ _ _ U (by simp only []; omega) (aB U) (aV [0]))
 refine WK c<|aj fun _ N=>au<|ep ck [15,16,17] [8,9,12,13,14] [] [] [0] U U U U U<|eS U (MV U)<|eS U (MV U)<|eS U (MV U)<|eS U (MV U)<|eS U (BI U (oV ⟨I,I⟩))<|eS U (MV U)<|eS U (MV U)<|eS U (BI U (oV ⟨I,I⟩)) ?_
 refine fS U (IA (j-1) U (ar (n:=l.length) 0 U sq) eP dc I I) ?_
 refine fS U (fX (j-1) 0 (vI y) U cd (ar (n:=q.length) 0 U sm) V U dc U)<|eS U (MV U)<|eS U (MV U) ?_
 refine fS U (IA j U (ar (n:=l.length) 0 U sq) eP dc I I) ?_
 refine fS U (fX j 0 (vI x) U cd (ar (n:=q.length) 0 U sm) L U dc U) ?_
 refine fS U (IA j U (ar (n:=l.length) 0 U sq) eP dc I I) ?_
 refine gK U<|cg U fun T12 P=>bE (k:=j) (o:=0) (vs:=[(vI y)]) (es':=(List.map iC (q.set j y))) (C':=[(own lA lC 3 1 (List.map iC (q.set j y)))]) 0 U U U nQ U U U U L U dc (by exact (List.map_set (f:=iC) (l:=q) (i:=j) (a:=y)).symm) U<|aD (P _ _ (aV []) ?_)
 refine cg U fun T13 R=>?_
 obtain ⟨d,AB⟩:=bh (q.set j y) (j-1) os
 have hx15m:(List.map iC (q.set j y))[(j-1)]? =some (iC d):=by rw [cN,AB]; rfl
 refine rS (IA (j-1) U (ar (n:=l.length) 0 U sq) eP dc I I) ?_
 refine aD (R _ _ (aV []) ?_)
 refine cg U fun T16 S=>bE (k:=(j-1)) (o:=0) (vs:=[(vI x)]) (es':=(List.map iC ((q.set j y).set (j-1) x))) (C':=[(own lA lC 3 1 (List.map iC ((q.set j y).set (j-1) x)))]) 0 U U U nQ U U U U hx15m U dc (by exact (List.map_set (f:=iC) (l:=(q.set j y)) (i:=(j-1)) (a:=x)).symm) U<|aD (S _ _ (aV []) ?_)
 refine hG U<|az<|KK N<|aq<|rP 3 [] mn ?_
 refine aD ?_
 have T:(vI (((j-1):Nat):Int))=(vI ((j:Int)-1)):=by exact cI I
 refine aR (W ⟨((j-1),((q.set j y).set (j-1) x)),⟨I,by simp; exact B,(oH hx hy).trans C,qh hx hy I G H D⟩⟩ _ _ _ U (by simp only []; omega) (cz 4<|bO U T<|cQ.nil _) (aV [0]))
theorem rK (x:Int) (hx:0≤x∧x≤100):
 kI Try.prog 79 [(Value.int .u64 x)] [] (fun (x:Int)=>(vI x)) (fun (x:Int)=>True) (fun (x:Int)=>[]):=by
 refine dM kr Try.func79 U U fun N Q hQ hN=>?_
 try dsimp only
 refine WS fun _ D=>aP 1 U<|RK D<|aj fun _ E=>WS fun _ F=>rP 1 [] mn ?_
 refine rS (BI U na)<|RK F<|bY U (aL fun L=>?_) (aM fun L=>?_)
 ·exfalso; omega
 refine WK E<|aj fun _ G=>WS fun _ H=>rP 1 [] mn ?_
 refine rS (BI U na)<|RK H<|bY U (aL fun M=>?_) (aM fun M=>?_)
 ·exfalso; omega
 refine WK G<|aj fun _ AB=>WS fun _ J=>rP 1 [] mn ?_
 refine rS (BI U na)<|RK J<|bY U (aL fun C=>?_) (aM fun C=>?_)
 ·exfalso; omega
 refine WK AB<|WS fun _ B=>aP 2 U<|rS (SX (ek (m:=x) U U uz rA (lH (by first|assumption|omega))) U U)<|tf (k:=(x).toNat) U U U wz I (Nat.lt_of_lt_of_le (m:=200) I (of_decide_eq_true kr)) U fun A K=>rS (SX (ek (m:=A) U U rA k_ (cR (by first|assumption|omega))) U U)<|rP 2 [] mn ?_
 refine RK B<|an<|LX hQ (0+A) [] [] mn U U U U ?_
 trivial
theorem sW (x:Int) (hx:0≤x∧x≤100):
 kI Try.prog 67 [(Value.int .u64 x)] [] (fun (x:Int)=>(vI x)) (fun (x:Int)=>True) (fun (x:Int)=>[]):=by
 refine dM kr Try.func67 U U fun F Q hQ hN=>?_
 try dsimp only
 refine WS fun _ A=>aP 1 U<|RK A<|aj fun _ B=>bH U<|WK B<|WS fun _ C=>rP 1 [] mn ?_
 refine cX (rK x hx) (ao) U fun E D=>?_
 try dsimp only
 refine rP 1 [] mn ?_
 refine RK C<|an<|LX hQ E [] [] mn U U U U ?_
 trivial
theorem uy (l:List Int) (lA:OA) (lC:Nat) (u:Int) (hlen:l.length≤12):
 q6 Try.prog 66 [(vS lA l.length lC),(vI 0),(vI (l.length:Int)),(vI u)] [] (own lA lC 3 1 (l.map iC)) (fun (x:(List Int))=>(vT [])) (fun (x:(List Int))=>x.Perm l∧x.Pairwise (· ≤ ·)) (fun (x:(List Int))=>(own lA lC 3 1 (x.map iC))):=by
 refine gQ kr Try.func66 U U fun K Q hQ hN=>?_
 try dsimp only
 refine WS fun _ A=>aP 1 U<|RK A<|WS fun _ B=>aP 1 U<|RK B<|au<|jQ 1<|fx fun R3 AB=>au<|WS fun _ C=>aP 4 U<|RK C<|aj fun _ H=>WS fun _ D=>rP 2 [] mn ?_
 refine RK D<|bp U (aM fun G=>?_) (aL fun G=>?_)
 ·exfalso; omega
 refine WS fun _ E=>rP 3 [] mn ?_
 refine eX 0 U U U U (oD l lA lC I) U gn U (fun J F=>?_)
 try dsimp only
 refine RK E<|an<|LM hQ J 0 [] mn U U U U ?_
 assumption
theorem sD (l:List Int) (lA:OA) (lC:Nat) (hlen:l.length≤12):
 q6 Try.prog 54 [(vS lA l.length lC)] [] (own lA lC 3 1 (l.map iC)) (fun (x:(List Int))=>(vT [])) (fun (x:(List Int))=>x.Perm l∧x.Pairwise (· ≤ ·)) (fun (x:(List Int))=>(own lA lC 3 1 (x.map iC))):=by
 refine gQ kr Try.func54 U U fun F Q hQ hN=>?_
 try dsimp only
 refine WS fun _ A=>aP 3 U<|RK A<|aq<|rP 3 [] mn ?_
 refine rS (SX (ek (m:=(l.length:Int)) U U k_ uB (k5 (by first|assumption|omega))) U U)<|cX (sW (l.length:Int) I) (ao) U fun E B=>?_
 try dsimp only
 refine eX 0 U U U U (uy l lA lC E hlen) U gn U (fun D C=>?_)
 try dsimp only
 refine aD<|LM hN D 0 [] mn U U U U ?_
 assumption
end
section
open Go.RowKit
theorem g9 (s:ah) (ts:List aa) (tsA:OA) (tsC:Nat) (best:Bool) (hs:aC s) (hst: ∀ x∈ts,ak x) (hlen:ts.length≤12) (hside: ∀ x∈ts,0≤x.aN∧x.aN≤255):
 kI Try.prog 29 [(vA (aW.cells (aW.mk s (ai.mk (cp.mk tsA ts.length tsC)) best)))] [(rd tsA ts.length 9 (ts.map aa.cells))] (fun (x:(OA)×Nat)=>(vS x.1 ((en best s ts).length) x.2)) (fun (x:(OA)×Nat)=>True) (fun (x:(OA)×Nat)=>[(own x.1 x.2 3 1 ((en best s ts).map iC))]):=by
 refine dM kr Try.func29 U U fun n Q hQ hN=>?_
 try dsimp only
 refine WS fun _ S=>dp U fun m=>aP 1 U<|RK S<|WS fun _ T=>aP 1 U<|RK T<|aj fun _ AB=>WS fun _ V=>rP 1 [] (mc 0 U mn) ?_
 refine cX (iM s ts tsA tsC best hs hst hlen hside) (aU [1]) U fun b j=>?_
 try dsimp only
 refine pK 0 U U oL U U fun l=>?_
 try dsimp only
 refine RK V<|au<|iF 3 1 ?_
 have C:(∀ p∈(du best s ts ts.length),p∈du best s ts ts.length)∧((([]:List Int)++((du best s ts ts.length).filter (iR ts)).map (·.1)).Perm (en best s ts)):=by exact ⟨fun _ h=>h,by rw [List.nil_append,nL]⟩
 refine bx (ι:={z:(List (Int×Int))×(List Int)×(OA)×Nat // (∀ p∈z.1,p∈du best s ts ts.length)∧((z.2.1++(z.1.filter (iR ts)).map (·.1)).Perm (en best s ts))}) [1,8] [2,3] U U (fun z=>[(3,(vS z.1.2.2.1 z.1.2.1.length z.1.2.2.2))]) (fun z=>[(own z.1.2.2.1 z.1.2.2.2 3 1 (z.1.2.1.map iC)),(mi l b (eO iV (du best s ts ts.length)) (eO iV z.1.1) none)]) (fun _=>rfl) (fun _=>rfl) (fun z=>z.1.1.length) ⟨((du best s ts ts.length),([]:List Int),none,0),C⟩ (aB U) (aV [2,3,0,1]) ?_
 clear C
 rintro ⟨⟨left,acc,a,c⟩,⟨B,A⟩⟩ J10 E
 try dsimp only at B A
 try dsimp only
 refine WS fun _ F=>n9 (f:=iV) 3 U U U U (fun M=>?_) (fun x y hm D=>?_)
 ·refine rP 1 [] mn ?_
  refine RK F<|aj fun _ Y=>bH U<|bo<|ae<|ae<|aw<|KK AB<|WS fun _ G=>?_
  have O:acc.Perm (en best s ts):=by simpa [M] using A
  have L:=O.length_eq
  have d:=pD (best:=best) (s:=s) (ts:=ts)
  refine rP 1 [] mn ?_
  refine eX 2 U U U U (sD acc a c sd) U gn U (fun mSorted N=>?_)
  try dsimp only
  refine RK G<|WS fun _ H=>?_
  have W:mSorted=en best s ts:=kf (N.1.trans O) N.2 mW
  subst W
  skip
  refine rP 2 [] mn ?_
  refine RK H<|an ?_
  refine LX hQ (a,c) [2] [] mn U U U ?_ ?_
  ·rw [L]; rfl
  ·trivial
 try dsimp only
 refine rP 1 [] mn ?_
 refine RK F<|aj fun _ AC=>aK U<|WK AC<|au<|WS fun _ J=>?_
 obtain ⟨e,i,g,k⟩:=qg (B _ hm)
 have L:=qf A
 refine rS (SX (nO 3 U U U) U U)<|aP 4 U<|RK J<|WS fun _ K=>rP 5 [] (mc 0 U mn) ?_
 obtain ⟨z,hz⟩:=bh ts ((x).toNat) I
 have X:=bC aa.cells hz
 refine rS (IA ((x).toNat) U (aH 1 U) gU dc I I)<|rS (mm ((((x).toNat)*9)+8) U (aH 1 U) (Nat.mul_pos I dc) iY U)<|rS (fX ((x).toNat) 8 (vI z.dD) U cd (aH 1 U) X U dc U)<|rP 1 [] mn ?_
 refine RK K<|bp U (aM fun ht=>?_) (aL fun ht=>?_)
 ·refine bW<|az<|iS 3 U nG U ?_
  refine aR (E ⟨((dE left x),acc,a,c),⟨fun p hp=>B p (lZ.1 hp).1,by first|exact mZ A hm D (by rw [dU hz]; exact ht)|exact nx A hm D (by rw [dU hz]; exact ht)⟩⟩ _ _ _ U (nd hm) (aB U) (aV [0,1,2,3]))
 refine aq<|rP 2 [] mn ?_
 refine gp (xs:=[.tmp 24]) (cs:=[(vI x)]) U eP rf U U U U (by simp [Value.cells]) U U fun Z=>?_
 refine ig (es2:=(List.map iC (acc++([x])))) (m':=(acc++([x])).length) 3 U U U uH U U sm (bI (es:=List.map iC [x]) 0 U U (by simp [cY]) U) (px _) os (by first|(simp only [maxLen]; omega)|(simp [maxLen]; omega)) sm sm U fun P R=>?_
 try dsimp only
 refine rP 1 [] mn ?_
 refine aD<|az<|iS 4 U nG U ?_
 refine aR (E ⟨((dE left x),(acc++([x])),P,R),⟨fun p hp=>B p (lZ.1 hp).1,by first|exact mZ A hm D (by rw [dU hz]; exact ht)|exact nx A hm D (by rw [dU hz]; exact ht)⟩⟩ _ _ _ U (nd hm) (aB U) (aV [1,2,3,4]))
theorem po (ts:List aa) (tsA:OA) (tsC:Nat) (s:ah) (hlen:ts.length≤1000000) (hside: ∀ x∈ts,0≤x.aN∧x.aN≤255) (htr:aG ts=false):
 cn Try.prog 9 [(vA (ai.cells (ai.mk (cp.mk tsA ts.length tsC)))),(vA (ah.cells s))] [(rd tsA ts.length 9 (ts.map aa.cells))] (vT [(Value.int .u8 (gN s ts)),(vI (aT s ts))]):=by
 have A: ¬ aT s ts=0:=by rw [ey htr]; decide
 refine aS kr Try.func9 U U fun K Q hQ hN=>?_
 try dsimp only
 refine WS fun _ B=>dp U fun G=>dp U fun H=>aP 2 U<|RK B<|WS fun _ C=>e7 2 [0,1] (mc 1 U (mc 0 U mn)) U<|rS (CL (gb ts tsA tsC s hlen hside htr) (aU [2]) U)<|aP 4 U<|AL U cW fun AB=>AL U cW fun J=>kb U cV U<|eg U cV U<|aP 1 U<|RK C<|aj fun _ F=>au<|WS fun _ D=>rP 3 [] mn ?_
 refine RK D<|bp U (aI fun he=>?_) (aJ fun he=>?_)
 ·exact absurd he A
 refine WS fun _ E=>rP 3 [] mn ?_
 refine RK E<|an<|Q2 hQ U U U U ?_
 rw [lR A]
theorem oG (ts:List aa) (tsA:OA) (tsC:Nat) (s:ah) (hlen:ts.length≤1000000) (hside: ∀ x∈ts,0≤x.aN∧x.aN≤255) (htr:aG ts=true) (hns: ¬ aC s):
 cn Try.prog 9 [(vA (ai.cells (ai.mk (cp.mk tsA ts.length tsC)))),(vA (ah.cells s))] [(rd tsA ts.length 9 (ts.map aa.cells))] (vT [(Value.int .u8 (gN s ts)),(vI (aT s ts))]):=by
 have A: ¬ aT s ts=0:=by rw [eG htr hns]; decide
 refine aS kr Try.func9 U U fun K Q hQ hN=>?_
 try dsimp only
 refine WS fun _ B=>dp U fun G=>dp U fun H=>aP 2 U<|RK B<|WS fun _ C=>e7 2 [0,1] (mc 1 U (mc 0 U mn)) U<|rS (CL (dY ts tsA tsC s hlen hside htr) (aU [2]) U)<|aP 4 U<|AL U cW fun AB=>AL U cW fun J=>kb U cV U<|eg U cV U<|aP 1 U<|RK C<|aj fun _ F=>au<|WS fun _ D=>rP 3 [] mn ?_
 refine RK D<|bp U (aI fun he=>?_) (aJ fun he=>?_)
 ·exact absurd he A
 refine WS fun _ E=>rP 3 [] mn ?_
 refine RK E<|an<|Q2 hQ U U U U ?_
 rw [lR A]
theorem rm (ts:List aa) (tsA:OA) (tsC:Nat) (s:ah) (hlen:ts.length≤1000000) (hside: ∀ x∈ts,0≤x.aN∧x.aN≤255) (htr:aG ts=true) (hs:aC s):
 cn Try.prog 9 [(vA (ai.cells (ai.mk (cp.mk tsA ts.length tsC)))),(vA (ah.cells s))] [(rd tsA ts.length 9 (ts.map aa.cells))] (vT [(Value.int .u8 (gN s ts)),(vI (aT s ts))]):=by
 have A:=cf htr hs
 have X:=cv htr
 have O:=cK htr
 have W:=dy htr
 refine aS kr Try.func9 U U fun c Q hQ hN=>?_
 try dsimp only
 refine WS fun _ H=>dp U fun Y=>dp U fun Z=>aP 2 U<|RK H<|WS fun _ AC=>e7 2 [0,1] (mc 1 U (mc 0 U mn)) U<|rS (CL (dY ts tsA tsC s hlen hside htr) (aU [2]) U)<|aP 4 U<|AL U cW fun a=>AL U cW fun b=>kb U cV U<|eg U cV U<|aP 1 U<|RK AC<|aj fun _ J=>au<|WS fun _ K=>rP 3 [] mn ?_
 refine RK K<|bY U (aJ fun he=>?_) (aI fun he=>?_)
 ·exact absurd A he
 refine WS fun _ L=>rP 1 [] (mc 1 U mn) ?_
 refine cX (g9 s ts tsA tsC false hs sd sd hside) (aU [4]) U fun M P=>?_
 obtain ⟨S,AB⟩:=M
 try dsimp only
 refine rP 3 [] mn ?_
 refine RK L<|bY U (aL fun B=>?_) (aM fun B=>?_)
 ·refine WS fun _ D=>rP 2 [] mn ?_
  refine RK D<|an<|Q2 hQ U U U U ?_
  first|(rw [cD A,A,eM (iT B)]<;>rfl)|(rw [cD A,A,gu (fG B) (iT C)]<;>rfl)|(rw [cD A,A,fp (fG B) (fG C)]<;>rfl)
 refine WS fun _ E=>rP 1 [] (mc 1 U mn) ?_
 refine cX (g9 s ts tsA tsC true hs sd sd hside) (aU [5]) U fun N R=>?_
 obtain ⟨T,V⟩:=N
 try dsimp only
 refine rP 3 [] mn ?_
 refine RK E<|bY U (aL fun C=>?_) (aM fun C=>?_)
 ·refine WS fun _ F=>rP 2 [] mn ?_
  refine RK F<|an<|Q2 hQ U U U U ?_
  first|(rw [cD A,A,eM (iT B)]<;>rfl)|(rw [cD A,A,gu (fG B) (iT C)]<;>rfl)|(rw [cD A,A,fp (fG B) (fG C)]<;>rfl)
 refine bW<|az<|KK J<|WS fun _ G=>rP 2 [] mn ?_
 refine RK G<|an<|Q2 hQ U U U U ?_
 first|(rw [cD A,A,eM (iT B)]<;>rfl)|(rw [cD A,A,gu (fG B) (iT C)]<;>rfl)|(rw [cD A,A,fp (fG B) (fG C)]<;>rfl)
theorem oO (ts:List aa) (tsA:OA) (tsC:Nat) (s:ah) (hlen:ts.length≤1000000) (hside: ∀ x∈ts,0≤x.aN∧x.aN≤255) (hb: ¬ aT s ts=0):
 cn Try.prog 9 [(vA (ai.cells (ai.mk (cp.mk tsA ts.length tsC)))),(vA (ah.cells s))] [(rd tsA ts.length 9 (ts.map aa.cells))] (vT [(Value.int .u8 (gN s ts)),(vI (aT s ts))]):=by
 by_cases A:aG ts=true
 ·by_cases hs:aC s
  ·exact absurd (cf A hs) hb
  ·exact oG ts tsA tsC s hlen hside A hs
 ·exact po ts tsA tsC s hlen hside (by simpa using A)
theorem mF (ts:List aa) (tsA:OA) (tsC:Nat) (s:ah) (hlen:ts.length≤1000000) (hside: ∀ x∈ts,0≤x.aN∧x.aN≤255):
 cn Try.prog 9 [(vA (ai.cells (ai.mk (cp.mk tsA ts.length tsC)))),(vA (ah.cells s))] [(rd tsA ts.length 9 (ts.map aa.cells))] (vT [(Value.int .u8 (gN s ts)),(vI (aT s ts))]):=by
 by_cases hb:aT s ts=0
 ·obtain ⟨A,B⟩:=dV hb
  exact rm ts tsA tsC s hlen hside A B
 ·exact oO ts tsA tsC s hlen hside hb
end
section
open Go.RowKit
theorem qU (v h:Int) (g1:Nat) (hh:0≤h∧h≤400000) (hv:0≤v∧v≤10000):
 cn Try.prog 55 [(vI v),(vP g1)] [(ct g1 3 [(vI h)])] (vB (decide (1962*h<10*v*v))):=by
 have E:=ma (a:=10*v) (b:=v) (A:=100000) (B:=10000) I I I I
 refine aS kr Try.func55 U U fun F Q hQ hN=>?_
 try dsimp only
 refine WS fun _ C=>aP 1 U<|RK C<|WS fun _ D=>aP 1 U<|rS (BI U (fQ ⟨I,I⟩))<|aP 1 U<|rS (BI U (fQ ⟨I,I⟩))<|e7 1 [] (mr 0 U mn) U<|rS (BI U (fQ ⟨I,I⟩))<|rP 2 [] mn ?_
 refine RK D<|an ?_
 exact Q1 hQ U U U U
theorem qY (v h:Int) (g1:Nat) (hh:0≤h∧h≤400000) (hv:0≤v∧v≤10000):
 cn Try.prog 56 [(vI v),(vP g1)] [(ct g1 3 [(vI h)])] (vB (decide (1962*h≤10*v*v))):=by
 have E:=ma (a:=10*v) (b:=v) (A:=100000) (B:=10000) I I I I
 refine aS kr Try.func56 U U fun F Q hQ hN=>?_
 try dsimp only
 refine WS fun _ C=>aP 1 U<|RK C<|WS fun _ D=>aP 1 U<|rS (BI U (fQ ⟨I,I⟩))<|aP 1 U<|rS (BI U (fQ ⟨I,I⟩))<|e7 1 [] (mr 0 U mn) U<|rS (BI U (fQ ⟨I,I⟩))<|rP 2 [] mn ?_
 refine RK D<|an ?_
 exact Q1 hQ U U U U
theorem k9 (lo hi:Int) (f:Value) (p:Int→Bool) (X:ag) (r:Int) (hf: ∀ x0,0≤x0∧x0<hi→tT Try.prog f [.int .i64 x0] [X] (.bool (p x0))) (hb:0≤lo∧lo≤r∧r≤hi∧hi≤100000000) (hno: ∀ x,lo≤x→x<r→p x=false) (hyes: ∀ x,r≤x→x<hi→p x=true):
 cn Try.prog 33 [(vI lo),(vI hi),f] [X] (vI r):=by
 refine aS kr Try.func33 U U fun N Q hQ hN=>?_
 try dsimp only
 refine WS fun _ F=>rP 1 [] mn ?_
 refine RK F<|aj fun _ G=>au ?_
 have A:(lo≤lo∧lo≤r)∧(r≤hi∧hi≤hi):=by first|trivial|omega|(refine ⟨?_,?_⟩<;>first|trivial|omega|simp)
 refine bx (ι:={z:Int×Int // (lo≤z.1∧z.1≤r)∧(r≤z.2∧z.2≤hi)}) [2] [0] U U (fun z=>[(0,(vI z.1.1)),(1,(vI z.1.2))]) (fun z=>[]) (fun _=>rfl) (fun _=>rfl) (fun z=>(z.1.2-z.1.1).toNat) ⟨(lo,hi),A⟩ (aB U) (aV [0]) ?_
 clear A
 rintro ⟨⟨a,b⟩,⟨B,C⟩⟩ J3 E
 try dsimp only at B C
 try dsimp only
 refine aj fun _ H=>WS fun _ AB=>rP 3 [] mn ?_
 refine RK AB<|bp U (aM fun M=>?_) (aL fun M=>?_)
 ·refine bo<|ae<|ae<|aw<|KK G<|WS fun _ L=>rP 2 [] mn ?_
  refine RK L<|an<|Q1 hQ U U U ?_
  exact cI I
 refine WK H<|au<|WS fun _ J=>aP 4 U<|rS (BI U (lL I I I))<|aP 2 U<|RK J<|WS fun _ K=>rP 2 [] mn ?_
 refine rS (SX (mO U U U (hf (a+((b-a)/2)) I) (aU [0])) U U)<|RK K<|bY U (fun hp=>?_) (fun hp=>?_)
 ·refine aq<|rP 2 [] mn ?_
  refine aD<|az ?_
  refine aR (E ⟨(a,(a+((b-a)/2))),(by dsimp only; rcases Int.lt_or_le (a+(b-a)/2) r with q|q; (have D:=hno _ I q; first|(refine ⟨⟨I,I⟩,I,I⟩)|(rw [D] at hp; cases hp)); (have D:=hyes _ q I; first|(refine ⟨⟨I,I⟩,I,I⟩)|(rw [D] at hp; cases hp)))⟩ _ _ _ rfl (by simp only []; omega) (aB rfl) (aV [0]))
 refine aq<|rP 3 [] mn ?_
 refine aD<|az ?_
 refine aR (E ⟨(((a+((b-a)/2))+1),b),(by dsimp only; rcases Int.lt_or_le (a+(b-a)/2) r with q|q; (have D:=hno _ I q; first|(refine ⟨⟨I,I⟩,I,I⟩)|(rw [D] at hp; cases hp)); (have D:=hyes _ q I; first|(refine ⟨⟨I,I⟩,I,I⟩)|(rw [D] at hp; cases hp)))⟩ _ _ _ rfl (by simp only []; omega) (aB rfl) (aV [0]))
theorem pc (h:Int) (hh:0≤h∧h≤400000):
 cn Try.prog 31 [(vI h)] [] (vI (cE h)):=by
 have hs:=j1 hh.1 hh.2
 have E:=lJ hh.1 hh.2
 refine aS kr Try.func31 U U fun H Q hQ hN=>?_
 try dsimp only
 refine WS fun _ C=>tM U U fun A=>rP 1 [] mn ?_
 refine RK C<|WS fun _ D=>rS (FU U) ?_
 refine rS (CL (k9 0 10000 (Value.func (.func 55) [].toArray [(vP A)].toArray) (fun B=>(decide (1962*h<10*B*B))) (so [(ct A 3 [(vI h)])]) (cE h+1) (by intro B _; exact j6 (fi:=[]) (ca:=[(vP A)]) (ik (qU B h A (by first|assumption|omega) (by first|assumption|omega)) (aU [0]))) sd (by intro x F hx; exact qF hh.1 I hx) (by intro x hx G; exact oI hh.1 hx)) (bB (ia (aU [0]))<|ao) U) ?_
 refine rP 2 [] mn ?_
 refine RK D<|an<|Q1 hQ U U U ?_
 exact cI I
theorem th (h:Int) (hh:0≤h∧h≤400000):
 cn Try.prog 32 [(vI h)] [] (vI (eU h)):=by
 have hs:=j1 hh.1 hh.2
 have E:=lJ hh.1 hh.2
 refine aS kr Try.func32 U U fun H Q hQ hN=>?_
 try dsimp only
 refine WS fun _ C=>tM U U fun A=>rP 1 [] mn ?_
 refine RK C<|WS fun _ D=>rS (FU U) ?_
 refine rS (CL (k9 0 10000 (Value.func (.func 56) [].toArray [(vP A)].toArray) (fun B=>(decide (1962*h≤10*B*B))) (so [(ct A 3 [(vI h)])]) (eU h) (by intro B _; exact j6 (fi:=[]) (ca:=[(vP A)]) (ik (qY B h A (by first|assumption|omega) (by first|assumption|omega)) (aU [0]))) sd (by intro x F hx; exact rB hh.1 I hx) (by intro x hx G; exact oQ hh.1 hx)) (bB (ia (aU [0]))<|ao) U) ?_
 refine rP 1 [] mn ?_
 refine RK D<|an<|Q1 hQ U U U ?_
 exact cI I
end
section
open Go.RowKit
theorem q7 (ts:List aa) (tsA:OA) (tsC:Nat) (s:ah) (i:Int) (hlen:ts.length≤1000000) (hside: ∀ x∈ts,0≤x.aN∧x.aN≤255):
 cn Try.prog 13 [(vA (ai.cells (ai.mk (cp.mk tsA ts.length tsC)))),(vA (ah.cells s)),(vI i)] [(rd tsA ts.length 9 (ts.map aa.cells))] (vT [(vA (ab.cells (jG s ts i))),(vI (gW s ts i))]):=by
 refine aS kr Try.func13 U U fun e Q hQ hN=>?_
 try dsimp only
 refine WS fun _ O=>dp U fun a=>dp U fun b=>AL U fD fun c=>aP 1 U<|RK O<|WS fun _ P=>rP 2 [0,1] (mc 2 U (mc 1 U mn)) ?_
 refine cX (jo ts tsA tsC s hlen hside) (aU [3]) U fun Y X=>?_
 obtain ⟨Z,d⟩:=Y
 try dsimp only
 refine aP 5 U<|RK P<|aj fun _ D=>WS fun _ E=>rP 2 [] mn ?_
 refine RK E<|bY U (aJ fun he=>?_) (aI fun he=>?_)
 ·refine WS fun _ F=>rS (SX (aY (xs:=[]) (cs:=(ab.cells (ab.mk 0 0))) U U (aX gV U)) U U)<|aP 1 U<|kb U fO U<|rP 1 [] mn ?_
  refine RK F<|an<|qc hQ [0] (mc 1 U mn) U ?_
  first|(rw [(d_ (i:=i) he).1,(d_ (i:=i) he).2]<;>rfl)|(rw [(dC (i:=i) he I).1,(dC (i:=i) he I).2]<;>rfl)|(rw [(dI (i:=i) he I).1,(dI (i:=i) he I).2,A]<;>rfl)
 refine WK D<|aj fun _ G=>WS fun _ B=>?_
 obtain ⟨C,hs⟩:=dV he
 have K:=cv C
 have R:=cK C
 have W:=cO (s:=s) (ts:=ts)
 rw [fm C hs]
 refine rP 3 [] mn ?_
 refine cb (t:=22) U (aL fun M=>?_) (aM fun M=>?_)
 ·refine aP 5 U<|RK B<|aK U<|WS fun _ H=>rS (SX (aY (xs:=[]) (cs:=(ab.cells (ab.mk 0 0))) U U (aX gV U)) U U)<|kb U fO U<|rP 1 [] mn ?_
  refine RK H<|an<|qc hQ [0] (mc 1 U mn) U ?_
  first|(rw [(d_ (i:=i) he).1,(d_ (i:=i) he).2]<;>rfl)|(rw [(dC (i:=i) he I).1,(dC (i:=i) he I).2]<;>rfl)|(rw [(dI (i:=i) he I).1,(dI (i:=i) he I).2,A]<;>rfl)
 refine rP 5 [] mn ?_
 refine RK B<|bY U (aL fun N=>?_) (aM fun N=>?_)
 ·refine WS fun _ AC=>rS (SX (aY (xs:=[]) (cs:=(ab.cells (ab.mk 0 0))) U U (aX gV U)) U U)<|kb U fO U<|rP 1 [] mn ?_
  refine RK AC<|an<|qc hQ [0] (mc 1 U mn) U ?_
  first|(rw [(d_ (i:=i) he).1,(d_ (i:=i) he).2]<;>rfl)|(rw [(dC (i:=i) he I).1,(dC (i:=i) he I).2]<;>rfl)|(rw [(dI (i:=i) he I).1,(dI (i:=i) he I).2,A]<;>rfl)
 refine WK G<|aj fun _ J=>cy ck 13 kr<|dP 2 [] mn ?_
 obtain ⟨y,hy⟩:=bh (bA s ts) ((i).toNat) I
 have L:=bC ab.cells hy
 refine dS (IA ((i).toNat) U (ar (n:=(bA s ts).length) 0 U sm) gG dc I I)<|dS (mm (((i).toNat)*2) U (ar (n:=(bA s ts).length) 0 U sm) (Nat.mul_pos I dc) iY U) ?_
 have AB:=cC (best:=false) hs K i.toNat
 have V:=cC (best:=true) hs K i.toNat
 have A:y=fB s ts i.toNat:=by rw [fP I] at hy; exact (Option.some.inj hy).symm
 have T:0≤y.Lo∧y.Lo≤400000:=by rw [A]; simp only [fB]; omega
 have S:0≤y.Hi∧y.Hi≤400000:=by rw [A]; simp only [fB]; omega
 refine dS (fX ((i).toNat) 0 (vI y.Lo) U cd (ar (n:=(bA s ts).length) 0 U sm) L U dc U) ?_
 refine dS (CL (pc y.Lo sd) (ao) U) ?_
 refine dP 2 [] mn ?_
 refine dS (IA ((i).toNat) U (ar (n:=(bA s ts).length) 0 U sm) gG dc I I)<|dS (mm ((((i).toNat)*2)+1) U (ar (n:=(bA s ts).length) 0 U sm) (Nat.mul_pos I dc) iY U)<|dS (fX ((i).toNat) 1 (vI y.Hi) U cd (ar (n:=(bA s ts).length) 0 U sm) L U dc U) ?_
 refine dS (CL (th y.Hi sd) (ao) U) ?_
 refine dS (SX (aY (xs:=[(0,.tmp 34),(1,.tmp 40)]) (cs:=(ab.cells (ab.mk (cE y.Lo) (eU y.Hi)))) U U (aX gV U)) U U)<|b_<|kb U fO U<|rP 1 [] mn ?_
 refine RK J<|an<|qc hQ [0] (mc 1 U mn) U ?_
 first|(rw [(d_ (i:=i) he).1,(d_ (i:=i) he).2]<;>rfl)|(rw [(dC (i:=i) he I).1,(dC (i:=i) he I).2]<;>rfl)|(rw [(dI (i:=i) he I).1,(dI (i:=i) he I).2,A]<;>rfl)
end
section
open Go.RowKit
theorem qn (h:Int) (s:ah) (ts:List aa) (tsA:OA) (tsC:Nat) (best:Bool) (g1:Nat) (tl:List Int) (tlA:OA) (tlC g2 g3:Nat) (k:Int) (x:aa) (hs:aC s) (hst: ∀ x∈ts,ak x) (hlen:ts.length≤12) (hk:tl[0]? =some k) (hk1:0≤k∧k<ts.length) (hx:ts[k.toNat]? =some x) (hh:0≤h∧h≤1048576):
 cn Try.prog 34 [(vI h),(vP g1),(vP g2),(vP g3)] [(rd tsA ts.length 9 (ts.map aa.cells)),(ct g1 69 (aW.cells (aW.mk s (ai.mk (cp.mk tsA ts.length tsC)) best))),(rd tlA tl.length 1 (tl.map iC)),(ct g2 72 [(vS tlA tl.length tlC)]),(ct g3 24 (ai.cells (ai.mk (cp.mk tsA ts.length tsC))))] (vB (decide (x.dD<dj best s x h))):=by
 have E:=(av.1 hk).1
 refine aS kr Try.func34 U U fun F Q hQ hN=>?_
 try dsimp only
 refine WS fun _ B=>aP 1 U<|RK B<|aj fun _ C=>cy ck 16 kr<|dP 2 [0,1] (mr 1 U (mr 3 U mn)) ?_
 obtain ⟨z,hz⟩:=bh tl 0 I
 have A:=bC iC hz
 refine dS (IA 0 U (aH 2 U) eP dc U I) ?_
 have zk:z=k:=Option.some.inj (hz.symm.trans hk)
 subst zk
 refine dS (fX 0 0 (vI z) U cd (aH 2 U) A U dc U)<|dP 1 [] mn ?_
 refine dS (CL (pI s ts tsA tsC best z h x hs hst hlen sd sd sd) (aU [0]) U) ?_
 refine dP 3 [0,1] (mr 4 U (mr 3 U mn)) ?_
 refine dS (IA 0 U (aH 2 U) eP dc U I)<|dS (fX 0 0 (vI z) U cd (aH 2 U) A U dc U) ?_
 obtain ⟨y,hy⟩:=bh ts ((z).toNat) I
 have D:=bC aa.cells hy
 refine dS (IA ((z).toNat) U (aH 0 U) gU dc I I)<|dS (mm ((((z).toNat)*9)+8) U (aH 0 U) (Nat.mul_pos I dc) iY U)<|dS (fX ((z).toNat) 8 (vI y.dD) U cd (aH 0 U) D U dc U)<|dP 2 [] mn ?_
 refine b_<|RK C<|an<|Q1 hQ U U U ?_
 obtain rfl:y=x:=Option.some.inj (hy.symm.trans hx)
 rfl
theorem nX (ts:List aa) (tsA:OA) (tsC:Nat) (s:ah) (hlen:ts.length≤1000000) (hside: ∀ x∈ts,0≤x.aN∧x.aN≤255) (htr:aG ts=false):
 cn Try.prog 14 [(vA (ai.cells (ai.mk (cp.mk tsA ts.length tsC)))),(vA (ah.cells s))] [(rd tsA ts.length 9 (ts.map aa.cells))] (vT [(vI (eL s ts)),(vI (eN s ts)),(vI (eE s ts))]):=by
 have A: ¬ aT s ts=0:=by rw [ey htr]; decide
 refine aS kr Try.func14 U U fun K Q hQ hN=>?_
 try dsimp only
 refine WS fun _ B=>dp U fun G=>dp U fun H=>aP 3 U<|RK B<|WS fun _ C=>e7 2 [0,1] (mc 1 U (mc 0 U mn)) U<|rS (CL (gb ts tsA tsC s hlen hside htr) (aU [2]) U)<|aP 4 U<|AL U cW fun AB=>AL U cW fun J=>kb U cV U<|eg U cV U<|aP 1 U<|RK C<|aj fun _ F=>WS fun _ D=>rP 2 [] mn ?_
 refine RK D<|bp U (aI fun he=>?_) (aJ fun he=>?_)
 ·exact absurd he A
 refine WS fun _ E=>rP 4 [] mn ?_
 refine RK E<|an<|Q3 hQ U U U U U ?_
 rw [(fr A).1,(fr A).2.1,(fr A).2.2]
theorem mA (ts:List aa) (tsA:OA) (tsC:Nat) (s:ah) (hlen:ts.length≤1000000) (hside: ∀ x∈ts,0≤x.aN∧x.aN≤255) (htr:aG ts=true) (hns: ¬ aC s):
 cn Try.prog 14 [(vA (ai.cells (ai.mk (cp.mk tsA ts.length tsC)))),(vA (ah.cells s))] [(rd tsA ts.length 9 (ts.map aa.cells))] (vT [(vI (eL s ts)),(vI (eN s ts)),(vI (eE s ts))]):=by
 have A: ¬ aT s ts=0:=by rw [eG htr hns]; decide
 refine aS kr Try.func14 U U fun K Q hQ hN=>?_
 try dsimp only
 refine WS fun _ B=>dp U fun G=>dp U fun H=>aP 3 U<|RK B<|WS fun _ C=>e7 2 [0,1] (mc 1 U (mc 0 U mn)) U<|rS (CL (dY ts tsA tsC s hlen hside htr) (aU [2]) U)<|aP 4 U<|AL U cW fun AB=>AL U cW fun J=>kb U cV U<|eg U cV U<|aP 1 U<|RK C<|aj fun _ F=>WS fun _ D=>rP 2 [] mn ?_
 refine RK D<|bp U (aI fun he=>?_) (aJ fun he=>?_)
 ·exact absurd he A
 refine WS fun _ E=>rP 4 [] mn ?_
 refine RK E<|an<|Q3 hQ U U U U U ?_
 rw [(fr A).1,(fr A).2.1,(fr A).2.2]
theorem qi (ts:List aa) (tsA:OA) (tsC:Nat) (s:ah) (hlen:ts.length≤1000000) (hside: ∀ x∈ts,0≤x.aN∧x.aN≤255) (htr:aG ts=true) (hs:aC s):
 cn Try.prog 14 [(vA (ai.cells (ai.mk (cp.mk tsA ts.length tsC)))),(vA (ah.cells s))] [(rd tsA ts.length 9 (ts.map aa.cells))] (vT [(vI (eL s ts)),(vI (eN s ts)),(vI (eE s ts))]):=by
 have A:=cf htr hs
 have D:=cv htr
 have Y:=cK htr
 have d:=dy htr
 have hside2:=hside
 refine aS kr Try.func14 U U fun l Q hQ hN=>?_
 try dsimp only
 refine WS fun _ P=>dp U fun N=>dp U fun h=>aP 3 U<|RK P<|WS fun _ R=>e7 2 [0,1] (mc 1 U (mc 0 U mn)) U<|rS (CL (dY ts tsA tsC s hlen hside htr) (aU [2]) U)<|aP 4 U<|AL U cW fun j=>AL U cW fun O=>kb U cV U<|eg U cV U<|aP 1 U<|RK R<|aj fun _ S=>WS fun _ T=>rP 2 [] mn ?_
 refine RK T<|bY U (aJ fun he=>?_) (aI fun he=>?_)
 ·exact absurd A he
 refine WK S<|WS fun _ AB=>rP 1 [] (mc 0 U mn) ?_
 refine cX (g9 s ts tsA tsC true hs sd sd hside) (aU [4]) U fun X Z=>?_
 obtain ⟨C,F⟩:=X
 try dsimp only
 refine AL U sL fun B=>wh U tj U U<|RK AB<|aj fun _ G=>WS fun _ H=>rP 3 [] (mc 0 U mn) ?_
 refine RK H<|bY U (aL fun W=>?_) (aM fun W=>?_)
 ·refine WS fun _ AC=>rP 3 [] mn ?_
  refine RK AC<|an<|Q3 hQ U U U U U ?_
  first|(have e:=jz (s:=s) A (ic I); rw [e.1,e.2.1,e.2.2])|(have e:=gX A hk hx; rw [e.1,e.2.1,e.2.2])
 refine WK G<|WS fun _ J=>?_
 obtain ⟨k,hk⟩: ∃ k,(en true s ts)[0]? =some k:=⟨(en true s ts)[0]'I,cw _⟩
 obtain ⟨b,c,V⟩:=s_ hk
 obtain ⟨x,hx⟩: ∃ x,ts[k.toNat]? =some x:=⟨ts[k.toNat]'I,cw _⟩
 have f:=ph hs D I hx V
 have a:=mN (best:=true) hs D (i:=k.toNat) I
 refine rS (FU U) ?_
 refine rS (CL (k9 0 1048576 (Value.func (.func 34) [].toArray [(vP O),(vP B),(vP N)].toArray) (fun E=>(decide (x.dD<dj true s x E))) (so [(rd tsA ts.length 9 (ts.map aa.cells)),(ct O 69 (aW.cells (aW.mk s (ai.mk (cp.mk tsA ts.length tsC)) true))),(rd C ((en true s ts).length) 1 ((en true s ts).map iC)),(ct B 72 [(vS C ((en true s ts).length) F)]),(ct N 24 (ai.cells (ai.mk (cp.mk tsA ts.length tsC))))]) (je s x) (by intro E _; exact j6 (fi:=[]) (ca:=[(vP O),(vP B),(vP N)]) (ik (qn E s ts tsA tsC true O (en true s ts) C F B N k x (by first|assumption|omega) (by first|assumption|omega) (by first|assumption|omega) (by first|assumption|omega) (by first|assumption|omega) (by first|assumption|omega) (by first|assumption|omega)) (aU [0,1,2,3,4]))) sd (by intro y _ hy; exact gv (p:=iy s x) (n:=1048576) I hy) (by intro y hy g; exact jw (p:=iy s x) (n:=1048576) (js (D x (aA hx))) hy I)) (bB (ia (pq [6,2]<|bB (ar (n:=(en true s ts).length) 1 U sm)<|kv 0 U U<|kv 5 U U<|ao))<|ao) U) ?_
 refine aP 1 U<|RK J<|aj fun _ K=>cy ck 8 kr<|dP 1 [] (mc 0 U mn) ?_
 obtain ⟨kk,L⟩:=bh (en true s ts) 0 I
 have M:=bC iC L
 refine dS (IA 0 U (ar (n:=(en true s ts).length) 1 U sm) eP dc U I) ?_
 have kkk:kk=k:=Option.some.inj (L.symm.trans hk)
 subst kkk
 refine dS (fX 0 0 (vI kk) U cd (ar (n:=(en true s ts).length) 1 U sm) M U dc U)<|dP 1 [] mn ?_
 refine dS (CL (pc (je s x) sd) (ao) U) ?_
 refine dP 3 [] mn ?_
 refine b_<|RK K<|an<|Q3 hQ U U U U U ?_
 first|(have e:=jz (s:=s) A (ic I); rw [e.1,e.2.1,e.2.2])|(have e:=gX A hk hx; rw [e.1,e.2.1,e.2.2])
theorem ot (ts:List aa) (tsA:OA) (tsC:Nat) (s:ah) (hlen:ts.length≤1000000) (hside: ∀ x∈ts,0≤x.aN∧x.aN≤255) (hb: ¬ aT s ts=0):
 cn Try.prog 14 [(vA (ai.cells (ai.mk (cp.mk tsA ts.length tsC)))),(vA (ah.cells s))] [(rd tsA ts.length 9 (ts.map aa.cells))] (vT [(vI (eL s ts)),(vI (eN s ts)),(vI (eE s ts))]):=by
 by_cases A:aG ts=true
 ·by_cases hs:aC s
  ·exact absurd (cf A hs) hb
  ·exact mA ts tsA tsC s hlen hside A hs
 ·exact nX ts tsA tsC s hlen hside (by simpa using A)
theorem ri (ts:List aa) (tsA:OA) (tsC:Nat) (s:ah) (hlen:ts.length≤1000000) (hside: ∀ x∈ts,0≤x.aN∧x.aN≤255):
 cn Try.prog 14 [(vA (ai.cells (ai.mk (cp.mk tsA ts.length tsC)))),(vA (ah.cells s))] [(rd tsA ts.length 9 (ts.map aa.cells))] (vT [(vI (eL s ts)),(vI (eN s ts)),(vI (eE s ts))]):=by
 by_cases hb:aT s ts=0
 ·obtain ⟨A,B⟩:=dV hb
  exact qi ts tsA tsC s hlen hside A B
 ·exact ot ts tsA tsC s hlen hside hb
end
section
open Go.RowKit
theorem pn (lo hi:Int) (f:Value) (p:Int→Bool) (X:ag) (r:Int) (J:ag→Prop) (A0:ag) (hf: ∀ x0,0≤x0∧x0<hi→s9 Try.prog f [.int .i64 x0] [X] J (.bool (p x0))) (hJ0:J A0) (hJw: ∀ B,J B→B.wr=true) (hb:0≤lo∧lo≤r∧r≤hi∧hi≤100000000) (hno: ∀ x,lo≤x→x<r→p x=false) (hyes: ∀ x,r≤x→x<hi→p x=true):
 q6 Try.prog 33 [(vI lo),(vI hi),f] [X] A0 (fun (x:ag)=>(vI r)) (fun (x:ag)=>J x) (fun (x:ag)=>x):=by
 refine gQ kr Try.func33 U U fun S Q hQ hN=>?_
 try dsimp only
 refine WS fun _ K=>rP 1 [] mn ?_
 refine RK K<|aj fun _ L=>au ?_
 have D:(lo≤lo∧lo≤r)∧(r≤hi∧hi≤hi)∧(J A0):=by exact ⟨I,I,hJ0⟩
 refine bx (ι:={z:Int×Int×ag // (lo≤z.1∧z.1≤r)∧(r≤z.2.1∧z.2.1≤hi)∧(J z.2.2)}) [2] [1] U U (fun z=>[(0,(vI z.1.1)),(1,(vI z.1.2.1))]) (fun z=>[z.1.2.2]) (fun _=>rfl) (fun _=>rfl) (fun z=>(z.1.2.1-z.1.1).toNat) ⟨(lo,hi,A0),D⟩ (aB U) (aV [1,0]) ?_
 clear D
 rintro ⟨⟨a,b,B⟩,⟨E,F,A⟩⟩ J3 H
 try dsimp only at E F A
 try dsimp only
 refine aj fun _ M=>WS fun _ N=>rP 3 [] mn ?_
 refine RK N<|bp U (aM fun R=>?_) (aL fun R=>?_)
 ·refine bo<|ae<|ae<|aw<|KK L<|WS fun _ AB=>rP 2 [] mn ?_
  refine RK AB<|an ?_
  refine LM hQ B 1 [] mn U (hJw _ A) U ?_ ?_
  ·exact cI I
  ·exact A
 refine WK M<|au<|WS fun _ O=>aP 4 U<|rS (BI U (lL I I I))<|aP 2 U<|RK O<|WS fun _ P=>rP 2 [] mn ?_
 refine sI 1 U U U (hf (a+((b-a)/2)) I) A U (jr 0 U U (fY (dh _)) gn) U (fun B9 C=>?_)
 try dsimp only
 refine RK P<|bY U (fun hp=>?_) (fun hp=>?_)
 ·refine aq<|rP 2 [] mn ?_
  refine aD<|az ?_
  refine aR (H ⟨(a,(a+((b-a)/2)),B9),(by dsimp only; rcases Int.lt_or_le (a+(b-a)/2) r with q|q; (have G:=hno _ I q; first|(refine ⟨⟨I,I⟩,⟨I,I⟩,C⟩)|(rw [G] at hp; cases hp)); (have G:=hyes _ q I; first|(refine ⟨⟨I,I⟩,⟨I,I⟩,C⟩)|(rw [G] at hp; cases hp)))⟩ _ _ _ rfl (by simp only []; omega) (aB rfl) (aV [0,1]))
 refine aq<|rP 3 [] mn ?_
 refine aD<|az ?_
 refine aR (H ⟨(((a+((b-a)/2))+1),b,B9),(by dsimp only; rcases Int.lt_or_le (a+(b-a)/2) r with q|q; (have G:=hno _ I q; first|(refine ⟨⟨I,I⟩,⟨I,I⟩,C⟩)|(rw [G] at hp; cases hp)); (have G:=hyes _ q I; first|(refine ⟨⟨I,I⟩,⟨I,I⟩,C⟩)|(rw [G] at hp; cases hp)))⟩ _ _ _ rfl (by simp only []; omega) (aB rfl) (aV [0,1]))
theorem pM (h:Int) (g1:Nat) (s:ah) (ts:List aa) (tsA:OA) (tsC:Nat) (hs:aC (dA s h)) (hst: ∀ x∈ts,ak x) (hlen:ts.length≤12) (hside: ∀ x∈ts,0≤x.aN∧x.aN≤255):
 q6 Try.prog 36 [(vI h),(vP g1)] [(rd tsA ts.length 9 (ts.map aa.cells))] (ct g1 69 (aW.cells (aW.mk s (ai.mk (cp.mk tsA ts.length tsC)) true))) (fun (x:Unit)=>(vB (ec s ts h))) (fun (x:Unit)=>True) (fun (x:Unit)=>(ct g1 69 (aW.cells (aW.mk (dA s h) (ai.mk (cp.mk tsA ts.length tsC)) true)))):=by
 refine gQ kr Try.func36 U U fun H Q hQ hN=>?_
 try dsimp only
 refine WS fun _ A=>aP 1 U<|RK A<|WS fun _ B=>aP 1 U<|rS (SX (aY (xs:=[(1,.tmp 4)]) (cs:=(ab.cells (ab.mk 0 h))) U U (aX gV U)) U U)<|aP 2 U<|wB (aW.cells (aW.mk (ah.mk s.Class (ab.mk 0 h) s.kO s.fw s.Weight s.dT) (ai.mk (cp.mk tsA ts.length tsC)) true)) U fO U U<|RK B<|WS fun _ C=>rP 1 [] (mc 0 U mn) ?_
 refine cX (g9 (ah.mk s.Class (ab.mk 0 h) s.kO s.fw s.Weight s.dT) ts tsA tsC true sd hst hlen hside) (aU [1]) U fun E D=>?_
 obtain ⟨F,G⟩:=E
 try dsimp only
 refine rP 3 [] mn ?_
 refine RK C<|an ?_
 refine LM hQ () 1 [] mn U U U ?_ ?_
 ·exact cB og
 ·trivial
theorem oT (b:Nat) (s:ah) (ts:List aa) (tsA:OA) (tsC:Nat) (x:Int) (hx:0≤x∧x<200001) (hs:aC s) (hst: ∀ x∈ts,ak x) (hlen:ts.length≤12) (hside: ∀ x∈ts,0≤x.aN∧x.aN≤255):
 s9 Try.prog (Value.func (.func 36) [].toArray [(vP b)].toArray) [.int .i64 x] [(rd tsA ts.length 9 (ts.map aa.cells))] (fun B=> ∃ z:ab,B=ct b 69 (aW.cells (aW.mk ({s with Start:=z}:ah) (ai.mk (cp.mk tsA ts.length tsC)) true))) (.bool (ec s ts x)):=
 ⟨36,_,_,rfl,kr,fun w B hB hh C A=>by
  obtain ⟨z,rfl⟩:=hB
  exact ((pM x b {s with Start:=z} ts tsA tsC (show aC (dA s x) from o_ hs hx.1 I) hst hlen hside).run w hh C A).mono fun e w' ⟨_,he,_,hm⟩=>⟨he,_,⟨⟨0,x⟩,rfl⟩,hm⟩⟩
theorem oq (ts:List aa) (tsA:OA) (tsC:Nat) (s:ah) (hlen:ts.length≤1000000) (hside: ∀ x∈ts,0≤x.aN∧x.aN≤255) (htr:aG ts=false):
 cn Try.prog 15 [(vA (ai.cells (ai.mk (cp.mk tsA ts.length tsC)))),(vA (ah.cells s))] [(rd tsA ts.length 9 (ts.map aa.cells))] (vT [(vI (eK s ts)),(vI (eJ s ts))]):=by
 have A: ¬ aT s ts=0:=by rw [ey htr]; decide
 refine aS kr Try.func15 U U fun K Q hQ hN=>?_
 try dsimp only
 refine WS fun _ B=>dp U fun G=>dp U fun H=>aP 2 U<|RK B<|WS fun _ C=>e7 2 [0,1] (mc 1 U (mc 0 U mn)) U<|rS (CL (gb ts tsA tsC s hlen hside htr) (aU [2]) U)<|aP 4 U<|AL U cW fun AB=>AL U cW fun J=>kb U cV U<|eg U cV U<|aP 1 U<|RK C<|aj fun _ F=>WS fun _ D=>rP 2 [] mn ?_
 refine RK D<|bp U (aI fun he=>?_) (aJ fun he=>?_)
 ·exact absurd he A
 refine WS fun _ E=>rP 3 [] mn ?_
 refine RK E<|an<|Q2 hQ U U U U ?_
 rw [(hU A).1,(hU A).2]
theorem mJ (ts:List aa) (tsA:OA) (tsC:Nat) (s:ah) (hlen:ts.length≤1000000) (hside: ∀ x∈ts,0≤x.aN∧x.aN≤255) (htr:aG ts=true) (hns: ¬ aC s):
 cn Try.prog 15 [(vA (ai.cells (ai.mk (cp.mk tsA ts.length tsC)))),(vA (ah.cells s))] [(rd tsA ts.length 9 (ts.map aa.cells))] (vT [(vI (eK s ts)),(vI (eJ s ts))]):=by
 have A: ¬ aT s ts=0:=by rw [eG htr hns]; decide
 refine aS kr Try.func15 U U fun K Q hQ hN=>?_
 try dsimp only
 refine WS fun _ B=>dp U fun G=>dp U fun H=>aP 2 U<|RK B<|WS fun _ C=>e7 2 [0,1] (mc 1 U (mc 0 U mn)) U<|rS (CL (dY ts tsA tsC s hlen hside htr) (aU [2]) U)<|aP 4 U<|AL U cW fun AB=>AL U cW fun J=>kb U cV U<|eg U cV U<|aP 1 U<|RK C<|aj fun _ F=>WS fun _ D=>rP 2 [] mn ?_
 refine RK D<|bp U (aI fun he=>?_) (aJ fun he=>?_)
 ·exact absurd he A
 refine WS fun _ E=>rP 3 [] mn ?_
 refine RK E<|an<|Q2 hQ U U U U ?_
 rw [(hU A).1,(hU A).2]
theorem pY (ts:List aa) (tsA:OA) (tsC:Nat) (s:ah) (hlen:ts.length≤1000000) (hside: ∀ x∈ts,0≤x.aN∧x.aN≤255) (htr:aG ts=true) (hs:aC s):
 cn Try.prog 15 [(vA (ai.cells (ai.mk (cp.mk tsA ts.length tsC)))),(vA (ah.cells s))] [(rd tsA ts.length 9 (ts.map aa.cells))] (vT [(vI (eK s ts)),(vI (eJ s ts))]):=by
 have A:=cf htr hs
 have H:=cv htr
 have R:=cK htr
 have S:=dy htr
 refine aS kr Try.func15 U U fun X Q hQ hN=>?_
 try dsimp only
 refine WS fun _ L=>dp U fun AB=>dp U fun V=>aP 2 U<|RK L<|WS fun _ M=>e7 2 [0,1] (mc 1 U (mc 0 U mn)) U<|rS (CL (dY ts tsA tsC s hlen hside htr) (aU [2]) U)<|aP 4 U<|AL U cW fun W=>AL U cW fun AC=>kb U cV U<|eg U cV U<|aP 1 U<|RK M<|aj fun _ N=>WS fun _ O=>rP 2 [] mn ?_
 refine RK O<|bY U (aJ fun he=>?_) (aI fun he=>?_)
 ·exact absurd A he
 refine WK N<|WS fun _ P=>rS (FU U) ?_
 have T:=pS (s:=s) (ts:=ts)
 refine eX 0 rfl rfl rfl rfl (pn 0 200001 (Value.func (.func 36) [].toArray [(vP AC)].toArray) (ec s ts) (rd tsA ts.length 9 (ts.map aa.cells)) (fb s ts) (fun B=> ∃ z:ab,B=ct AC 69 (aW.cells (aW.mk ({s with Start:=z}:ah) (ai.mk (cp.mk tsA ts.length tsC)) true))) (ct AC 69 (aW.cells (aW.mk s (ai.mk (cp.mk tsA ts.length tsC)) true))) (fun x hx=>oT AC s ts tsA tsC x hx hs H I hside) ⟨s.Start,rfl⟩ (fun B hB=>by obtain ⟨z,rfl⟩:=hB; rfl) I (fun y J K=>gv (p:=ec s ts) (n:=200001) J K) (fun y J K=>jw (p:=ec s ts) (n:=200001) (iU hs H) J K)) rfl (jr 4 rfl rfl (fY (dh _)) gn) rfl (fun B hB=>?_)
 try dsimp only
 refine aP 1 U<|RK P<|aj fun _ D=>WS fun _ E=>rP 2 [] mn ?_
 refine RK E<|bY U (aL fun C=>?_) (aM fun C=>?_)
 ·refine WS fun _ F=>rP 2 [] mn ?_
  refine RK F<|an<|Q2 hQ U U U U ?_
  first|(have e:=jv A C; rw [e.1,e.2])|(have e:=gT A C; rw [e.1,e.2])
 refine WK D<|WS fun _ G=>rP 4 [] mn ?_
 refine RK G<|an<|Q2 hQ U U U U ?_
 first|(have e:=jv A C; rw [e.1,e.2])|(have e:=gT A C; rw [e.1,e.2])
theorem oA (ts:List aa) (tsA:OA) (tsC:Nat) (s:ah) (hlen:ts.length≤1000000) (hside: ∀ x∈ts,0≤x.aN∧x.aN≤255) (hb: ¬ aT s ts=0):
 cn Try.prog 15 [(vA (ai.cells (ai.mk (cp.mk tsA ts.length tsC)))),(vA (ah.cells s))] [(rd tsA ts.length 9 (ts.map aa.cells))] (vT [(vI (eK s ts)),(vI (eJ s ts))]):=by
 by_cases A:aG ts=true
 ·by_cases hs:aC s
  ·exact absurd (cf A hs) hb
  ·exact mJ ts tsA tsC s hlen hside A hs
 ·exact oq ts tsA tsC s hlen hside (by simpa using A)
theorem qK (ts:List aa) (tsA:OA) (tsC:Nat) (s:ah) (hlen:ts.length≤1000000) (hside: ∀ x∈ts,0≤x.aN∧x.aN≤255):
 cn Try.prog 15 [(vA (ai.cells (ai.mk (cp.mk tsA ts.length tsC)))),(vA (ah.cells s))] [(rd tsA ts.length 9 (ts.map aa.cells))] (vT [(vI (eK s ts)),(vI (eJ s ts))]):=by
 by_cases hb:aT s ts=0
 ·obtain ⟨A,B⟩:=dV hb
  exact pY ts tsA tsC s hlen hside A B
 ·exact oA ts tsA tsC s hlen hside hb
end
end Go.Proofs.Ytpfjokbjambohaa
