/-
 The statement topRepaired_said, part 4 of 9: Short, Grow, Global, RunA, Tab, Run, Comp, Ret, LoopK, Go, Drop, Spot, First, Line, Wrap, Nest, Goes, Plain, TopX, MapK, Watch, Passes, Keys, MapR, RangeG, WMaps, WBounds, PassG, OpenW, Wheres, LineR, Race.
 Conditions: none.
-/
import Derived.Test.YtgnlmfdknlbkkaaGreatDoorTz1
import Derived.Test.YtgnlmfdknlbkkaaGreatDoorTz2
import Derived.Test.YtgnlmfdknlbkkaaGreatDoorTz3
import Derived.Test.YtgnlmfdknlbkkaaGreatDoorProg
import Derived.KernelRfl
import Derived.WideKeyRuns
open List (lookup map_map map_nil range zipWith)
open Option (isSome_map)
open Nat (beq ble blt)
namespace Go.Proofs.YtgnlmfdknlbkkaaGreatDoor
set_option maxRecDepth 100000
set_option maxHeartbeats 4000000
set_option linter.unusedVariables false
variable {E:fM} {ops:Array Oper} {Q:dk} {o d b i t e k f sz k0 tt nn:Nat} {rest:List Oper} {D:iF} {L:dH} {C C' C1 Cp X X':List ar} {v u v0:Value} {F:dH→List ar→Prop} {bs:List Bool} {l:a_} {g:Option (Nat×Bool)} {x y fop xm xk xv xi:Operand} {xt kt et:TypeId} {c:aX} {A:OA} {r:cW} {ts:List ai} {a j at_ h me:Int} {s:dv} {es:List (List Value)} {ad:Addr} {cs args vs cs' fi ca:List Value} {m m' mb mf left:List (aI×Int)} {xs:Array Operand} {fn:Func} {α β γ σ:Type} {A0 A1 A2 A3 A4 A5 A6 A7 A8 A9 A10 B:ar} {K:Act→World→Prop} {p q:aI×Int} {tb rem:List Nat} {P:Program} {M:List (Nat×List Value)} {S:BS} {w0:World} {z:aa} {best:Bool} {os':List (Int×aa)} {Z:ar→Prop} {fs:List (List (aI×Int))} {sg:List aZ}
abbrev h_:= @List.not_mem_nil
abbrev s4:= @Nat.not_lt_zero
abbrev wt:= @Int.le_refl
abbrev AAF:= @List.map_append
abbrev AAK:= @List.pairwise_map
abbrev AAP:= @Int.toNat_natCast
abbrev AAV:= @List.range_succ
abbrev AAc:= @Go.MapKept.run_getObj_map
abbrev AAd:= @List.mem_range
abbrev AAe:= @Int.lt_or_le
abbrev AAi:= @List.filter_cons_of_pos
abbrev AAj:= @List.filter_cons_of_neg
abbrev AAl:= @List.map_set
abbrev AAq:= @List.filter_append
abbrev AAr:= @or_false
abbrev AAx:= @List.mem_flatMap
abbrev AA1:= @List.length_range
abbrev AA3:= @List.filter_sublist
abbrev AA4:= @Array.toList_filter
abbrev AA6:= @Go.MapKept.run_setObj_map
abbrev AA_:= @Nat.add_sub_cancel
abbrev ABG:= @List.getElem?_range
abbrev ABQ:= @List.length_singleton
abbrev ABU:= @Function.comp_def
abbrev ABb:= @Nat.lt_succ_self
abbrev ABh:= @List.map_eq_nil_iff
abbrev ABi:= @List.filter_eq_self
abbrev ABp:= @Int.mul_le_mul_of_nonneg_right
abbrev ABs:= @List.nodup_append
abbrev ABu:= @List.getElem?_zipWith
abbrev AB0:= @List.map_congr_left
abbrev ACK:= @List.mem_of_mem_take
abbrev ACS:= @List.length_pos_iff
abbrev ACg:= @Int.max_eq_right
section
open Go.RowKit
/-- an operation that hands v to its slot d -/
structure SE (E:fM) (ops:Array Oper) (o:Oper) (D:iF) (L:dH) (C:List ar) (v:Value) (d:Nat):Prop where
 h:SD E ops o D L C v
 o:o.dst=some d
 n:blt d E.n=true
theorem rS {o:Oper} (h:SE E ops o D L C v d) (k:RJ E ops Q rest D ((d,v)::L) C):RJ E ops Q (o::rest) D L C:=Yp h.h h.o h.n k
theorem dS {F:dH→Prop} {o:Oper} (h:SE E ops o D L C v d) (k:DJ E ops D C F rest ((d,v)::L)):DJ E ops D C F (o::rest) L:=Zt h.h h.o h.n k
theorem eS {F:dH→Prop} {o:Oper} {l:List Oper} (hl:l=o::rest) (h:SE E ops o D L C' v d) (k:uO E ops D C' C1 F bs rest ((d,v)::L)):uO E ops D C' C1 F (false::bs) l L:=Zo h.h hl h.o h.n k
theorem fS {F:dH→Prop} {o:Oper} {l:List Oper} (hl:l=o::rest) (h:SE E ops o D L C1 v d) (k:uO E ops D C' C1 F bs rest ((d,v)::L)):uO E ops D C' C1 F (true::bs) l L:=XK h.h hl h.o h.n k
def gB (n:Nat) (ops:Array Oper) (L:dH) (d:Nat) (g:Option (Nat×Bool)):Bool:=kB ops L g&&blt d n
theorem UQ {n:Nat} (h:gB n ops L d g=true):kB ops L g=true:=by
 unfold gB at h;rw [dh] at h;exact h.1
theorem UD {n:Nat} (h:gB n ops L d g=true):blt d n=true:=by
 unfold gB at h;rw [dh] at h;exact h.2
def vF (n:Nat) (ops:Array Oper) (L:dH) (d:Nat) (g:Option (Nat×Bool)) (x:Operand):Option Value:=match gB n ops L d g with
 |true=>ev L x
 |false=>none
def bF (n:Nat) (ops:Array Oper) (L:dH) (d:Nat) (g:Option (Nat×Bool)) (x y:Operand):Option (Value×Value):=match gB n ops L d g with
 |true=>match ev L x,ev L y with
  |some u,some v=>some (u,v)
  |_,_=>none
 |false=>none
def pF (n:Nat) (ops:Array Oper) (L:dH) (d:Nat) (g:Option (Nat×Bool)) (c x y:Operand):Option Value:=match gB n ops L d g with
 |true=>match ev L c with
  |some (.bool true)=>ev L x
  |some (.bool false)=>ev L y
  |_=>none
 |false=>none
def xF (n:Nat) (ops:Array Oper) (L:dH) (d:Nat) (g:Option (Nat×Bool)) (x:Operand) (i:Nat):Option Value:=match vF n ops L d g x with
 |some (.tuple vs)=>vs.toList[i]?
 |_=>none
def uF (n:Nat) (ops:Array Oper) (L:dH) (d:Nat) (g:Option (Nat×Bool)) (xs ys:List Operand):Option (List Value×List Value):=match gB n ops L d g with
 |true=>match evs L xs,evs L ys with
  |some u,some v=>some (u,v)
  |_,_=>none
 |false=>none
def cF (n:Nat) (ops:Array Oper) (L:dH) (d:Nat) (g:Option (Nat×Bool)) (fop:Operand) (xs:List Operand):Option (FuncId×List Value):=match gB n ops L d g with
 |true=>match ev L fop,evs L xs with
  |some (.func (.func f) fi ca),some vs=>some (f,fi.toList++vs++ca.toList)
  |_,_=>none
 |false=>none
theorem ki {n:Nat} (h:vF n ops L d g x=some v):kB ops L g=true∧blt d n=true∧ev L x=some v:=by
 unfold vF at h;split at h
 ·rename_i hb;exact ⟨UQ hb,UD hb,h⟩
 ·cases h
theorem vo {n:Nat} (h:bF n ops L d g x y=some (u,v)):kB ops L g=true∧blt d n=true∧ev L x=some u∧ev L y=some v:=by
 unfold bF at h;split at h
 ·rename_i hb;split at h
  ·rename_i hx hy;cases h;exact ⟨UQ hb,UD hb,hx,hy⟩
  ·cases h
 ·cases h
theorem Vu {n:Nat} {x y:List Operand} {u v:List Value} (h:uF n ops L d g x y=some (u,v)):kB ops L g=true∧blt d n=true∧evs L x=some u∧evs L y=some v:=by
 unfold uF at h;split at h
 ·rename_i hb;split at h
  ·rename_i hx hy;cases h;exact ⟨UQ hb,UD hb,hx,hy⟩
  ·cases h
 ·cases h
section
variable {E:fM} {ops:Array Oper} {Q:dk} {rest:List Oper} {D:List Deferred} {L:List (Nat×Value)} {C:List ar}
variable {d:Nat} {ty:TypeId} {ps:String} {af:Array Edge} {g:Option (Nat×Bool)}
theorem SX {o:Oper} (h:SD E ops o D L C v) (ho:o.dst=some d) (hd:blt d E.n=true):SE E ops o D L C v d:=⟨h,ho,hd⟩
theorem MV (h:vF E.n ops L d g x=some v):SE E ops ⟨some d,.move x,ty,ps,af,g⟩ D L C v d:=by
 obtain ⟨A,B,F⟩:=ki h;exact ⟨Jt A F,rfl,B⟩
theorem AG (h:vF E.n ops L d g x=some v):SE E ops ⟨some d,.assign x,ty,ps,af,g⟩ D L C v d:=by
 obtain ⟨A,B,F⟩:=ki h;exact ⟨B1 A F,rfl,B⟩
theorem OX {op:Op} (h:(GD ops L g&&blt d E.n)=true):SE E ops ⟨some d,op,ty,ps,af,g⟩ D L C undef d:=by
 rw [dh] at h;exact ⟨M6 h.1,rfl,h.2⟩
theorem NT {b:Bool} (h:vF E.n ops L d g x=some (.bool b)):SE E ops ⟨some d,.unOp .not xt x,ty,ps,af,g⟩ D L C (.bool !b) d:=by
 obtain ⟨A,B,F⟩:=ki h;exact ⟨PL A F,rfl,B⟩
theorem NG {n:Int} (h:vF E.n ops L d g x=some (.int .i64 n)) (hb:sW (-n)):SE E ops ⟨some d,.unOp .neg xt x,ty,ps,af,g⟩ D L C (.int .i64 (-n)) d:=by
 obtain ⟨A,B,F⟩:=ki h;exact ⟨Wl A F hb,rfl,B⟩
theorem PK {c:Operand} (h:pF E.n ops L d g c x y=some v):SE E ops ⟨some d,.pick c x y,ty,ps,af,g⟩ D L C v d:=by
 unfold pF at h;split at h
 ·rename_i hb;split at h
  ·rename_i hc;exact ⟨CN (UQ hb) hc h,rfl,UD hb⟩
  ·rename_i hc;exact ⟨C7 (UQ hb) hc h,rfl,UD hb⟩
  ·cases h
 ·cases h
theorem EX (h:xF E.n ops L d g x i=some v):SE E ops ⟨some d,.extract x i,ty,ps,af,g⟩ D L C v d:=by
 unfold xF at h;split at h
 ·rename_i vs hv;obtain ⟨A,B,F⟩:=ki hv;exact ⟨Bk (vs:=vs.toList) A (by simpa using F) h,U,B⟩
 ·cases h
theorem LN {t e:TypeId} {n c:Nat} (h:vF E.n ops L d g x=some (.slice A n c)) (ht:E.P.underlying t=some (.slice e)):
 SE E ops ⟨some d,.call {callee:= .builtin .len,args:= #[x],argTypes:= #[t]},ty,ps,af,g⟩ D L C (.int .i64 n) d:=by
 obtain ⟨B,F,G⟩:=ki h;exact ⟨Pb B G ht,rfl,F⟩
theorem BI {op:BinOp} {yt:TypeId} {r:Value} (h:bF E.n ops L d g x y=some (u,v)) (hb:g8 E.P op xt x y u v r):SE E ops ⟨some d,.binOp op xt x y yt,ty,ps,af,g⟩ D L C r d:=by
 obtain ⟨A,B,F,G⟩:=vo h;exact ⟨ck A F G hb,rfl,B⟩
theorem MN {ts:Array TypeId} {b:Int} {k:IntKind} (h:bF E.n ops L d g x y=some (.int k a,.int k b)):
 SE E ops ⟨some d,.call {callee:= .builtin .min,args:= #[x,y],argTypes:=ts},ty,ps,af,g⟩ D L C (.int k (min a b)) d:=by
 obtain ⟨A,B,F,G⟩:=vo h;exact ⟨UZ A F G,rfl,B⟩
theorem MX {ts:Array TypeId} {b:Int} {k:IntKind} (h:bF E.n ops L d g x y=some (.int k a,.int k b)):
 SE E ops ⟨some d,.call {callee:= .builtin .max,args:= #[x,y],argTypes:=ts},ty,ps,af,g⟩ D L C (.int k (max a b)) d:=by
 obtain ⟨A,B,F,G⟩:=vo h;exact ⟨Wb A F G,rfl,B⟩
theorem FA (o':Nat) {s:Nat} (h:vF E.n ops L d g x=some (.pointer (some ⟨b,o,none⟩))) (hf:vR E.P s f=some k) (ho:o+k=o'):
 SE E ops ⟨some d,.fieldAddr s x f,ty,ps,af,g⟩ D L C (.pointer (some ⟨b,o',none⟩)) d:=by
 obtain ⟨A,B,F⟩:=ki h;exact ⟨TH A F hf ho,rfl,B⟩
theorem pV (k':Nat) {n:Nat} {s:Nat} (h:vF E.n ops L d g x=some (.pointer (nR A k0))) (hR:ij C (rd A n sz es).holds) (hn:0<n*sz) (hf:vR E.P s f=some k) (ho:k0+k=k'):SE E ops ⟨some d,.fieldAddr s x f,ty,ps,af,g⟩ D L C (.pointer (nR A k')) d:=by
 obtain ⟨B,F,G⟩:=ki h;exact ⟨PH B G hR hn hf ho,rfl,F⟩
theorem YS (k':Nat) {s:Nat} (h:vF E.n ops L d g x=some (.pointer (nR A k0))) (hA:A=some ad) (hf:vR E.P s f=some k) (ho:k0+k=k'):SE E ops ⟨some d,.fieldAddr s x f,ty,ps,af,g⟩ D L C (.pointer (nR A k')) d:=by
 obtain ⟨B,F,G⟩:=ki h;exact ⟨Qh B G hA hf ho,rfl,F⟩
theorem IA (k:Nat) {ix:Operand} {n c:Nat} (h:bF E.n ops L d g x ix=some (.slice A n c,.int .i64 j)) (hR:ij C (rd A n sz es).holds) (ht:tE E.P t=some (e,sz)) (hz:0<sz) (hj:j=(k:Int)) (hk:k<n):SE E ops ⟨some d,.indexAddr t x ix,ty,ps,af,g⟩ D L C (.pointer (nR A (k*sz))) d:=by
 obtain ⟨B,F,G,H⟩:=vo h;exact ⟨WW B G H hR ht hz hj hk,rfl,F⟩
theorem IAB (k o':Nat) {ix:Operand} {n c:Nat} (h:bF E.n ops L d g x ix=some (.slice (some ⟨b,o,none⟩) n c,.int .i64 j)) (ht:tE E.P t=some (e,sz)) (hj:j=(k:Int)) (hk:k<n) (ho:o+k*sz=o'):SE E ops ⟨some d,.indexAddr t x ix,ty,ps,af,g⟩ D L C (.pointer (some ⟨b,o',none⟩)) d:=by
 obtain ⟨A,B,F,G⟩:=vo h;exact ⟨RV A F G ht hj hk ho,rfl,B⟩
/-- the whole of a block, a part of it, one cell -/
theorem LW (i:Nat) {n:Nat} (h:vF E.n ops L d g x=some (.pointer (some ⟨b,0,none⟩))) (ht:tK E.P t=some (true,n)) (hC:C[i]? =some (cb b tt cs)) (hn:cs.length=n):
 SE E ops ⟨some d,.load t x,ty,ps,af,g⟩ D L C (.agg cs.toArray) d:=by
 obtain ⟨A,B,F⟩:=ki h;exact ⟨Bp A F ht (rW i hC sm) hn,rfl,B⟩
theorem LP (vs:List Value) (i:Nat) {n:Nat} (h:vF E.n ops L d g x=some (.pointer (some ⟨b,o,none⟩))) (ht:tK E.P t=some (true,n)) (hC:C[i]? =some (cb b tt cs)) (hv:(cs.drop o).take vs.length=vs) (hn:vs.length=n):
 SE E ops ⟨some d,.load t x,ty,ps,af,g⟩ D L C (.agg vs.toArray) d:=by
 obtain ⟨A,B,F⟩:=ki h;exact ⟨Bp A F ht (rW i hC hv) hn,rfl,B⟩
theorem LPR (vs:List Value) (i:Nat) {n:Nat} (h:vF E.n ops L d g x=some (.pointer (some ⟨b,o,none⟩))) (ht:tK E.P t=some (true,n)) (hC:C[i]? =some (cb b tt cs).ro) (hv:(cs.drop o).take vs.length=vs) (hn:vs.length=n):
 SE E ops ⟨some d,.load t x,ty,ps,af,g⟩ D L C (.agg vs.toArray) d:=by
 obtain ⟨A,B,F⟩:=ki h;exact ⟨Bp A F ht (zi i hC hv) hn,rfl,B⟩
theorem L1 (v:Value) (i:Nat) {n:Nat} (h:vF E.n ops L d g x=some (.pointer (some ⟨b,o,none⟩))) (ht:tK E.P t=some (false,n)) (hC:C[i]? =some (cb b tt cs)) (hv:(cs.drop o).take 1=[v]):
 SE E ops ⟨some d,.load t x,ty,ps,af,g⟩ D L C v d:=by
 obtain ⟨A,B,F⟩:=ki h;exact ⟨xI A F ht (rW i hC hv),rfl,B⟩
theorem MO (v:Value) (i:Nat) {n:Nat} (h:vF E.n ops L d g x=some (.pointer (some ⟨b,o,none⟩))) (ht:tK E.P t=some (false,n)) (hC:C[i]? =some (cb b tt cs).ro) (hv:(cs.drop o).take 1=[v]):
 SE E ops ⟨some d,.load t x,ty,ps,af,g⟩ D L C v d:=by
 obtain ⟨A,B,F⟩:=ki h;exact ⟨xI A F ht (zi i hC hv),rfl,B⟩
theorem FQ (i:Nat) {n:Nat} (h:vF E.n ops L d g x=some (.pointer (some ⟨b,0,none⟩))) (ht:tK E.P t=some (false,n)) (hC:C[i]? =some (cb b tt [v])):
 SE E ops ⟨some d,.load t x,ty,ps,af,g⟩ D L C v d:=by
 obtain ⟨A,B,F⟩:=ki h;exact ⟨xI A F ht (rW i hC rfl),rfl,B⟩
theorem ZR (i:Nat) {n:Nat} (h:vF E.n ops L d g x=some (.pointer (some ⟨b,0,none⟩))) (ht:tK E.P t=some (false,n)) (hC:C[i]? =some (cb b tt [v]).ro):
 SE E ops ⟨some d,.load t x,ty,ps,af,g⟩ D L C v d:=by
 obtain ⟨A,B,F⟩:=ki h;exact ⟨xI A F ht (zi i hC rfl),rfl,B⟩
/-- what is read of a row -/
theorem gG (k o:Nat) (v:Value) {m n:Nat} {e:List Value} (h:vF E.n ops L d g x=some (.pointer (nR A m))) (ht:tK E.P t=some (false,nn)) (hR:ij C (rd A n sz es).holds) (he:es[k]? =some e) (hm:m=k*sz+o) (hz:0<sz) (hv:(e.drop o).take 1=[v]):
 SE E ops ⟨some d,.load t x,ty,ps,af,g⟩ D L C v d:=by
 obtain ⟨B,F,G⟩:=ki h;exact ⟨xI B G ht (T1 hR he hm hz hv),rfl,F⟩
theorem ld (k o:Nat) (vs:List Value) {m n:Nat} {e:List Value} (h:vF E.n ops L d g x=some (.pointer (nR A m))) (ht:tK E.P t=some (true,nn)) (hR:ij C (rd A n sz es).holds) (he:es[k]? =some e) (hm:m=k*sz+o) (hz:0<sz) (hv:(e.drop o).take vs.length=vs) (hn:vs.length=nn):
 SE E ops ⟨some d,.load t x,ty,ps,af,g⟩ D L C (.agg vs.toArray) d:=by
 obtain ⟨B,F,G⟩:=ki h;exact ⟨Bp B G ht (T1 hR he hm hz hv) hn,rfl,F⟩
theorem CL {ts:Array TypeId} {f:FuncId} (c:de E.P f args Cp v) (hC:lX C Cp) (h:cF E.n ops L d g fop xs.toList=some (f,args)):
 SE E ops ⟨some d,.call {callee:= .value fop,args:=xs,argTypes:=ts},ty,ps,af,g⟩ D L C v d:=by
 unfold cF at h;split at h
 ·rename_i hb;split at h
  ·rename_i hf hx;cases h;exact ⟨J1 (UQ hb) hf hx rfl c hC,rfl,UD hb⟩
  ·cases h
 ·cases h
theorem FU {fn:Fn} {ys:Array Operand} {us:List Value} (h:uF E.n ops L d g xs.toList ys.toList=some (us,vs)):SE E ops ⟨some d,.makeFunc fn xs ys,ty,ps,af,g⟩ D L C (.func fn us.toArray vs.toArray) d:=by
 obtain ⟨A,B,F,G⟩:=Vu h;exact ⟨Tf A F G,rfl,B⟩
theorem cX {ts:Array TypeId} {f:FuncId} {V:α→Value} {p:α→Prop} {N:α→List ar} (c:lf E.P f args Cp V p N) (hC:lX C Cp) (h:cF E.n ops L d g fop xs.toList=some (f,args)) (k:∀ x,p x→RJ E ops Q rest D ((d,V x)::L) (N x++C)):
 RJ E ops Q (⟨some d,.call {callee:= .value fop,args:=xs,argTypes:=ts},ty,ps,af,g⟩::rest) D L C:=by
 unfold cF at h;split at h
 ·rename_i hb;split at h
  ·rename_i hf hx;cases h;exact VE (UQ hb) hf hx rfl c hC (UD hb) k
  ·cases h
 ·cases h
/-- a box of a struct, of one cell -/
theorem dV {t:TypeId} (h:vF E.n ops L d g x=some (.agg cs.toArray)) (k:∀ b,RJ E ops Q rest D ((d,.pointer (some ⟨b,0,none⟩))::L) (cb b t cs::C)):
 RJ E ops Q (⟨some d,.box t x,ty,ps,af,g⟩::rest) D L C:=by
 obtain ⟨A,B,F⟩:=ki h;exact Uz A F rfl B k
theorem sR {t:TypeId} (h:vF E.n ops L d g x=some v) (hv:v.cells.toList=[v]) (k:∀ b,RJ E ops Q rest D ((d,.pointer (some ⟨b,0,none⟩))::L) (cb b t [v]::C)):
 RJ E ops Q (⟨some d,.box t x,ty,ps,af,g⟩::rest) D L C:=by
 obtain ⟨A,B,F⟩:=ki h;exact Uz A F hv B k
theorem AL {t:TypeId} (h:gB E.n ops L d g=true) (hz:tZ E.P t=some cs) (k:∀ b,RJ E ops Q rest D ((d,.pointer (some ⟨b,0,none⟩))::L) (cb b t cs::C)):
 RJ E ops Q (⟨some d,.alloc t,ty,ps,af,g⟩::rest) D L C:=Is (UQ h) hz (UD h) k
/-- a store into the block at the place i of the state -/
def sF (ops:Array Oper) (L:dH) (g:Option (Nat×Bool)) (x y:Operand):Option (Value×Value):=match kB ops L g with
 |true=>match ev L x,ev L y with
  |some u,some v=>some (u,v)
  |_,_=>none
 |false=>none
theorem Il {ops:Array Oper} {L:dH} {g:Option (Nat×Bool)} (h:sF ops L g x y=some (u,v)):kB ops L g=true∧ev L x=some u∧ev L y=some v:=by
 unfold sF at h;split at h
 ·rename_i hb;split at h
  ·rename_i hx hy;cases h;exact ⟨hb,hx,hy⟩
  ·cases h
 ·cases h
theorem TR {n:Nat} (i:Nat) (h:sF ops L g x y=some (.pointer (some ⟨b,o,none⟩),v)) (ht:(tK E.P t).map (·.2)=some n) (hC:C[i]? =some (cb b tt cs)) (hk:(v.cells.toList.length==n&&v.cells.toList.all Value.oneCell'&&ble (o+n) cs.length)=true) (hcs:cs.take o++v.cells.toList++cs.drop (o+n)=cs') (hC':C.set i (cb b tt cs')=C') (k:RJ E ops Q rest D L C'):
 RJ E ops Q (⟨none,.store t x y,ty,ps,af,g⟩::rest) D L C:=by
 obtain ⟨A,B,F⟩:=Il h;simp only [dh,ACb] at hk;exact iq i A B F ht U hk.1.1 hk.1.2 hC hk.2 hcs hC' k
/-- a store of a whole block, by a struct, by one cell -/
theorem Um {n:Nat} (i:Nat) (h:sF ops L g x y=some (.pointer (some ⟨b,0,none⟩),.agg cs'.toArray)) (ht:(tK E.P t).map (·.2)=some n) (hC:C[i]? =some (cb b tt cs)) (hk:(beq cs'.length n&&cs'.all Value.oneCell'&&beq n cs.length)=true) (hC':C.set i (cb b tt cs')=C') (k:RJ E ops Q rest D L C'):
 RJ E ops Q (⟨none,.store t x y,ty,ps,af,g⟩::rest) D L C:=by
 obtain ⟨AA,J,K⟩:=Il h;simp only [dh] at hk;obtain ⟨⟨A,B⟩,F⟩:=hk;have H:=AAL A;have G:=AAL F;exact iq i AA J K ht U H B hC (by rw [AAk,G];exact Nat.ble_self_eq_true _) (by rw [AAk,G,List.take_zero,List.drop_length];show []++cs'++[]=cs';simp) hC' k
theorem Xl {n:Nat} (i:Nat) (h:sF ops L g x y=some (.pointer (some ⟨b,0,none⟩),v)) (ht:(tK E.P t).map (·.2)=some n) (hC:C[i]? =some (cb b tt [u])) (hv:v.cells.toList=[v]) (hk:(beq n 1&&v.oneCell')=true) (hC':C.set i (cb b tt [v])=C') (k:RJ E ops Q rest D L C'):
 RJ E ops Q (⟨none,.store t x y,ty,ps,af,g⟩::rest) D L C:=by
 obtain ⟨G,H,AA⟩:=Il h;rw [dh] at hk;obtain ⟨A,B⟩:=hk;have F:=AAL A;subst F;exact iq i G H AA ht hv U (by simp [B]) hC U U hC' k
theorem eN {n:Nat} (h:sF ops L g x y=some (.pointer (some ⟨b,0,none⟩),.agg cs'.toArray)) (ht:(tK E.P t).map (·.2)=some n) (hk:(beq cs'.length n&&cs'.all Value.oneCell'&&beq n cs.length)=true) (k:RJ E ops Q rest D L (cb b tt cs'::C)):RJ E ops Q (⟨none,.store t x y,ty,ps,af,g⟩::rest) D L (cb b tt cs::C):=Um 0 h ht rfl hk rfl k
theorem IN {n:Nat} (h:sF ops L g x y=some (.pointer (some ⟨b,0,none⟩),v)) (ht:(tK E.P t).map (·.2)=some n) (hv:v.cells.toList=[v]) (hk:(beq n 1&&v.oneCell')=true) (k:RJ E ops Q rest D L (cb b tt [v]::C)):RJ E ops Q (⟨none,.store t x y,ty,ps,af,g⟩::rest) D L (cb b tt [u]::C):=Xl 0 h ht rfl hv hk rfl k
theorem o8 {n:Nat} (h:sF ops L g x y=some (.pointer (some ⟨b,0,none⟩),.agg cs'.toArray)) (ht:(tK E.P t).map (·.2)=some n) (hk:(beq cs'.length n&&cs'.all Value.oneCell'&&beq n cs.length)=true) (k:RJ E ops Q rest D L (A0::cb b tt cs'::C)):RJ E ops Q (⟨none,.store t x y,ty,ps,af,g⟩::rest) D L (A0::cb b tt cs::C):=Um 1 h ht rfl hk rfl k
variable (cs':List Value)
theorem ST1 {t n b o tt:Nat} {x y:Operand} {v:Value} {cs:List Value} {A0:ar} (h:sF ops L g x y=some (.pointer (some ⟨b,o,none⟩),v)) (ht:(tK E.P t).map (·.2)=some n) (hk:(v.cells.toList.length==n&&v.cells.toList.all Value.oneCell'&&ble (o+n) cs.length)=true) (hcs:cs.take o++v.cells.toList++cs.drop (o+n)=cs') (k:RJ E ops Q rest D L (A0::cb b tt cs'::C)):RJ E ops Q (⟨none,.store t x y,ty,ps,af,g⟩::rest) D L (A0::cb b tt cs::C):=TR 1 h ht rfl hk hcs rfl k
theorem Ec {n:Nat} {cs':List Value} (h:sF ops L g x y=some (.pointer (some ⟨b,0,none⟩),.agg cs'.toArray)) (ht:(tK E.P t).map (·.2)=some n) (hk:(beq cs'.length n&&cs'.all Value.oneCell'&&beq n cs.length)=true) (k:RJ E ops Q rest D L (A0::A1::cb b tt cs'::C)):RJ E ops Q (⟨none,.store t x y,ty,ps,af,g⟩::rest) D L (A0::A1::cb b tt cs::C):=Um 2 h ht rfl hk rfl k
theorem ST2 {n:Nat} (h:sF ops L g x y=some (.pointer (some ⟨b,o,none⟩),v)) (ht:(tK E.P t).map (·.2)=some n) (hk:(v.cells.toList.length==n&&v.cells.toList.all Value.oneCell'&&ble (o+n) cs.length)=true) (hcs:cs.take o++v.cells.toList++cs.drop (o+n)=cs') (k:RJ E ops Q rest D L (A0::A1::cb b tt cs'::C)):RJ E ops Q (⟨none,.store t x y,ty,ps,af,g⟩::rest) D L (A0::A1::cb b tt cs::C):=TR 2 h ht rfl hk hcs rfl k
theorem Yr {n:Nat} {cs':List Value} (h:sF ops L g x y=some (.pointer (some ⟨b,0,none⟩),.agg cs'.toArray)) (ht:(tK E.P t).map (·.2)=some n) (hk:(beq cs'.length n&&cs'.all Value.oneCell'&&beq n cs.length)=true) (k:RJ E ops Q rest D L (A0::A1::A2::cb b tt cs'::C)):RJ E ops Q (⟨none,.store t x y,ty,ps,af,g⟩::rest) D L (A0::A1::A2::cb b tt cs::C):=Um 3 h ht rfl hk rfl k
theorem ZQ {n:Nat} (h:sF ops L g x y=some (.pointer (some ⟨b,0,none⟩),v)) (ht:(tK E.P t).map (·.2)=some n) (hv:v.cells.toList=[v]) (hk:(beq n 1&&v.oneCell')=true) (k:RJ E ops Q rest D L (A0::A1::A2::cb b tt [v]::C)):RJ E ops Q (⟨none,.store t x y,ty,ps,af,g⟩::rest) D L (A0::A1::A2::cb b tt [u]::C):=Xl 3 h ht rfl hv hk rfl k
theorem Xh {n:Nat} (h:sF ops L g x y=some (.pointer (some ⟨b,o,none⟩),v)) (ht:(tK E.P t).map (·.2)=some n) (hk:(v.cells.toList.length==n&&v.cells.toList.all Value.oneCell'&&ble (o+n) cs.length)=true) (hcs:cs.take o++v.cells.toList++cs.drop (o+n)=cs') (k:RJ E ops Q rest D L (A0::A1::A2::cb b tt cs'::C)):RJ E ops Q (⟨none,.store t x y,ty,ps,af,g⟩::rest) D L (A0::A1::A2::cb b tt cs::C):=TR 3 h ht rfl hk hcs rfl k
theorem Ud {n:Nat} {cs':List Value} (h:sF ops L g x y=some (.pointer (some ⟨b,0,none⟩),.agg cs'.toArray)) (ht:(tK E.P t).map (·.2)=some n) (hk:(beq cs'.length n&&cs'.all Value.oneCell'&&beq n cs.length)=true) (k:RJ E ops Q rest D L (A0::A1::A2::A3::cb b tt cs'::C)):RJ E ops Q (⟨none,.store t x y,ty,ps,af,g⟩::rest) D L (A0::A1::A2::A3::cb b tt cs::C):=Um 4 h ht rfl hk rfl k
theorem SO4 {n:Nat} (h:sF ops L g x y=some (.pointer (some ⟨b,0,none⟩),v)) (ht:(tK E.P t).map (·.2)=some n) (hv:v.cells.toList=[v]) (hk:(beq n 1&&v.oneCell')=true) (k:RJ E ops Q rest D L (A0::A1::A2::A3::cb b tt [v]::C)):RJ E ops Q (⟨none,.store t x y,ty,ps,af,g⟩::rest) D L (A0::A1::A2::A3::cb b tt [u]::C):=Xl 4 h ht rfl hv hk rfl k
theorem WR {n:Nat} (h:sF ops L g x y=some (.pointer (some ⟨b,o,none⟩),v)) (ht:(tK E.P t).map (·.2)=some n) (hk:(v.cells.toList.length==n&&v.cells.toList.all Value.oneCell'&&ble (o+n) cs.length)=true) (hcs:cs.take o++v.cells.toList++cs.drop (o+n)=cs') (k:RJ E ops Q rest D L (A0::A1::A2::A3::cb b tt cs'::C)):RJ E ops Q (⟨none,.store t x y,ty,ps,af,g⟩::rest) D L (A0::A1::A2::A3::cb b tt cs::C):=TR 4 h ht rfl hk hcs rfl k
theorem MK {n:Nat} {cs':List Value} (h:sF ops L g x y=some (.pointer (some ⟨b,0,none⟩),.agg cs'.toArray)) (ht:(tK E.P t).map (·.2)=some n) (hk:(beq cs'.length n&&cs'.all Value.oneCell'&&beq n cs.length)=true) (k:RJ E ops Q rest D L (A0::A1::A2::A3::A4::cb b tt cs'::C)):RJ E ops Q (⟨none,.store t x y,ty,ps,af,g⟩::rest) D L (A0::A1::A2::A3::A4::cb b tt cs::C):=Um 5 h ht rfl hk rfl k
theorem SO5 {n:Nat} (h:sF ops L g x y=some (.pointer (some ⟨b,0,none⟩),v)) (ht:(tK E.P t).map (·.2)=some n) (hv:v.cells.toList=[v]) (hk:(beq n 1&&v.oneCell')=true) (k:RJ E ops Q rest D L (A0::A1::A2::A3::A4::cb b tt [v]::C)):RJ E ops Q (⟨none,.store t x y,ty,ps,af,g⟩::rest) D L (A0::A1::A2::A3::A4::cb b tt [u]::C):=Xl 5 h ht rfl hv hk rfl k
theorem Zn {n:Nat} {cs':List Value} (h:sF ops L g x y=some (.pointer (some ⟨b,0,none⟩),.agg cs'.toArray)) (ht:(tK E.P t).map (·.2)=some n) (hk:(beq cs'.length n&&cs'.all Value.oneCell'&&beq n cs.length)=true) (k:RJ E ops Q rest D L (A0::A1::A2::A3::A4::A5::cb b tt cs'::C)):RJ E ops Q (⟨none,.store t x y,ty,ps,af,g⟩::rest) D L (A0::A1::A2::A3::A4::A5::cb b tt cs::C):=Um 6 h ht rfl hk rfl k
theorem SO6 {n:Nat} (h:sF ops L g x y=some (.pointer (some ⟨b,0,none⟩),v)) (ht:(tK E.P t).map (·.2)=some n) (hv:v.cells.toList=[v]) (hk:(beq n 1&&v.oneCell')=true) (k:RJ E ops Q rest D L (A0::A1::A2::A3::A4::A5::cb b tt [v]::C)):RJ E ops Q (⟨none,.store t x y,ty,ps,af,g⟩::rest) D L (A0::A1::A2::A3::A4::A5::cb b tt [u]::C):=Xl 6 h ht rfl hv hk rfl k
theorem WQ {n:Nat} (h:sF ops L g x y=some (.pointer (some ⟨b,o,none⟩),v)) (ht:(tK E.P t).map (·.2)=some n) (hk:(v.cells.toList.length==n&&v.cells.toList.all Value.oneCell'&&ble (o+n) cs.length)=true) (hcs:cs.take o++v.cells.toList++cs.drop (o+n)=cs') (k:RJ E ops Q rest D L (A0::A1::A2::A3::A4::A5::cb b tt cs'::C)):RJ E ops Q (⟨none,.store t x y,ty,ps,af,g⟩::rest) D L (A0::A1::A2::A3::A4::A5::cb b tt cs::C):=TR 6 h ht rfl hk hcs rfl k
theorem ST7 {n:Nat} (h:sF ops L g x y=some (.pointer (some ⟨b,o,none⟩),v)) (ht:(tK E.P t).map (·.2)=some n) (hk:(v.cells.toList.length==n&&v.cells.toList.all Value.oneCell'&&ble (o+n) cs.length)=true) (hcs:cs.take o++v.cells.toList++cs.drop (o+n)=cs') (k:RJ E ops Q rest D L (A0::A1::A2::A3::A4::A5::A6::cb b tt cs'::C)):RJ E ops Q (⟨none,.store t x y,ty,ps,af,g⟩::rest) D L (A0::A1::A2::A3::A4::A5::A6::cb b tt cs::C):=TR 7 h ht rfl hk hcs rfl k
theorem aaU {n:Nat} (h:sF ops L g x y=some (.pointer (some ⟨b,o,none⟩),v)) (ht:(tK E.P t).map (·.2)=some n) (hk:(v.cells.toList.length==n&&v.cells.toList.all Value.oneCell'&&ble (o+n) cs.length)=true) (hcs:cs.take o++v.cells.toList++cs.drop (o+n)=cs') (k:RJ E ops Q rest D L (A0::A1::A2::A3::A4::A5::A6::A7::A8::A9::cb b tt cs'::C)):RJ E ops Q (⟨none,.store t x y,ty,ps,af,g⟩::rest) D L (A0::A1::A2::A3::A4::A5::A6::A7::A8::A9::cb b tt cs::C):=TR 10 h ht rfl hk hcs rfl k
theorem aa5 {n:Nat} {cs':List Value} (h:sF ops L g x y=some (.pointer (some ⟨b,0,none⟩),.agg cs'.toArray)) (ht:(tK E.P t).map (·.2)=some n) (hk:(beq cs'.length n&&cs'.all Value.oneCell'&&beq n cs.length)=true) (k:RJ E ops Q rest D L (A0::A1::A2::A3::A4::A5::A6::A7::A8::A9::A10::cb b tt cs'::C)):RJ E ops Q (⟨none,.store t x y,ty,ps,af,g⟩::rest) D L (A0::A1::A2::A3::A4::A5::A6::A7::A8::A9::A10::cb b tt cs::C):=Um 11 h ht rfl hk rfl k
theorem aaP {n:Nat} (h:sF ops L g x y=some (.pointer (some ⟨b,o,none⟩),v)) (ht:(tK E.P t).map (·.2)=some n) (hk:(v.cells.toList.length==n&&v.cells.toList.all Value.oneCell'&&ble (o+n) cs.length)=true) (hcs:cs.take o++v.cells.toList++cs.drop (o+n)=cs') (k:RJ E ops Q rest D L (A0::A1::A2::A3::A4::A5::A6::A7::A8::A9::A10::cb b tt cs'::C)):RJ E ops Q (⟨none,.store t x y,ty,ps,af,g⟩::rest) D L (A0::A1::A2::A3::A4::A5::A6::A7::A8::A9::A10::cb b tt cs::C):=TR 11 h ht rfl hk hcs rfl k
end
section
variable {E:fM} {y:Code} {Q:dk} {D:List Deferred} {L:List (Nat×Value)} {C:List ar}
theorem KK {Q':dk} (hK:∀ D L C,WJ E y Q D L C→KJ E K D L C) (k:WJ E y Q D L C):KJ E (Exit.then K Q' .normal) D L C:=aL (hK _ _ _ k)
end
theorem DT {p:Prop} [Decidable p] (h:decide p=true):p:=s6 h
theorem DF {p:Prop} [Decidable p] (h:decide p=false): ¬ p:=AB5 h
theorem XT {p:Prop} [Decidable p] (h:(!decide p)=true): ¬ p:=by simpa using h
theorem XF {p:Prop} [Decidable p] (h:(!decide p)=false):p:=by simpa using h
/-- what a function hands back: one result, two, three, that lie in slots -/
theorem Q1 (hQ:∀ D L C,LJ E fn (AI E.w0 v) D L C→KJ E K D L C) (hS:E.S=rN) (hr:fn.results.toList=[.tmp t]) (hl:L.lookup t=some u) (e:u=v):KJ E K [] L C:=
 hQ _ _ _ (g4 (vs:=[u]) (by rw [hr];exact ⟨hl,trivial⟩) fun w hs=>Hr e (by rw [hS] at hs;exact hs))
theorem Q2 {s:Nat} {x:Value} (hQ:∀ D L C,LJ E fn (AI E.w0 v) D L C→KJ E K D L C) (hS:E.S=rN) (hr:fn.results.toList=[.tmp t,.tmp s]) (hl:L.lookup t=some u) (hm:L.lookup s=some x) (e:vT [u,x]=v):KJ E K [] L C:=
 hQ _ _ _ (g4 (vs:=[u,x]) (by rw [hr];exact ⟨hl,hm,trivial⟩) fun w hs=>Hr e (by rw [hS] at hs;exact hs))
theorem N1 {n:Nat} (i:Nat) (h:Gh E ops D C' C1 F tb n (rem.filter (· != i)) i L C) (hm:rem.filter (fun i=>rem.all fun j=> !jC (sN ops) j i)=[i]:=by kernel_rfl):TN E ops D C' C1 F tb (n+1) rem L C:=nF [i] hm (iT h re)
theorem NO {n:Nat} {o:Oper} (ho:ops[i]? =some o) (ht:tb.contains i=false) (rem':List Nat) (h:∀ K:Act→World→Prop,(∀ L' C'',(∀ w,St E.S E.w0 C'' w→St E.S E.w0 C' w)→TN E ops D C' C1 F tb n rem' L' C''→KJ E K D L' C'')→RJ E ops (NQ K) [o] D L C) (hr:rem=rem':=by kernel_rfl):Gh E ops D C' C1 F tb n rem i L C:=aaL ho hr ht h
theorem RD {X:dH→List ar→Prop} (hT:∀ L' C'',(∀ w,St E.S E.w0 C'' w→St E.S E.w0 C' w)→X L' C''→KJ E K D L' C'') (k:Nat) (h2:C.drop k=C') (h:X L C):RJ E ops (NQ K) [] D L C:=bG (hT _ _ (fun w hs=>h2▸hs.take (List.drop_sublist k C)) h)
theorem aN {L':dH} (h:L'.map (fun p=>L.lookup p.1)=L'.map (fun p=>some p.2)):cS L L':=by
 induction L' with
 |nil=>exact cS.nil _
 |cons p t ih=>
  simp only [m2,ABo] at h;exact cS.cons h.1 (ih h.2)
theorem Rk {A A' B' D D':ar} (i j k:Nat) (h1:C[i]? =some A') (e1:A'.holds=A.holds) (h2:C[j]? =some B') (e2:B'.holds=B.holds) (h3:C[k]? =some D') (e3:D'.holds=D.holds):lX C [A,B,D]:=gN i h1 e1 (gN j h2 e2 (gN k h3 e3 aA))
theorem bE {c:Operand} {x y:Code} {b:Bool} {D:List Deferred} {L:List (Nat×Value)} (hc:ev L c=some (.bool b)) (h2:b=false→WJ E y Q D L C) (h1:b=true→WJ E x Q D L C):WJ E (.cond c x y) Q D L C:=bY hc h1 h2
theorem cz {D:List Deferred} {L:List (Nat×Value)} {b:Bool} (h:L.lookup t=some (.bool b)) (h2:b=false→RJ E ops Q rest D ((t,.bool false)::L) C) (h1:b=true→RJ E ops Q rest D ((t,.bool true)::L) C):RJ E ops Q rest D L C:=bJ h h1 h2
theorem iQ {D:List Deferred} {L:List (Nat×Value)} {b:Bool} {os:List Oper} (h:L.lookup t=some (.bool b)) (h2:b=false→DJ E ops D C (fun L2=>RJ E ops Q rest D L2 C) os ((t,.bool false)::L)) (h1:b=true→DJ E ops D C (fun L2=>RJ E ops Q rest D L2 C) os ((t,.bool true)::L)):DJ E ops D C (fun L2=>RJ E ops Q rest D L2 C) os L:=iJ h h1 h2
theorem cx {L:List (Nat×Value)}: ∀ (k:Nat) {L2:List (Nat×Value)} (q:cS L (L2.drop k)) (h:(L2.take k).map (fun p=>L.lookup p.1)=(L2.take k).map (fun p=>some p.2):=by rfl),cS L L2
 |0,_,q,_=>q
 |_+1,[],_,_=>cS.nil _
 |k+1,p::L2,q,h=>by
  obtain ⟨A,B⟩:=List.cons.inj (show L.lookup p.1::(L2.take k).map (fun p=>L.lookup p.1)=some p.2::(L2.take k).map (fun p=>some p.2) from h);exact cS.cons (t:=p.1) (v:=p.2) A (cx k q B)
end
section
open Go.RowKit
section
variable {E:fM} {ops:Array Oper} {Q:dk} {rest:List Oper} {D:List Deferred} {L:List (Nat×Value)} {C:List ar}
variable {d:Nat} {ty:TypeId} {ps:String} {af:Array Edge} {g:Option (Nat×Bool)}
theorem RO (h:tE P t=some (e,sz)) (w:World):P.underlying t=some (.slice e)∧(sizeOf e).run P w= .ok sz w:=by
 unfold tE at h;split at h
 ·rename_i e' hu;split at h
  ·rename_i i hi;cases h;exact ⟨hu,by simp [sizeOf,typeInfo,hi]⟩
  ·cases h
 ·cases h
theorem IB (h:P.underlying t=some (.slice e)):P.underlying t=some (.slice (P.elem t)):=by
 rw [h];simp [Program.elem,h]
theorem SJ (h:P.underlying t=some (.slice e)):P.elem t=e:=by simp [Program.elem,h]
/-- s[:k] -/
theorem SHI (k:Nat) {hi:Operand} {n c:Nat} (h:bF E.n ops L d g x hi=some (.slice A n c,.int .i64 j)) (ht:tE E.P t=some (e,sz)) (hj:j=(k:Int)) (hk:k≤c):
 SE E ops ⟨some d,.slice t x none (some hi) none,ty,ps,af,g⟩ D L C (.slice A k c) d:=by
 obtain ⟨H,AA,J,K⟩:=vo h;subst hj;refine ⟨eo H sm fun a w B hs=>?_,U,AA⟩;obtain ⟨hu,hz⟩:=RO ht w;have hr:=run_slice_h (P:=E.P) w t A n c (IB hu) .i64 (k:Int) I I;rw [SJ hu,hz] at hr;have G:(if c=0 then A else A.map (·.add (0*sz)))=A:=by
  split
  ·rfl
  ·cases A with
   |none=>rfl
   |some ad=>simp [Addr.add]
 simp only [Result.andThen,AAP,sliced,G,Nat.sub_zero] at hr;have F:=run_sliceAt_slice (P:=E.P) w t (.slice A n c) none (some (.int .i64 (k:Int))) none (IB hu);simp [execOp,B.ev J,B.ev K,F,hr]
/-- an element of a row whose place is known -/
theorem IAP (k:Nat) {ix:Operand} {n c:Nat} (h:bF E.n ops L d g x ix=some (.slice A n c,.int .i64 j)) (hA:A=some ad) (ht:tE E.P t=some (e,sz)) (hj:j=(k:Int)) (hk:k<n):
 SE E ops ⟨some d,.indexAddr t x ix,ty,ps,af,g⟩ D L C (.pointer (nR A (k*sz))) d:=by
 obtain ⟨F,G,H,AA⟩:=vo h;refine ⟨eo F sm fun a w B hs=>?_,U,G⟩;subst hA hj;simp [execOp,B.ev H,B.ev AA,nR,tL ht hk]
end
theorem SC {w:World} {a:OA} {c:Nat} (h:(own a c e sz es).holds w):es.length≤c:=by
 rcases h.2.2 with ⟨A,B⟩|⟨g,cap,cur,hv,_,_,C,_⟩
 ·omega
 ·injection hv with _ _ hc;omega
end
section
open Go.RowKit
/-- an array's length, its elements' type and their size -/
def aE (P:Program) (t:TypeId):Option (Nat×TypeId×Nat):=
 match P.underlying t with
 |some (.array n e)=>match P.info? e with
  |some i=>some (n,e,i.size)
  |none=>none
 |_=>none
theorem Jw {n:Nat} (h:aE P t=some (n,e,sz)) (w:World):P.underlying t=some (.array n e)∧(sizeOf e).run P w= .ok sz w:=by
 unfold aE at h;split at h
 ·rename_i n' e' hu;split at h
  ·rename_i i hi;cases h;exact ⟨hu,by simp [sizeOf,typeInfo,hi]⟩
  ·cases h
 ·cases h
theorem za {n:Nat} (h:aE P t=some (n,e,sz)) (a:Addr) (w:World):
 (Instr.sliceAt t (.pointer (some a)) none none none).run P w= .ok (.slice (some a) n n) w:=by
 obtain ⟨hu,hz⟩:=Jw h w;have A:a.add 0=a:=by simp [Addr.add]
 simp [Instr.sliceAt,underlying,hu,Instr.sureAddr,Instr.sliceBounds,hz,A]
theorem yZ {n:Nat} (h:aE P t=some (n,e,sz)) (a:Addr) (hk:k<n) (w:World):
 (Instr.indexAt t (.pointer (some a)) (.int .i64 (k:Int))).run P w= .ok (.pointer (some (a.add (k*sz)))) w:=by
 obtain ⟨hu,hz⟩:=Jw h w;have A: ¬ n≤k:=by omega
 simp [Instr.indexAt,underlying,hu,Instr.sureAddr,asIntOf,hz,A]
 try exact fun h=>absurd h A
 try omega
section
variable {E:fM} {ops:Array Oper} {Q:dk} {rest:List Oper} {D:List Deferred} {L:List (Nat×Value)} {C:List ar}
variable {dst:Option Nat} {ty:TypeId} {ps:String} {af:Array Edge} {g:Option (Nat×Bool)}
theorem G5 {a:Addr} {n:Nat} (hg:kB ops L g=true) (hx:ev L x=some (.pointer (some a))) (ht:aE E.P t=some (n,e,sz)):
 SD E ops ⟨dst,.slice t x none none none,ty,ps,af,g⟩ D L C (.slice (some a) n n):=
 eo hg sm fun b w A hs=>by
  simp [execOp,A.ev hx,za ht]
theorem HG {ix:Operand} {a:Addr} {n:Nat} (hg:kB ops L g=true) (hx:ev L x=some (.pointer (some a))) (hi:ev L ix=some (.int .i64 j)) (ht:aE E.P t=some (n,e,sz)) (hj:j=(k:Int)) (hk:k<n):
 SD E ops ⟨dst,.indexAddr t x ix,ty,ps,af,g⟩ D L C (.pointer (nR (some a) (k*sz))):=
 eo hg sm fun b w A hs=>by
  subst hj;simp [execOp,A.ev hx,A.ev hi,nR,yZ ht a hk]
end
end
section
open Go.RowKit
/-- a table of facts on the program's types -/
structure C9 where
 tk:List (Nat×Bool×Nat)
 fo:List (Nat×List (Option Nat))
 sl:List Nat
def WT {α:Type}:List (Nat×α)→Nat→Option α
 |[],_=>none
 |(k,v)::l,t=>match beq k t with
  |true=>some v
  |false=>WT l t
theorem D3 {α:Type}: ∀ {l:List (Nat×α)} {t:Nat} {v:α},WT l t=some v→(t,v)∈l
 |[],t,v,h=>by simp [WT] at h
 |(k,u)::l,t,v,h=>by
  unfold WT at h;split at h
  ·rename_i hb;cases h;rw [AAL hb];exact bZ
  ·exact dg _ (D3 h)
def Q3:List Nat→Nat→Bool
 |[],_=>false
 |k::l,t=>match beq k t with
  |true=>true
  |false=>Q3 l t
theorem Gs: ∀ {l:List Nat} {t:Nat},Q3 l t=true→t∈l
 |[],t,h=>by simp [Q3] at h
 |k::l,t,h=>by
  unfold Q3 at h;split at h
  ·rename_i hb;rw [AAL hb];exact bZ
  ·exact dg _ (Gs h)
def C9.OF (T:C9) (t:Nat):Option (Bool×Nat):=WT T.tk t
def C9.foF (T:C9) (s f:Nat):Option Nat:=match WT T.fo s with
 |some l=>match l[f]? with
  |some (some k)=>some k
  |_=>none
 |none=>none
structure k7 (P:Program) (T:C9):Prop where
 tk: ∀ p∈T.tk,tK P p.1=some p.2
 fo: ∀ p∈T.fo,∀ f k,p.2[f]? =some (some k)→vR P p.1 f=some k
 sl: ∀ t∈T.sl,∃ e,P.underlying t=some (.slice e)
theorem k7.OF {T:C9} (h:k7 P T) {r:Bool×Nat} (e:T.OF t=some r):tK P t=some r:=h.tk _ (D3 e)
theorem k7.foF {T:C9} (h:k7 P T) {s:Nat} (e:T.foF s f=some k):vR P s f=some k:=by
 unfold C9.foF at e;split at e
 ·rename_i l hl;split at e
  ·rename_i k' hk;cases e;exact h.fo _ (D3 hl) f k hk
  ·cases e
 ·cases e
def ZM (P:Program) (T:C9):Bool:=(T.tk.all fun p=>decide (tK P p.1=some p.2))&&(T.fo.all fun p=>(range p.2.length).all fun f=>match p.2[f]? with
 |some (some k)=>decide (vR P p.1 f=some k)
 |_=>true)&&T.sl.all fun t=>match P.underlying t with
 |some (.slice _)=>true
 |_=>false
theorem VS {T:C9} (h:ZM P T=true):k7 P T:=by
 unfold ZM at h;rw [dh,dh] at h;obtain ⟨⟨B,C⟩,D⟩:=h;refine ⟨fun p hp=>by simpa using db.1 B p hp,fun p hp f k hk=>?_,fun t ht=>?_⟩
 ·have A:=db.1 (db.1 C p hp) f (AAd.2 (aR.1 hk).1);rw [hk] at A;simpa using A
 ·have A:=db.1 D t ht;split at A
  ·rename_i e he;exact ⟨e,he⟩
  ·cases A
end
section
theorem vV:tK Tryz.prog 3=some (false,1):=by kernel_rfl
theorem tk4:tK Tryz.prog 4=some (false,1):=by kernel_rfl
theorem ZP:tK Tryz.prog 5=some (false,1):=by kernel_rfl
theorem aa7:tK Tryz.prog 22=some (false,1):=by kernel_rfl
theorem aag:tK Tryz.prog 24=some (true,1):=by kernel_rfl
theorem aat:tK Tryz.prog 25=some (false,1):=by kernel_rfl
theorem aan:tK Tryz.prog 26=some (false,1):=by kernel_rfl
theorem aaj:tK Tryz.prog 28=some (true,7):=by kernel_rfl
theorem W5:tK Tryz.prog 29=some (false,1):=by kernel_rfl
theorem aaM:tK Tryz.prog 30=some (false,1):=by kernel_rfl
theorem Xc:tK Tryz.prog 32=some (true,11):=by kernel_rfl
theorem zU:tK Tryz.prog 38=some (true,2):=by kernel_rfl
theorem aa2:tK Tryz.prog 42=some (false,1):=by kernel_rfl
theorem aa8:tK Tryz.prog 48=some (false,1):=by kernel_rfl
theorem aaB:tK Tryz.prog 52=some (true,7):=by kernel_rfl
theorem aaz:tK Tryz.prog 65=some (true,9):=by kernel_rfl
theorem Wx:tK Tryz.prog 68=some (false,1):=by kernel_rfl
theorem aba:tK Tryz.prog 76=some (true,15):=by kernel_rfl
theorem aaS:tK Tryz.prog 85=some (true,2):=by kernel_rfl
theorem abi:tK Tryz.prog 87=some (false,1):=by kernel_rfl
theorem aap:tK Tryz.prog 95=some (false,1):=by kernel_rfl
theorem aa9:tK Tryz.prog 96=some (false,1):=by kernel_rfl
theorem UC:tK Tryz.prog 102=some (false,1):=by kernel_rfl
theorem Y4:tK Tryz.prog 106=some (true,3):=by kernel_rfl
theorem YP:tK Tryz.prog 107=some (false,1):=by kernel_rfl
theorem Y7:tK Tryz.prog 109=some (true,2):=by kernel_rfl
theorem NU:tK Tryz.prog 111=some (true,3):=by kernel_rfl
theorem Xq:tK Tryz.prog 120=some (true,5):=by kernel_rfl
theorem Yj:tK Tryz.prog 131=some (true,4):=by kernel_rfl
theorem Zk:tK Tryz.prog 134=some (false,1):=by kernel_rfl
theorem XY:tK Tryz.prog 180=some (true,8):=by kernel_rfl
theorem YT:tK Tryz.prog 192=some (true,1):=by kernel_rfl
theorem Y6:tK Tryz.prog 193=some (true,4):=by kernel_rfl
theorem XC:tK Tryz.prog 224=some (true,4):=by kernel_rfl
theorem X2:tK Tryz.prog 229=some (true,2):=by kernel_rfl
theorem YO:tK Tryz.prog 230=some (true,8):=by kernel_rfl
theorem YQ:tK Tryz.prog 234=some (true,13):=by kernel_rfl
theorem W_:tK Tryz.prog 268=some (true,1):=by kernel_rfl
theorem Zz:tK Tryz.prog 269=some (true,2):=by kernel_rfl
theorem YH:tK Tryz.prog 273=some (true,1):=by kernel_rfl
theorem X6:tK Tryz.prog 341=some (false,1):=by kernel_rfl
theorem XQ:tK Tryz.prog 346=some (false,1):=by kernel_rfl
theorem Xv:tK Tryz.prog 348=some (true,2):=by kernel_rfl
theorem W8:tK Tryz.prog 363=some (false,1):=by kernel_rfl
theorem XV:tK Tryz.prog 365=some (true,3):=by kernel_rfl
theorem GI:(tK Tryz.prog 3).map (·.2)=some 1:=by rw [vV];rfl
theorem XO:(tK Tryz.prog 22).map (·.2)=some 1:=by rw [aa7];rfl
theorem Vx:(tK Tryz.prog 24).map (·.2)=some 1:=by rw [aag];rfl
theorem Zl:(tK Tryz.prog 25).map (·.2)=some 1:=by rw [aat];rfl
theorem WB:(tK Tryz.prog 26).map (·.2)=some 1:=by rw [aan];rfl
theorem Nw:(tK Tryz.prog 28).map (·.2)=some 7:=by rw [aaj];rfl
theorem wM:(tK Tryz.prog 29).map (·.2)=some 1:=by rw [W5];rfl
theorem Xk:(tK Tryz.prog 30).map (·.2)=some 1:=by rw [aaM];rfl
theorem n8:(tK Tryz.prog 32).map (·.2)=some 11:=by rw [Xc];rfl
theorem cJ:(tK Tryz.prog 38).map (·.2)=some 2:=by rw [zU];rfl
theorem aaA:(tK Tryz.prog 42).map (·.2)=some 1:=by rw [aa2];rfl
theorem VI:(tK Tryz.prog 48).map (·.2)=some 1:=by rw [aa8];rfl
theorem G4:(tK Tryz.prog 52).map (·.2)=some 7:=by rw [aaB];rfl
theorem SG:(tK Tryz.prog 65).map (·.2)=some 9:=by rw [aaz];rfl
theorem XZ:(tK Tryz.prog 68).map (·.2)=some 1:=by rw [Wx];rfl
theorem Tc:(tK Tryz.prog 76).map (·.2)=some 15:=by rw [aba];rfl
theorem xD:(tK Tryz.prog 85).map (·.2)=some 2:=by rw [aaS];rfl
theorem Yq:(tK Tryz.prog 87).map (·.2)=some 1:=by rw [abi];rfl
theorem Ry:(tK Tryz.prog 95).map (·.2)=some 1:=by rw [aap];rfl
theorem aaN:(tK Tryz.prog 96).map (·.2)=some 1:=by rw [aa9];rfl
theorem Qu:(tK Tryz.prog 102).map (·.2)=some 1:=by rw [UC];rfl
theorem wv:(tK Tryz.prog 106).map (·.2)=some 3:=by rw [Y4];rfl
theorem Ug:(tK Tryz.prog 107).map (·.2)=some 1:=by rw [YP];rfl
theorem B4:(tK Tryz.prog 109).map (·.2)=some 2:=by rw [Y7];rfl
theorem UL:(tK Tryz.prog 111).map (·.2)=some 3:=by rw [NU];rfl
theorem Qa:(tK Tryz.prog 120).map (·.2)=some 5:=by rw [Xq];rfl
theorem UO:(tK Tryz.prog 131).map (·.2)=some 4:=by rw [Yj];rfl
theorem Zm:(tK Tryz.prog 134).map (·.2)=some 1:=by rw [Zk];rfl
theorem Zv:(tK Tryz.prog 180).map (·.2)=some 8:=by rw [XY];rfl
theorem IC:(tK Tryz.prog 192).map (·.2)=some 1:=by rw [YT];rfl
theorem X1:(tK Tryz.prog 193).map (·.2)=some 4:=by rw [Y6];rfl
theorem n9:(tK Tryz.prog 224).map (·.2)=some 4:=by rw [XC];rfl
theorem Ob:(tK Tryz.prog 229).map (·.2)=some 2:=by rw [X2];rfl
theorem ZD:(tK Tryz.prog 230).map (·.2)=some 8:=by rw [YO];rfl
theorem u_:(tK Tryz.prog 234).map (·.2)=some 13:=by rw [YQ];rfl
theorem TS:(tK Tryz.prog 268).map (·.2)=some 1:=by rw [W_];rfl
theorem TO:(tK Tryz.prog 269).map (·.2)=some 2:=by rw [Zz];rfl
theorem Nv:(tK Tryz.prog 273).map (·.2)=some 1:=by rw [YH];rfl
theorem BR:(tK Tryz.prog 341).map (·.2)=some 1:=by rw [X6];rfl
theorem N0:(tK Tryz.prog 346).map (·.2)=some 1:=by rw [XQ];rfl
theorem uY:(tK Tryz.prog 348).map (·.2)=some 2:=by rw [Xv];rfl
theorem Xg:(tK Tryz.prog 363).map (·.2)=some 1:=by rw [W8];rfl
theorem XI:(tK Tryz.prog 365).map (·.2)=some 3:=by rw [XV];rfl
theorem CP:aE Tryz.prog 199=some (3,198,2):=by kernel_rfl
theorem Wt:vR Tryz.prog 52 0=some 0:=by kernel_rfl
theorem aai:sQ Tryz.prog 33=true:=by kernel_rfl
theorem aad:sQ Tryz.prog 80=true:=by kernel_rfl
theorem Vb:sQ Tryz.prog 93=true:=by kernel_rfl
theorem jF (l:List aa): ∀ v∈(l.map aa.cells).flatten,v.oneCell'=true:=oa (fun _=>rfl) l
theorem vw (l:List ai): ∀ v∈(l.map ai.cells).flatten,v.oneCell'=true:=oa (fun _=>rfl) l
theorem wF (l:List aZ): ∀ v∈(l.map aZ.cells).flatten,v.oneCell'=true:=oa (fun _=>rfl) l
theorem yW (l:List dj): ∀ v∈(l.map dj.cells).flatten,v.oneCell'=true:=oa (fun _=>rfl) l
theorem sI (l:List dT): ∀ v∈(l.map dT.cells).flatten,v.oneCell'=true:=oa (fun _=>rfl) l
theorem aaO:tA Tryz.prog 22=some (65,9,72,(Value.agg [(vI 0),(vI 0),(vI 0),(vI 0),(vI 0),(vI 0),(vI 0),(Value.int .u8 0),(vI 0)].toArray)):=by kernel_rfl
theorem aas:tA Tryz.prog 25=some (109,2,32,(Value.agg [(vI 0),(vS none 0 0)].toArray)):=by kernel_rfl
theorem YY:tA Tryz.prog 26=some (113,4,32,(Value.agg [(vI 0),(vI 0),(vI 0),(vI 0)].toArray)):=by kernel_rfl
theorem pI:tA Tryz.prog 29=some (3,1,8,(vI 0)):=by kernel_rfl
theorem Z7:tA Tryz.prog 30=some (68,1,24,(vS none 0 0)):=by kernel_rfl
theorem YF:tA Tryz.prog 42=some (29,1,24,(vS none 0 0)):=by kernel_rfl
theorem aar:tA Tryz.prog 48=some (85,2,16,(Value.agg [(vI 0),(vI 0)].toArray)):=by kernel_rfl
theorem ZV:tA Tryz.prog 68=some (52,7,64,(Value.agg [(vB false),(vB false),(vI 0),(vI 0),(vI 0),(vI 0),(vS none 0 0)].toArray)):=by kernel_rfl
theorem XN:tA Tryz.prog 96=some (102,1,24,(vS none 0 0)):=by kernel_rfl
theorem Cr:tA Tryz.prog 102=some (38,2,16,(Value.agg [(vI 0),(vI 0)].toArray)):=by kernel_rfl
theorem X3:tA Tryz.prog 107=some (106,3,24,(Value.agg [(vI 0),(vI 0),(vI 0)].toArray)):=by kernel_rfl
theorem Ux:tA Tryz.prog 335=some (368,3,72,(Value.agg [(vS none 0 0),(vS none 0 0),(vS none 0 0)].toArray)):=by kernel_rfl
theorem Uf:tA Tryz.prog 340=some (95,1,8,(Value.map none)):=by kernel_rfl
theorem Es:tA Tryz.prog 341=some (346,1,8,(Value.map none)):=by kernel_rfl
theorem Xp:tA Tryz.prog 363=some (4,1,1,(vB false)):=by kernel_rfl
theorem VY:tB Tryz.prog 24=some ([(vS none 0 0)],[(0,1)]):=by kernel_rfl
theorem aaq:tB Tryz.prog 28=some ([(vS none 0 0),(vI 0),(vS none 0 0),(vS none 0 0),(vI 0),(vI 0),(vI 0)],[(0,1),(1,1),(2,1),(3,1),(4,1),(5,1),(6,1)]):=by kernel_rfl
theorem Bo:tB Tryz.prog 32=some ([(vS none 0 0),(vI 0),(vS none 0 0),(vS none 0 0),(vI 0),(vI 0),(vI 0),(vS none 0 0),(vS none 0 0),(vI 0),(vS none 0 0)],[(0,7),(7,1),(8,1),(9,1),(10,1)]):=by kernel_rfl
theorem aaE:tB Tryz.prog 36=some ([(vS none 0 0),(vI 0),(vS none 0 0),(vS none 0 0),(vI 0),(vI 0),(vI 0),(vS none 0 0),(vS none 0 0),(vI 0),(vS none 0 0),(vS none 0 0),(vS none 0 0),(vI 0),(vI 0)],[(0,11),(11,1),(12,1),(13,1),(14,1)]):=by kernel_rfl
theorem gP:tB Tryz.prog 38=some ([(vI 0),(vI 0)],[(0,1),(1,1)]):=by kernel_rfl
theorem Ku:tB Tryz.prog 52=some ([(vB false),(vB false),(vI 0),(vI 0),(vI 0),(vI 0),(vS none 0 0)],[(0,1),(1,1),(2,2),(4,3)]):=by kernel_rfl
theorem PJ:tB Tryz.prog 65=some ([(vI 0),(vI 0),(vI 0),(vI 0),(vI 0),(vI 0),(vI 0),(Value.int .u8 0),(vI 0)],[(0,1),(1,2),(3,2),(5,2),(7,1),(8,1)]):=by kernel_rfl
theorem aal:tB Tryz.prog 76=some ([(vS none 0 0),(vI 0),(vS none 0 0),(vS none 0 0),(vI 0),(vI 0),(vI 0),(vS none 0 0),(vS none 0 0),(vI 0),(vS none 0 0),(vS none 0 0),(vS none 0 0),(vI 0),(vI 0)],[(0,15)]):=by kernel_rfl
theorem XL:tB Tryz.prog 85=some ([(vI 0),(vI 0)],[(0,1),(1,1)]):=by kernel_rfl
theorem aau:tB Tryz.prog 98=some ([(vS none 0 0),(vI 0),(vS none 0 0),(vS none 0 0),(vI 0),(vI 0),(vI 0),(vS none 0 0),(vS none 0 0),(vI 0),(vS none 0 0),(vS none 0 0),(Value.map none)],[(0,11),(11,1),(12,1)]):=by kernel_rfl
theorem XU:tB Tryz.prog 106=some ([(vI 0),(vI 0),(vI 0)],[(0,1),(1,2)]):=by kernel_rfl
theorem X7:tB Tryz.prog 109=some ([(vI 0),(vS none 0 0)],[(0,1),(1,1)]):=by kernel_rfl
theorem YE:tB Tryz.prog 111=some ([(vI 0),(vI 0),(vI 0)],[(0,1),(1,2)]):=by kernel_rfl
theorem Yb:tB Tryz.prog 113=some ([(vI 0),(vI 0),(vI 0),(vI 0)],[(0,3),(3,1)]):=by kernel_rfl
theorem Ur:tB Tryz.prog 124=some ([(Value.int .u8 0),(vI 0),(vI 0),(vI 0),(vI 0),(vI 0),(vI 0),(vI 0),(vI 0),(vI 0),(vI 0)],[(0,1),(1,2),(3,2),(5,2),(7,2),(9,2)]):=by kernel_rfl
theorem XH:tB Tryz.prog 177=some ([(vS none 0 0)],[(0,1)]):=by kernel_rfl
theorem Zj:tB Tryz.prog 180=some ([(vS none 0 0),(vI 0),(vI 0),(vI 0),(vS none 0 0),(vS none 0 0),(vI 0),(vB false)],[(0,1),(1,1),(2,1),(3,1),(4,1),(5,1),(6,1),(7,1)]):=by kernel_rfl
theorem IE:tB Tryz.prog 192=some ([Value.nilFunc],[(0,1)]):=by kernel_rfl
theorem ZE:tB Tryz.prog 193=some ([Value.nilFunc,Value.nilFunc,Value.nilFunc,Value.nilFunc],[(0,1),(1,1),(2,1),(3,1)]):=by kernel_rfl
theorem YD:tB Tryz.prog 205=some ([(vI 0),(vI 0)],[(0,1),(1,1)]):=by kernel_rfl
theorem I_:tB Tryz.prog 224=some ([(vI 0),(vI 0),(vB false),(vB false)],[(0,2),(2,1),(3,1)]):=by kernel_rfl
theorem QV:tB Tryz.prog 229=some ([Value.nilFunc,Value.nilFunc],[(0,1),(1,1)]):=by kernel_rfl
theorem Zu:tB Tryz.prog 230=some ([Value.nilFunc,Value.nilFunc,Value.nilFunc,Value.nilFunc,Value.nilFunc,Value.nilFunc,Value.nilFunc,Value.nilFunc],[(0,2),(2,2),(4,2),(6,2)]):=by kernel_rfl
theorem UH:tB Tryz.prog 234=some ([(Value.int .u8 0),(vI 0),(vI 0),(vI 0),(vI 0),(vI 0),(vI 0),(vI 0),(vI 0),(vI 0),(vI 0),(vS none 0 0),(vB false)],[(0,11),(11,1),(12,1)]):=by kernel_rfl
theorem TX:tB Tryz.prog 268=some ([Value.nilFunc],[(0,1)]):=by kernel_rfl
theorem Zq:tB Tryz.prog 269=some ([Value.nilFunc,Value.nilFunc],[(0,1),(1,1)]):=by kernel_rfl
theorem Xz:tB Tryz.prog 273=some ([(vS none 0 0)],[(0,1)]):=by kernel_rfl
theorem W2:tB Tryz.prog 317=some ([(vS none 0 0),(Value.map none)],[(0,1),(1,1)]):=by kernel_rfl
theorem UJ:tB Tryz.prog 343=some ([(vS none 0 0),(vI 0),(vS none 0 0),(vS none 0 0),(vI 0),(vI 0),(vI 0),(vI 0),(vI 0),(vS none 0 0),(vS none 0 0),(vS none 0 0),(vS none 0 0),(vS none 0 0)],[(0,7),(7,3),(10,1),(11,1),(12,1),(13,1)]):=by kernel_rfl
theorem Fs:tB Tryz.prog 348=some ([(vI 0),(vI 0)],[(0,1),(1,1)]):=by kernel_rfl
theorem ZG:tB Tryz.prog 368=some ([(vS none 0 0),(vS none 0 0),(vS none 0 0)],[(0,1),(1,1),(2,1)]):=by kernel_rfl
theorem vM:tE Tryz.prog 22=some (65,9):=by kernel_rfl
theorem xK:tE Tryz.prog 25=some (109,2):=by kernel_rfl
theorem wN:tE Tryz.prog 26=some (113,4):=by kernel_rfl
theorem cM:tE Tryz.prog 29=some (3,1):=by kernel_rfl
theorem mz:tE Tryz.prog 30=some (68,1):=by kernel_rfl
theorem KL:tE Tryz.prog 33=some (131,4):=by kernel_rfl
theorem Qs:tE Tryz.prog 34=some (120,5):=by kernel_rfl
theorem wB:tE Tryz.prog 42=some (29,1):=by kernel_rfl
theorem zH:tE Tryz.prog 48=some (85,2):=by kernel_rfl
theorem rV:tE Tryz.prog 68=some (52,7):=by kernel_rfl
theorem VC:tE Tryz.prog 96=some (102,1):=by kernel_rfl
theorem iA:tE Tryz.prog 102=some (38,2):=by kernel_rfl
theorem po:tE Tryz.prog 107=some (106,3):=by kernel_rfl
theorem Ov:tE Tryz.prog 196=some (198,2):=by kernel_rfl
theorem UN:tE Tryz.prog 281=some (180,8):=by kernel_rfl
theorem OD:tE Tryz.prog 309=some (111,3):=by kernel_rfl
theorem IW:tE Tryz.prog 335=some (368,3):=by kernel_rfl
theorem UA:tE Tryz.prog 339=some (304,1):=by kernel_rfl
theorem AZ:tE Tryz.prog 340=some (95,1):=by kernel_rfl
theorem p6:tE Tryz.prog 341=some (346,1):=by kernel_rfl
theorem UI:tE Tryz.prog 363=some (4,1):=by kernel_rfl
theorem Du:(match Tryz.prog.underlying 38 with |some (.struct fs)=>(fs[0]?).map (fun fl=>tK Tryz.prog fl.type)|_=>none)=some (some (false,1)):=by kernel_rfl
theorem Nf:(match Tryz.prog.underlying 38 with |some (.struct fs)=>(fs[1]?).map (fun fl=>tK Tryz.prog fl.type)|_=>none)=some (some (false,1)):=by kernel_rfl
theorem tv3:tV Tryz.prog 3=some (vI 0):=by kernel_rfl
theorem tv4:tV Tryz.prog 4=some (vB false):=by kernel_rfl
theorem Kc:tV Tryz.prog 38=some (Value.agg [(vI 0),(vI 0)].toArray):=by kernel_rfl
theorem Jl:tX Tryz.prog 193=some (4,192):=by kernel_rfl
theorem JK:tX Tryz.prog 205=some (2,3):=by kernel_rfl
theorem Pa:tX Tryz.prog 230=some (4,229):=by kernel_rfl
theorem Up:tX Tryz.prog 269=some (2,268):=by kernel_rfl
theorem jW:tZ Tryz.prog 3=some [(vI 0)]:=by kernel_rfl
theorem tz4:tZ Tryz.prog 4=some [(vB false)]:=by kernel_rfl
theorem VL:tZ Tryz.prog 24=some [(vS none 0 0)]:=by kernel_rfl
theorem Sa:tZ Tryz.prog 28=some [(vS none 0 0),(vI 0),(vS none 0 0),(vS none 0 0),(vI 0),(vI 0),(vI 0)]:=by kernel_rfl
theorem M8:tZ Tryz.prog 29=some [(vS none 0 0)]:=by kernel_rfl
theorem vC:tZ Tryz.prog 32=some [(vS none 0 0),(vI 0),(vS none 0 0),(vS none 0 0),(vI 0),(vI 0),(vI 0),(vS none 0 0),(vS none 0 0),(vI 0),(vS none 0 0)]:=by kernel_rfl
theorem dA:tZ Tryz.prog 38=some [(vI 0),(vI 0)]:=by kernel_rfl
theorem KP:tZ Tryz.prog 52=some [(vB false),(vB false),(vI 0),(vI 0),(vI 0),(vI 0),(vS none 0 0)]:=by kernel_rfl
theorem GQ:tZ Tryz.prog 65=some [(vI 0),(vI 0),(vI 0),(vI 0),(vI 0),(vI 0),(vI 0),(Value.int .u8 0),(vI 0)]:=by kernel_rfl
theorem aa4:tZ Tryz.prog 68=some [(vS none 0 0)]:=by kernel_rfl
theorem RH:tZ Tryz.prog 76=some [(vS none 0 0),(vI 0),(vS none 0 0),(vS none 0 0),(vI 0),(vI 0),(vI 0),(vS none 0 0),(vS none 0 0),(vI 0),(vS none 0 0),(vS none 0 0),(vS none 0 0),(vI 0),(vI 0)]:=by kernel_rfl
theorem OG:tZ Tryz.prog 85=some [(vI 0),(vI 0)]:=by kernel_rfl
theorem Yn:tZ Tryz.prog 87=some [(Value.pointer none)]:=by kernel_rfl
theorem aaT:tZ Tryz.prog 95=some [(Value.map none)]:=by kernel_rfl
theorem JW:tZ Tryz.prog 102=some [(vS none 0 0)]:=by kernel_rfl
theorem vd:tZ Tryz.prog 106=some [(vI 0),(vI 0),(vI 0)]:=by kernel_rfl
theorem zK:tZ Tryz.prog 109=some [(vI 0),(vS none 0 0)]:=by kernel_rfl
theorem Iv:tZ Tryz.prog 111=some [(vI 0),(vI 0),(vI 0)]:=by kernel_rfl
theorem Ye:tZ Tryz.prog 113=some [(vI 0),(vI 0),(vI 0),(vI 0)]:=by kernel_rfl
theorem NZ:tZ Tryz.prog 120=some [(vI 0),(vI 0),(vI 0),(vI 0),(vI 0)]:=by kernel_rfl
theorem Uc:tZ Tryz.prog 131=some [(Value.int .u8 0),(vI 0),(vI 0),(vI 0)]:=by kernel_rfl
theorem W6:tZ Tryz.prog 134=some [(Value.map none)]:=by kernel_rfl
theorem Uq:tZ Tryz.prog 180=some [(vS none 0 0),(vI 0),(vI 0),(vI 0),(vS none 0 0),(vS none 0 0),(vI 0),(vB false)]:=by kernel_rfl
theorem I7:tZ Tryz.prog 192=some [Value.nilFunc]:=by kernel_rfl
theorem Xn:tZ Tryz.prog 193=some [Value.nilFunc,Value.nilFunc,Value.nilFunc,Value.nilFunc]:=by kernel_rfl
theorem qc:tZ Tryz.prog 224=some [(vI 0),(vI 0),(vB false),(vB false)]:=by kernel_rfl
theorem Om:tZ Tryz.prog 229=some [Value.nilFunc,Value.nilFunc]:=by kernel_rfl
theorem YK:tZ Tryz.prog 230=some [Value.nilFunc,Value.nilFunc,Value.nilFunc,Value.nilFunc,Value.nilFunc,Value.nilFunc,Value.nilFunc,Value.nilFunc]:=by kernel_rfl
theorem u6:tZ Tryz.prog 234=some [(Value.int .u8 0),(vI 0),(vI 0),(vI 0),(vI 0),(vI 0),(vI 0),(vI 0),(vI 0),(vI 0),(vI 0),(vS none 0 0),(vB false)]:=by kernel_rfl
theorem Ub:tZ Tryz.prog 268=some [Value.nilFunc]:=by kernel_rfl
theorem Uo:tZ Tryz.prog 269=some [Value.nilFunc,Value.nilFunc]:=by kernel_rfl
theorem Qw:tZ Tryz.prog 273=some [(vS none 0 0)]:=by kernel_rfl
theorem Zs:tZ Tryz.prog 304=some [Value.nilFunc]:=by kernel_rfl
theorem wJ:tZ Tryz.prog 348=some [(vI 0),(vI 0)]:=by kernel_rfl
theorem TV:tZ Tryz.prog 365=some [(vS none 0 0),(vS none 0 0),(vS none 0 0)]:=by kernel_rfl
theorem YU:tZ Tryz.prog 368=some [(vS none 0 0),(vS none 0 0),(vS none 0 0)]:=by kernel_rfl
theorem nZ:Tryz.prog.underlying 3=some (.int .i64):=by kernel_rfl
theorem Wd:Tryz.prog.underlying 4=some .bool:=by kernel_rfl
theorem ML:Tryz.prog.underlying 5=some (.int .u8):=by kernel_rfl
theorem ut9:Tryz.prog.underlying 9=some .string:=by kernel_rfl
theorem VN:Tryz.prog.underlying 22=some (.slice 65):=by kernel_rfl
theorem YW:Tryz.prog.underlying 25=some (.slice 109):=by kernel_rfl
theorem Tb:Tryz.prog.underlying 26=some (.slice 113):=by kernel_rfl
theorem YX:Tryz.prog.underlying 29=some (.slice 3):=by kernel_rfl
theorem YM:Tryz.prog.underlying 30=some (.slice 68):=by kernel_rfl
theorem Z8:Tryz.prog.underlying 33=some (.slice 131):=by kernel_rfl
theorem aay:Tryz.prog.underlying 34=some (.slice 120):=by kernel_rfl
theorem Y3:Tryz.prog.underlying 48=some (.slice 85):=by kernel_rfl
theorem Zp:Tryz.prog.underlying 68=some (.slice 52):=by kernel_rfl
theorem rX:Tryz.prog.underlying 95=some (.map 3 38):=by kernel_rfl
theorem Uv:Tryz.prog.underlying 107=some (.slice 106):=by kernel_rfl
theorem pW:Tryz.prog.underlying 134=some (.map 3 4):=by kernel_rfl
theorem Yv:Tryz.prog.underlying 167=some (.int .u64):=by kernel_rfl
theorem Xx:Tryz.prog.underlying 222=some (.int .u64):=by kernel_rfl
theorem YJ:Tryz.prog.underlying 315=some (.map 3 286):=by kernel_rfl
theorem qN:Tryz.prog.underlying 346=some (.map 348 3):=by kernel_rfl
theorem Vy:fL Tryz.prog 38=some [(3,0),(3,1)]:=by kernel_rfl
theorem zD (d:Nat) (s z:aa) (w:World):(Op.equalIn (d+2) 38 (.agg s.cells.toArray) (.agg z.cells.toArray)).run Tryz.prog w= .ok (decide (s=z)) w:=by
 have hc:(decide (s.Lo=z.Lo)&&(decide (s.Hi=z.Hi)&&true))=decide (s=z):=by rw [AAB];simp [aa.ext_iff]
 rw [← hc];exact lz (d+1) Vy w (gF w (dM vV U w) (dM vV U w) (j2 _ nZ w) (gF w (dM vV U w) (dM vV U w) (j2 _ nZ w) (qh w)))
variable (x y:Operand) (s z:aa)
theorem wU:g8 Tryz.prog .eql 38 x y (.agg s.cells.toArray) (.agg z.cells.toArray) (.bool (decide (s=z))):=CM x y (pH Vy) fun w=>zD 9998 s z w
theorem Ft:g8 Tryz.prog .neq 38 x y (.agg s.cells.toArray) (.agg z.cells.toArray) (.bool (!decide (s=z))):=q7 x y (pH Vy) fun w=>zD 9998 s z w
theorem Ue:fL Tryz.prog 106=some [(3,0),(38,1)]:=by kernel_rfl
theorem V8 (d:Nat) (s z:dj) (w:World):(Op.equalIn (d+3) 106 (.agg s.cells.toArray) (.agg z.cells.toArray)).run Tryz.prog w= .ok (decide (s=z)) w:=by
 have hc:(decide (s.At=z.At)&&(decide (s.er=z.er)&&true))=decide (s=z):=by rw [AAB];simp [dj.ext_iff]
 rw [← hc];exact lz (d+2) Ue w (gF w (dM vV U w) (dM vV U w) (j2 _ nZ w) (gF w (jN (vs:=aa.cells s.er) zU U w) (jN (vs:=aa.cells z.er) zU U w) (zD (d+0) s.er z.er w) (qh w)))
theorem MT (s z:dj):g8 Tryz.prog .neq 106 x y (.agg s.cells.toArray) (.agg z.cells.toArray) (.bool (!decide (s=z))):=q7 x y (pH Ue) fun w=>V8 9997 s z w
theorem W4:fL Tryz.prog 111=some [(3,0),(38,1)]:=by kernel_rfl
theorem Wa (d:Nat) (s z:cY) (w:World):(Op.equalIn (d+3) 111 (.agg s.cells.toArray) (.agg z.cells.toArray)).run Tryz.prog w= .ok (decide (s=z)) w:=by
 have hc:(decide (s.bk=z.bk)&&(decide (s.mM=z.mM)&&true))=decide (s=z):=by rw [AAB];simp [cY.ext_iff]
 rw [← hc];exact lz (d+2) W4 w (gF w (dM vV U w) (dM vV U w) (j2 _ nZ w) (gF w (jN (vs:=aa.cells s.mM) zU U w) (jN (vs:=aa.cells z.mM) zU U w) (zD (d+0) s.mM z.mM w) (qh w)))
theorem UP:fL Tryz.prog 113=some [(111,0),(3,3)]:=by kernel_rfl
theorem V7 (d:Nat) (s z:dT) (w:World):(Op.equalIn (d+4) 113 (.agg s.cells.toArray) (.agg z.cells.toArray)).run Tryz.prog w= .ok (decide (s=z)) w:=by
 have hc:(decide (s.mx=z.mx)&&(decide (s.kE=z.kE)&&true))=decide (s=z):=by rw [AAB];simp [dT.ext_iff]
 rw [← hc];exact lz (d+3) UP w (gF w (jN (vs:=cY.cells s.mx) NU U w) (jN (vs:=cY.cells z.mx) NU U w) (Wa (d+0) s.mx z.mx w) (gF w (dM vV U w) (dM vV U w) (j2 _ nZ w) (qh w)))
theorem U0 (s z:dT):g8 Tryz.prog .neq 113 x y (.agg s.cells.toArray) (.agg z.cells.toArray) (.bool (!decide (s=z))):=q7 x y (pH UP) fun w=>V7 9996 s z w
theorem Ui:fL Tryz.prog 131=some [(5,0),(3,1),(3,2),(3,3)]:=by kernel_rfl
theorem U_ (d:Nat) (s z:bO) (w:World):(Op.equalIn (d+2) 131 (.agg s.cells.toArray) (.agg z.cells.toArray)).run Tryz.prog w= .ok (decide (s=z)) w:=by
 have hc:(decide (s.Kind=z.Kind)&&(decide (s.ji=z.ji)&&(decide (s.og=z.og)&&(decide (s.To=z.To)&&true))))=decide (s=z):=by rw [AAB];simp [bO.ext_iff]
 rw [← hc];exact lz (d+1) Ui w (gF w (dM ZP U w) (dM ZP U w) (j2 _ ML w) (gF w (dM vV U w) (dM vV U w) (j2 _ nZ w) (gF w (dM vV U w) (dM vV U w) (j2 _ nZ w) (gF w (dM vV U w) (dM vV U w) (j2 _ nZ w) (qh w)))))
theorem Vf (s z:bO):g8 Tryz.prog .eql 131 x y (.agg s.cells.toArray) (.agg z.cells.toArray) (.bool (decide (s=z))):=CM x y (pH Ui) fun w=>U_ 9998 s z w
theorem Ul:fL Tryz.prog 348=some [(3,0),(3,1)]:=by kernel_rfl
theorem Wz (d:Nat) (s z:aI) (w:World):(Op.equalIn (d+2) 348 (.agg s.cells.toArray) (.agg z.cells.toArray)).run Tryz.prog w= .ok (decide (s=z)) w:=by
 have hc:(decide (s.right=z.right)&&(decide (s.fK=z.fK)&&true))=decide (s=z):=by rw [AAB];simp [aI.ext_iff]
 rw [← hc];exact lz (d+1) Ul w (gF w (dM vV U w) (dM vV U w) (j2 _ nZ w) (gF w (dM vV U w) (dM vV U w) (j2 _ nZ w) (qh w)))
theorem Y5:fL Tryz.prog 65=some [(3,0),(38,1),(38,3),(38,5),(5,7),(3,8)]:=by kernel_rfl
theorem Xr (d:Nat) (s z:ai) (w:World):(Op.equalIn (d+3) 65 (.agg s.cells.toArray) (.agg z.cells.toArray)).run Tryz.prog w= .ok (decide (s=z)) w:=by
 have hc:(decide (s.Id=z.Id)&&(decide (s.jd=z.jd)&&(decide (s.kR=z.kR)&&(decide (s.eA=z.eA)&&(decide (s.gp=z.gp)&&(decide (s.AP=z.AP)&&true))))))=decide (s=z):=by rw [AAB];simp [ai.ext_iff]
 rw [← hc];exact lz (d+2) Y5 w (gF w (dM vV U w) (dM vV U w) (j2 _ nZ w) (gF w (jN (vs:=aa.cells s.jd) zU U w) (jN (vs:=aa.cells z.jd) zU U w) (zD (d+0) s.jd z.jd w) (gF w (jN (vs:=aa.cells s.kR) zU U w) (jN (vs:=aa.cells z.kR) zU U w) (zD (d+0) s.kR z.kR w) (gF w (jN (vs:=aa.cells s.eA) zU U w) (jN (vs:=aa.cells z.eA) zU U w) (zD (d+0) s.eA z.eA w) (gF w (dM ZP U w) (dM ZP U w) (j2 _ ML w) (gF w (dM vV U w) (dM vV U w) (j2 _ nZ w) (qh w)))))))
theorem Xy (s z:ai):g8 Tryz.prog .neq 65 x y (.agg s.cells.toArray) (.agg z.cells.toArray) (.bool (!decide (s=z))):=q7 x y (pH Y5) fun w=>Xr 9997 s z w
theorem XR:fL Tryz.prog 85=some [(3,0),(3,1)]:=by kernel_rfl
theorem XJ (d:Nat) (s z:aZ) (w:World):(Op.equalIn (d+2) 85 (.agg s.cells.toArray) (.agg z.cells.toArray)).run Tryz.prog w= .ok (decide (s=z)) w:=by
 have hc:(decide (s.fR=z.fR)&&(decide (s.Read=z.Read)&&true))=decide (s=z):=by rw [AAB];simp [aZ.ext_iff]
 rw [← hc];exact lz (d+1) XR w (gF w (dM vV U w) (dM vV U w) (j2 _ nZ w) (gF w (dM vV U w) (dM vV U w) (j2 _ nZ w) (qh w)))
theorem X8 (s z:aZ):g8 Tryz.prog .neq 85 x y (.agg s.cells.toArray) (.agg z.cells.toArray) (.bool (!decide (s=z))):=q7 x y (pH XR) fun w=>XJ 9998 s z w
theorem bX:Tryz.prog.follows .mixedOrders=true:=by kernel_rfl
def TT:C9:=⟨[(1,false,1),(2,false,1),(3,false,1),(4,false,1),(5,false,1),(6,false,1),(7,true,4),(8,true,4),(12,false,1),(15,false,1),(16,false,1),(17,false,1),(18,true,1),(19,true,1),(21,false,1),(22,false,1),(23,true,1),(24,true,1),(25,false,1),(26,false,1),(27,true,7),(28,true,7),(29,false,1),(30,false,1),(31,true,11),(32,true,11),(33,false,1),(34,false,1),(35,true,15),(36,true,15),(37,true,2),(38,true,2),(39,false,1),(40,false,1),(41,false,1),(42,false,1),(43,false,1),(45,false,1),(47,false,1),(48,false,1),(49,true,3),(50,true,3),(51,true,7),(52,true,7),(53,false,1),(54,false,1),(56,false,1),(57,false,1),(58,false,1),(59,false,1),(61,false,1),(62,false,1),(63,false,1),(64,true,9),(65,true,9),(67,false,1),(68,false,1),(69,false,1),(71,false,1),(72,false,1),(73,false,1),(74,false,1),(75,true,15),(76,true,15),(78,false,1),(79,false,1),(80,false,1),(81,false,1),(82,false,1),(83,false,1),(84,true,2),(85,true,2),(86,false,1),(87,false,1),(89,false,1),(90,false,1),(91,false,1),(92,false,1),(93,false,1),(94,false,1),(95,false,1),(96,false,1),(97,true,13),(98,true,13),(99,false,1),(100,false,1),(101,false,1),(102,false,1),(104,false,1),(105,true,3),(106,true,3),(107,false,1),(108,true,2),(109,true,2),(110,true,3),(111,true,3),(112,true,4),(113,true,4),(114,false,1),(115,false,1),(116,false,1),(117,false,1),(118,false,1),(119,true,5),(120,true,5),(121,false,1),(122,false,1),(123,true,11),(124,true,11),(125,false,1),(126,false,1),(128,false,1),(129,false,1),(130,true,4),(131,true,4),(132,false,1),(133,false,1),(134,false,1),(135,false,1),(136,false,1),(137,false,1),(138,false,1),(139,false,1),(140,false,1),(141,false,1),(142,false,1),(143,false,1),(144,false,1),(145,false,1),(146,false,1),(147,false,1),(148,false,1),(149,false,1),(150,false,1),(151,false,1),(152,false,1),(153,false,1),(155,false,1),(156,false,1),(157,false,1),(158,false,1),(159,false,1),(160,false,1),(161,false,1),(162,false,1),(163,false,1),(164,false,1),(165,false,1),(166,false,1),(167,false,1),(168,false,1),(169,false,1),(171,false,1),(172,false,1),(173,false,1),(174,false,1),(175,false,1),(176,true,1),(177,true,1),(178,false,1),(179,true,8),(180,true,8),(181,false,1),(183,false,1),(184,false,1),(185,false,1),(186,false,1),(187,false,1),(188,false,1),(189,false,1),(190,false,1),(191,false,1),(192,true,1),(193,true,4),(194,false,1),(195,false,1),(196,false,1),(197,true,2),(198,true,2),(199,true,6),(200,false,1),(201,false,1),(202,false,1),(203,false,1),(204,false,1),(205,true,2),(206,false,1),(207,false,1),(208,false,1),(209,false,1),(210,false,1),(211,false,1),(213,false,1),(214,false,1),(215,false,1),(216,false,1),(218,false,1),(219,false,1),(220,false,1),(221,false,1),(222,false,1),(223,true,4),(224,true,4),(225,false,1),(226,false,1),(227,false,1),(228,true,2),(229,true,2),(230,true,8),(231,false,1),(233,true,13),(234,true,13),(236,false,1),(237,false,1),(238,false,1),(239,false,1),(240,false,1),(241,false,1),(242,false,1),(243,false,1),(244,false,1),(246,false,1),(247,false,1),(248,false,1),(249,false,1),(250,false,1),(251,false,1),(253,false,1),(254,false,1),(255,false,1),(256,false,1),(257,false,1),(258,false,1),(259,false,1),(260,false,1),(261,false,1),(262,false,1),(263,false,1),(264,false,1),(265,false,1),(266,false,1),(267,false,1),(268,true,1),(269,true,2),(270,false,1),(271,false,1),(272,true,1),(273,true,1),(275,false,1),(276,false,1),(278,false,1),(279,false,1),(280,false,1),(281,false,1),(282,false,1),(283,false,1),(284,false,1),(285,true,7),(286,true,7),(287,false,1),(288,false,1),(289,false,1),(290,false,1),(291,false,1),(292,false,1),(293,false,1),(294,false,1),(295,false,1),(296,false,1),(297,false,1),(298,false,1),(299,false,1),(300,false,1),(301,false,1),(303,false,1),(304,false,1),(305,false,1),(306,false,1),(307,false,1),(308,false,1),(309,false,1),(310,false,1),(311,false,1),(312,false,1),(313,false,1),(314,false,1),(315,false,1),(316,true,2),(317,true,2),(318,false,1),(319,true,2),(320,true,2),(322,false,1),(323,false,1),(324,false,1),(325,false,1),(326,true,4),(327,true,4),(328,false,1),(329,false,1),(330,false,1),(331,false,1),(332,true,3),(333,true,3),(334,false,1),(335,false,1),(337,false,1),(338,false,1),(339,false,1),(340,false,1),(341,false,1),(342,true,14),(343,true,14),(344,false,1),(345,false,1),(346,false,1),(347,true,2),(348,true,2),(349,false,1),(350,false,1),(351,false,1),(352,false,1),(353,true,2),(354,true,2),(355,false,1),(356,false,1),(357,false,1),(358,false,1),(359,false,1),(360,false,1),(361,false,1),(362,false,1),(363,false,1),(364,true,3),(365,true,3),(366,false,1),(367,true,3),(368,true,3),(369,false,1),(370,false,1),(371,false,1),(372,false,1),(373,false,1),(374,false,1),(375,false,1),(376,false,1),(377,false,1),(378,false,1),(379,false,1),(380,false,1),(381,false,1),(382,false,1),(385,true,0),(386,true,0),(387,true,0),(388,false,1),(389,false,1),(390,false,1),(391,false,1),(392,false,1),(393,false,1),(394,false,1),(395,true,11),(396,true,11),(398,false,1)],[(7,[some 0,some 1,some 2,some 3]),(8,[some 0,some 1,some 2,some 3]),(18,[some 0]),(19,[some 0]),(23,[some 0]),(24,[some 0]),(27,[some 0,some 1,some 2,some 3,some 4,some 5,some 6]),(28,[some 0,some 1,some 2,some 3,some 4,some 5,some 6]),(31,[some 0,some 7,some 8,some 9,some 10]),(32,[some 0,some 7,some 8,some 9,some 10]),(35,[some 0,some 11,some 12,some 13,some 14]),(36,[some 0,some 11,some 12,some 13,some 14]),(37,[some 0,some 1]),(38,[some 0,some 1]),(49,[some 0,some 1,some 2]),(50,[some 0,some 1,some 2]),(51,[some 0,some 1,some 2,some 4]),(52,[some 0,some 1,some 2,some 4]),(64,[some 0,some 1,some 3,some 5,some 7,some 8]),(65,[some 0,some 1,some 3,some 5,some 7,some 8]),(75,[some 0]),(76,[some 0]),(84,[some 0,some 1]),(85,[some 0,some 1]),(97,[some 0,some 11,some 12]),(98,[some 0,some 11,some 12]),(105,[some 0,some 1]),(106,[some 0,some 1]),(108,[some 0,some 1]),(109,[some 0,some 1]),(110,[some 0,some 1]),(111,[some 0,some 1]),(112,[some 0,some 3]),(113,[some 0,some 3]),(119,[some 0,some 1,some 2,some 3,some 4]),(120,[some 0,some 1,some 2,some 3,some 4]),(123,[some 0,some 1,some 3,some 5,some 7,some 9]),(124,[some 0,some 1,some 3,some 5,some 7,some 9]),(130,[some 0,some 1,some 2,some 3]),(131,[some 0,some 1,some 2,some 3]),(176,[some 0]),(177,[some 0]),(179,[some 0,some 1,some 2,some 3,some 4,some 5,some 6,some 7]),(180,[some 0,some 1,some 2,some 3,some 4,some 5,some 6,some 7]),(192,[some 0]),(197,[some 0,some 1]),(198,[some 0,some 1]),(223,[some 0,some 2,some 3]),(224,[some 0,some 2,some 3]),(228,[some 0,some 1]),(229,[some 0,some 1]),(233,[some 0,some 11,some 12]),(234,[some 0,some 11,some 12]),(268,[some 0]),(272,[some 0]),(273,[some 0]),(285,[some 0,some 1,some 2,some 4,some 6]),(286,[some 0,some 1,some 2,some 4,some 6]),(316,[some 0,some 1]),(317,[some 0,some 1]),(319,[some 0,some 1]),(320,[some 0,some 1]),(326,[some 0,some 2]),(327,[some 0,some 2]),(332,[some 0,some 1]),(333,[some 0,some 1]),(342,[some 0,some 7,some 10,some 11,some 12,some 13]),(343,[some 0,some 7,some 10,some 11,some 12,some 13]),(347,[some 0,some 1]),(348,[some 0,some 1]),(353,[some 0,some 1]),(354,[some 0,some 1]),(364,[some 0,some 1,some 2]),(365,[some 0,some 1,some 2]),(367,[some 0,some 1,some 2]),(368,[some 0,some 1,some 2]),(395,[some 0,some 1,some 2,some 3,some 4,some 5,some 6,some 7,some 8,some 9,some 10]),(396,[some 0,some 1,some 2,some 3,some 4,some 5,some 6,some 7,some 8,some 9,some 10])],[22,25,26,29,30,33,34,42,48,68,96,102,107,175,178,196,281,284,289,309,335,339,340,341,363]⟩
theorem pw:k7 Tryz.prog TT:=VS kr
theorem bP {t:TypeId} {x:Bool×Nat} (h:TT.OF t=some x:=by rfl):tK Tryz.prog t=some x:=pw.OF h
theorem eB {s:Nat} (h:TT.foF s f=some k:=by rfl):vR Tryz.prog s f=some k:=pw.foF h
end
section
open Go.RowKit
/-- blocks that are read -/
def MM (C:List ar) (M:List (Nat×List Value)):Prop:= ∀ p∈M,∀ o vs,(p.2.drop o).take vs.length=vs→At C (some ⟨p.1,o,none⟩) vs
theorem mn:MM C []:=fun p h=>by cases h
theorem mc (i:Nat) (hC:C[i]? =some (cb b t cs)) (h:MM C M):MM C ((b,cs)::M):=fun p hp o vs hv=>by
 rcases bH.1 hp with rfl|hp
 ·exact rW i hC hv
 ·exact h p hp o vs hv
theorem mr (i:Nat) (hC:C[i]? =some (cb b t cs).ro) (h:MM C M):MM C ((b,cs)::M):=fun p hp o vs hv=>by
 rcases bH.1 hp with rfl|hp
 ·exact zi i hC hv
 ·exact h p hp o vs hv
def oP:List Prop→Prop
 |[]=>True
 |p::l=>p∧oP l
theorem jG {p:Prop} {l:List Prop} (h:p) (h2:oP l):oP (p::l):=⟨h,h2⟩
/-- the value of an operation, what it asks for, and what is left of the list of places -/
def pv (T:C9) (ops:Array Oper) (M:List (Nat×List Value)) (L:dH) (hs:List Nat) (g:Option (Nat×Bool)) (op:Op):Option (Value×List Prop×List Nat):=
 match GD ops L g with
 |true=>some (undef,[],hs)
 |false=>match kB ops L g with
  |false=>none
  |true=>match op with
   | .move x=>match ev L x with
    |some v=>some (v,[],hs)
    |none=>none
   | .assign x=>match ev L x with
    |some v=>some (v,[],hs)
    |none=>none
   | .pick c x y=>match ev L c with
    |some (.bool true)=>match ev L x with
     |some v=>some (v,[],hs)
     |none=>none
    |some (.bool false)=>match ev L y with
     |some v=>some (v,[],hs)
     |none=>none
    |_=>none
   | .unOp .not _ x=>match ev L x with
    |some (.bool b)=>some (.bool !b,[],hs)
    |_=>none
   | .extract x i=>match ev L x with
    |some (.tuple vs)=>match vs.toList[i]? with
     |some v=>some (v,[],hs)
     |none=>none
    |_=>none
   | .fieldAddr s x f=>match ev L x with
    |some (.pointer (some ⟨b,o,none⟩))=>match T.foF s f with
     |some k=>some (.pointer (some ⟨b,o+k,none⟩),[],hs)
     |none=>none
    |_=>none
   | .binOp op _ x y _=>match ev L x with
    |some (.int .i64 a)=>match ev L y with
     |some (.int .i64 b)=>match op with
      | .lss=>some (.bool (decide (a<b)),[],hs)
      | .leq=>some (.bool (decide (a≤b)),[],hs)
      | .gtr=>some (.bool (decide (b<a)),[],hs)
      | .geq=>some (.bool (decide (b≤a)),[],hs)
      | .eql=>some (.bool (decide (a=b)),[],hs)
      | .neq=>some (.bool (!decide (a=b)),[],hs)
      | .add=>some (.int .i64 (a+b),[-9223372036854775808≤a+b,a+b≤9223372036854775807],hs)
      | .sub=>some (.int .i64 (a-b),[-9223372036854775808≤a-b,a-b≤9223372036854775807],hs)
      |_=>none
     |_=>none
    |_=>none
   | .load t x=>match ev L x with
    |some (.pointer (some ⟨b,o,none⟩))=>match M[hs.headD 0]? with
     |some (b',cs)=>match T.OF t with
      |some (false,_)=>match cs[o]? with
       |some v=>some (v,[b'=b],hs.tail)
       |none=>none
      |some (true,n)=>match beq o 0 with
       |true=>match beq cs.length n with
        |true=>some (.agg cs.toArray,[b'=b],hs.tail)
        |false=>none
       |false=>none
      |none=>none
     |none=>none
    |_=>none
   | .call c=>match c with
    |{callee:= .builtin .len,args:=xs,argTypes:=ts}=>match xs.toList with
     |[x]=>match ts.toList with
      |[t]=>match ev L x with
       |some (.slice A n c)=>match Q3 T.sl t with
        |true=>some (.int .i64 n,[],hs)
        |false=>none
       |_=>none
      |_=>none
     |_=>none
    |_=>none
   |_=>none
section
variable {E:fM} {T:C9} {ops:Array Oper} {M:List (Nat×List Value)} {D:List Deferred} {L:List (Nat×Value)} {C:List ar} {hs hs':List Nat}
theorem yI (h:cs[o]? =some v):(cs.drop o).take [v].length=[v]:=by
 obtain ⟨hl,rfl⟩:=aR.1 h;rw [u1 hl];rfl
theorem Ua {o:Oper} {S:List Prop} (hT:k7 E.P T) (hM:MM C M) (h:pv T ops M L hs o.guard o.op=some (v,S,hs')) (hS:oP S):SD E ops o D L C v:=by
 obtain ⟨dst,op,ty,ps,af,g⟩:=o;unfold pv at h;simp only at h;split at h
 ·rename_i hg;cases h;exact M6 hg
 ·split at h
  ·cases h
  ·rename_i hg;split at h
   ·split at h
    ·rename_i hx;cases h;exact Jt hg hx
    ·cases h
   ·split at h
    ·rename_i hx;cases h;exact B1 hg hx
    ·cases h
   ·split at h
    ·rename_i hc;split at h
     ·rename_i hx;cases h;exact CN hg hc hx
     ·cases h
    ·rename_i hc;split at h
     ·rename_i hx;cases h;exact C7 hg hc hx
     ·cases h
    ·cases h
   ·split at h
    ·rename_i hx;cases h;exact PL hg hx
    ·cases h
   ·split at h
    ·rename_i vs hx;split at h
     ·rename_i v' hv;cases h;exact Bk (vs:=vs.toList) hg (by simpa using hx) hv
     ·cases h
    ·cases h
   ·split at h
    ·rename_i hx;split at h
     ·rename_i hk;cases h;exact TH hg hx (hT.foF hk) rfl
     ·cases h
    ·cases h
   ·split at h
    ·rename_i hx;split at h
     ·rename_i hy;split at h
      ·cases h;exact ck hg hx hy g_
      ·cases h;exact ck hg hx hy Iz
      ·cases h;exact ck hg hx hy Ot
      ·cases h;exact ck hg hx hy Gy
      ·cases h;exact ck hg hx hy nt
      ·cases h;exact ck hg hx hy nm
      ·cases h;exact ck hg hx hy (jw ⟨hS.1,hS.2.1⟩)
      ·cases h;exact ck hg hx hy (wK ⟨hS.1,hS.2.1⟩)
      ·cases h
     ·cases h
    ·cases h
   ·split at h
    ·rename_i hx;split at h
     ·rename_i b' cs hm;have A:=aF hm;split at h
      ·rename_i hk;split at h
       ·rename_i hv;cases h;obtain rfl:=hS.1;exact xI hg hx (hT.OF hk) (hM _ A _ _ (yI hv))
       ·cases h
      ·rename_i n hk;split at h
       ·rename_i ho;split at h
        ·rename_i hn;cases h;obtain rfl:=hS.1;have H:=AAL ho;subst H;exact Bp hg hx (hT.OF hk) (hM _ A 0 cs sm) (AAL hn)
        ·cases h
       ·cases h
      ·cases h
     ·cases h
    ·cases h
   ·split at h
    ·rename_i xs ts;split at h
     ·rename_i x G;split at h
      ·rename_i t F;split at h
       ·rename_i hx;split at h
        ·rename_i B;cases h;obtain ⟨e,he⟩:=hT.sl t (Gs B);have AA:xs= #[x]:=by apply ABX;simpa using G
         have J:ts= #[t]:=by apply ABX;simpa using F
         subst AA J;exact Pb hg hx he
        ·cases h
       ·cases h
      ·cases h
     ·cases h
    ·cases h
   ·cases h
def pr (T:C9) (n:Nat) (ops:Array Oper) (M:List (Nat×List Value)):Nat→List Nat→dH→List Oper→Option (dH×List Oper×List Prop)
 |0,_,L,rest=>some (L,rest,[])
 |k+1,hs,L,[]=>none
 |k+1,hs,L,o::rest=>match o.dst with
  |none=>none
  |some d=>match blt d n with
   |false=>none
   |true=>match pv T ops M L hs o.guard o.op with
    |none=>none
    |some (v,S,hs')=>match pr T n ops M k hs' ((d,v)::L) rest with
     |none=>none
     |some (L',rest',S')=>some (L',rest',S++S')
theorem w4: ∀ {S S':List Prop},oP (S++S')→oP S∧oP S'
 |[],S',h=>⟨trivial,h⟩
 |p::S,S',h=>⟨⟨h.1,(w4 h.2).1⟩,(w4 h.2).2⟩
/-- whatever is closed under single steps -/
theorem T_ {J:List Oper→dH→Prop} (hT:k7 E.P T) (hM:MM C M) (hJ: ∀ o rest L d v,SD E ops o D L C v→o.dst=some d→blt d E.n=true→J rest ((d,v)::L)→J (o::rest) L):
 ∀ (k:Nat) (hs:List Nat) (L:dH) (rest:List Oper) {L':dH} {rest':List Oper} {S:List Prop},pr T E.n ops M k hs L rest=some (L',rest',S)→oP S→J rest' L'→J rest L
 |0,hs,L,rest,L',rest',S,h,hS,hj=>by
  unfold pr at h;cases h;exact hj
 |k+1,hs,L,[],L',rest',S,h,hS,hj=>by unfold pr at h;cases h
 |k+1,hs,L,o::rest,L',rest',S,h,hS,hj=>by
  unfold pr at h;split at h
  ·cases h
  ·rename_i d hd;split at h
   ·cases h
   ·rename_i hn;split at h
    ·cases h
    ·rename_i v S1 A hv;split at h
     ·cases h
     ·rename_i L1 G S2 hr;cases h;obtain ⟨B,F⟩:=w4 hS;exact hJ o rest L d v (Ua hT hM hv B) hd hn (T_ hT hM hJ k A _ rest hr F hj)
variable {Q:dk} {rest rest':List Oper} {L0 L':List (Nat×Value)} {S:List Prop} {F:List (Nat×Value)→Prop}
theorem dP (k:Nat) (hs:List Nat) (hM:MM C M) (j:DJ E ops D C F rest' L') (hT:k7 E.P T:=by exact pw) (h:pr T E.n ops M k hs L rest=some (L0,rest',S):=by rfl) (hL:L0=L':=by (try dsimp only)<;>rfl) (hS:oP S:=by repeat' first|exact True.intro |refine jG ?_ ?_ |exact rfl|omega|(dsimp only;omega)):DJ E ops D C F rest L:=by
 subst hL;exact T_ (J:=fun r L=>DJ E ops D C F r L) hT hM (fun o rest L d v A B G H=>Zt A B G H) k hs L rest h hS j
end
section
variable {P:Program} {r:Option Nat} {n:Nat} {B:BS} {w0:World} {ops:Array Oper} {M:List (Nat×List Value)} {D:List Deferred} {L L':List (Nat×Value)} {C:List ar} {Q:dk} {rest rest':List Oper} {S:List Prop} {F:List (Nat×Value)→Prop}
theorem jZ (k:Nat) (hs:List Nat) (hM:MM C M) (h:pr TT n ops M k hs L rest=some (L',rest',S)) (j:DJ ⟨P,r,n,B,w0⟩ ops D C F rest' L') (hS:oP S:=by repeat' first|exact True.intro |refine jG ?_ ?_ |exact rfl|omega|(dsimp only;omega)) (hT:k7 P TT:=by exact pw):DJ ⟨P,r,n,B,w0⟩ ops D C F rest L:=dP k hs hM j hT h rfl hS
theorem iR (k:Nat) (h:pr TT n ops [] k [] L rest=some (L',rest',S)) (j:DJ ⟨P,r,n,B,w0⟩ ops D C F rest' L') (hS:oP S:=by repeat' first|exact True.intro |refine jG ?_ ?_ |exact rfl|omega|(dsimp only;omega)) (hT:k7 P TT:=by exact pw):DJ ⟨P,r,n,B,w0⟩ ops D C F rest L:=dP k [] mn j hT h rfl hS
end
end
section
open Go.RowKit
/-- parts of a context, reckoned to the end -/
def m_ (C:List ar):List Nat→Option (List ar)
 |[]=>some []
 |i::is=>match C[i]? with
  |some A=>match m_ C is with
   |some l=>some (A::l)
   |none=>none
  |none=>none
theorem j3 {C:List ar}: ∀ {is:List Nat} {C':List ar},m_ C is=some C'→kT C is=C'
 |[],C',h=>by cases h;rfl
 |i::is,C',h=>by
  unfold m_ at h;split at h
  ·rename_i A hA;split at h
   ·rename_i l hl;cases h;show List.filterMap (C[·]?) (i::is)=A::l
    rw [List.filterMap_cons_some hA];exact c7 _ (j3 hl)
   ·cases h
  ·cases h
/-- a part of a context in place of the whole -/
theorem aB (is:List Nat) (hn:decide is.Nodup=true:=by rfl) (hC:kT C is=C':=by rfl): ∀ w,St S w0 C w→St S w0 C' w:=fun w h=>St.kT is hn hC h
theorem Zf (is:List Nat) (hC:m_ C is=some C') (hn:decide is.Nodup=true:=by rfl): ∀ w,St S w0 C w→St S w0 C' w:=fun w h=>St.kT is hn (j3 hC) h
def TD (C:List ar) (i:Nat) (B:ar):Option (List ar):=match i,C with
 |0,_::C=>some (B::C)
 |i+1,A::C=>match TD C i B with
  |some l=>some (A::l)
  |none=>none
 |_,[]=>none
theorem Jn: ∀ {C:List ar} {i:Nat} {B:ar} {C':List ar},TD C i B=some C'→C.set i B=C'
 |[],0,B,C',h=>by cases h
 |[],i+1,B,C',h=>by cases h
 |A::C,0,B,C',h=>by cases h;rfl
 |A::C,i+1,B,C',h=>by
  unfold TD at h;split at h
  ·rename_i l hl;cases h;exact c7 _ (Jn hl)
  ·cases h
theorem iM {A:ar} (i:Nat) (hC:C[i]? =some A) (hh:(∀ w,A.holds w→B.holds w)∧(∀ b,B.fP b→A.fP b)∧ ∀ b,B.wf b→A.wf b) (hC':TD C i B=some C') (h:KJ E K D L C'):KJ E K D L C:=O9 i hC hh (Jn hC') h
/-- the operations of a region but these; marks of some places -/
def aao (n:Nat) (T:List Nat):List Nat:=(range n).filter fun i=> !T.contains i
def mkO (k:Nat) (t:List Nat):List Bool:=(range k).map fun i=>t.contains i
theorem cP {id:Nat} (hm:E.P.follows .mixedOrders=true) (T fe tb i1 i2:List Nat) {free:List Nat} {feb tbb:List Bool} (h1:m_ C i1=some C') (h2:m_ C i2=some C1) (hf:free=aao ops.size T) (hfe:feb=mkO free.length fe) (htb:tbb=mkO T.length tb) (h:uO E ops D C' C1 (fun L'=>TJ E ops D C' C1 (fun L C=>KJ E (Q .normal) D L C) tbb (fz ops T) L' C) feb (fz ops free) L) (hc:RR ops free T feb tbb=true:=by kernel_rfl) (n1:decide i1.Nodup=true:=by rfl) (n2:decide i2.Nodup=true:=by rfl):WJ E (.region id ops true) Q D L C:=
 Sh hm free T feb tbb C' C1 hc (Zf i1 h1 n1) (Zf i2 h2 n2) h
end
section
open Go.RowKit
def zd (T:C9) (M:List (Nat×List Value)) (L:dH):List ResultVar→List Nat→Option (List Value×List Prop)
 |[],_=>some ([],[])
 | .tmp t::rs,hs=>match L.lookup t with
  |some v=>match zd T M L rs hs with
   |some (vs,S)=>some (v::vs,S)
   |none=>none
  |none=>none
 | .cell a t::rs,hs=>match L.lookup a with
  |some (.pointer (some ⟨b,o,none⟩))=>match M[hs.headD 0]? with
   |some (b',cs)=>match T.OF t with
    |some (false,_)=>match cs[o]? with
     |some v=>match zd T M L rs hs.tail with
      |some (vs,S)=>some (v::vs,(b'=b)::S)
      |none=>none
     |none=>none
    |some (true,n)=>match beq o 0 with
     |true=>match beq cs.length n with
      |true=>match zd T M L rs hs.tail with
       |some (vs,S)=>some (.agg cs.toArray::vs,(b'=b)::S)
       |none=>none
      |false=>none
     |false=>match zd T M L rs hs.tail with
      |some (vs,S)=>some (.agg ((cs.drop o).take n).toArray::vs,(b'=b)::(((cs.drop o).take n).length=n)::S)
      |none=>none
    |none=>none
   |none=>none
  |_=>none
theorem pY {P:Program} {T:C9} {M:List (Nat×List Value)} {L:dH} {C:List ar} (hT:k7 P T) (hM:MM C M): ∀ (rs:List ResultVar) (hs:List Nat) {vs:List Value} {S:List Prop},zd T M L rs hs=some (vs,S)→oP S→Mn P L C rs vs
 |[],_,vs,S,h,hS=>by unfold zd at h;cases h;exact trivial
 | .tmp t::rs,hs,vs,S,h,hS=>by
  unfold zd at h;split at h
  ·rename_i v hv;split at h
   ·rename_i vs' S' hr;cases h;exact ⟨hv,pY hT hM rs hs hr hS⟩
   ·cases h
  ·cases h
 | .cell a t::rs,hs,vs,S,h,hS=>by
  unfold zd at h;split at h
  ·rename_i b o hl;split at h
   ·rename_i b' cs hm;have A:=aF hm;split at h
    ·rename_i hk;split at h
     ·rename_i v hv;split at h
      ·rename_i vs' S' hr;cases h;obtain ⟨rfl,hS⟩:=hS;exact ⟨⟨_,hl,.inr ⟨_,hT.OF hk,hM _ A _ _ (yI hv)⟩⟩,pY hT hM rs _ hr hS⟩
      ·cases h
     ·cases h
    ·rename_i n hk;split at h
     ·rename_i ho;split at h
      ·rename_i hn;split at h
       ·rename_i vs' S' hr;cases h;obtain ⟨rfl,hS⟩:=hS;have D:=AAL ho;subst D;exact ⟨⟨_,hl,.inl ⟨_,cs,hT.OF hk,hM _ A 0 cs sm,AAL hn,U⟩⟩,pY hT hM rs _ hr hS⟩
       ·cases h
      ·cases h
     ·split at h
      ·rename_i vs' S' hr;cases h;obtain ⟨rfl,B,hS⟩:=hS;exact ⟨⟨_,hl,.inl ⟨_,_,hT.OF hk,hM _ A o _ (by rw [B]),B,U⟩⟩,pY hT hM rs _ hr hS⟩
      ·cases h
    ·cases h
   ·cases h
  ·cases h
section
variable {P:Program} {n:Nat} {fn:Func} {w0:World} {K:Act→World→Prop} {L:List (Nat×Value)} {C:List ar} {M:List (Nat×List Value)} {vs:List Value} {S:List Prop} {u x v:Value}
theorem GG (hQ: ∀ D L C,LJ ⟨P,none,n,rN,w0⟩ fn (AI w0 v) D L C→KJ ⟨P,none,n,rN,w0⟩ K D L C) (hs:List Nat) (hM:MM C M) (h:zd TT M L fn.results.toList hs=some ([u],S)) (e:u=v) (hS:oP S:=by repeat' first|exact True.intro |refine jG rfl ?_) (hT:k7 P TT:=by exact pw):KJ ⟨P,none,n,rN,w0⟩ K [] L C:=
 hQ _ _ _ (g4 (pY hT hM _ _ h hS) fun w hs=>Hr e hs)
theorem mU (hQ: ∀ D L C,LJ ⟨P,none,n,rN,w0⟩ fn (AI w0 v) D L C→KJ ⟨P,none,n,rN,w0⟩ K D L C) (hs:List Nat) (hM:MM C M) (h:zd TT M L fn.results.toList hs=some (u::x::vs,S)) (e:Value.tuple (u::x::vs).toArray=v) (hS:oP S:=by repeat' first|exact True.intro |refine jG rfl ?_) (hT:k7 P TT:=by exact pw):KJ ⟨P,none,n,rN,w0⟩ K [] L C:=
 hQ _ _ _ (g4 (pY hT hM _ _ h hS) fun w hs=>Hr e hs)
theorem LX {V:α→Value} {p:α→Prop} {N:α→List ar} (hQ:∀ D L C,LJ ⟨P,none,n,rN,w0⟩ fn (N6 w0 V p N) D L C→KJ ⟨P,none,n,rN,w0⟩ K D L C) (x:α) (is hs:List Nat) (hM:MM C M) (h:zd TT M L fn.results.toList hs=some (vs,S)) (hw:(N x).all (·.wr)=true) (hN:kT C is=N x) (hV:WO vs=V x) (hp:p x) (hn:decide is.Nodup=true:=by rfl) (hS:oP S:=by repeat' first|exact True.intro |refine jG rfl ?_) (hT:k7 P TT:=by exact pw):KJ ⟨P,none,n,rN,w0⟩ K [] L C:=
 hQ _ _ _ (g4 (pY hT hM _ _ h hS) fun w hs=>EO x is hV hp hn hN hw hs)
theorem LM {A:ar} {V:α→Value} {p:α→Prop} {A':α→ar} (hQ:∀ D L C,LJ ⟨P,none,n,⟨A.wf,fun _=>True⟩,w0⟩ fn (RQ w0 A V p A') D L C→KJ ⟨P,none,n,⟨A.wf,fun _=>True⟩,w0⟩ K D L C) (x:α) (i:Nat) (hs:List Nat) (hM:MM C M) (h:zd TT M L fn.results.toList hs=some (vs,S)) (hw:(A' x).wr=true) (hC:C[i]? =some (A' x)) (hV:WO vs=V x) (hp:p x) (hS:oP S:=by repeat' exact True.intro) (hT:k7 P TT:=by exact pw):KJ ⟨P,none,n,⟨A.wf,fun _=>True⟩,w0⟩ K [] L C:=
 hQ _ _ _ (g4 (pY hT hM _ _ h hS) fun w hs=>Xa x i hV hp hC hw hs)
end
end
section
open Go.RowKit
def Iq {α:Type _}:List α→List α→Option (List α)
 |[],m=>some m
 |a::l,m=>match Iq l m with
  |some r=>some (a::r)
  |none=>none
theorem JT {α:Type _}: ∀ {l m r:List α},Iq l m=some r→l++m=r
 |[],m,r,h=>by cases h;rfl
 |a::l,m,r,h=>by
  unfold Iq at h;split at h
  ·rename_i r' hr;cases h;exact c7 (a:: ·) (JT hr)
  ·cases h
def ZL (L:dH):List Nat→Option (dH)
 |[]=>some []
 |t::ts=>match L.lookup t with
  |some v=>match ZL L ts with
   |some r=>some ((t,v)::r)
   |none=>none
  |none=>none
theorem Jb {L M:dH} (k:cS L M): ∀ {ts:List Nat} {r:dH},ZL L ts=some r→cS L (r++M)
 |[],r,h=>by cases h;exact k
 |t::ts,r,h=>by
  unfold ZL at h;split at h
  ·rename_i v hv;split at h
   ·rename_i r' hr;cases h;exact cS.cons hv (Jb k hr)
   ·cases h
  ·cases h
section
variable {E:fM} {Q:dk} {D:List Deferred} {L L0:List (Nat×Value)} {C C0:List ar} {ι:Type} {Li:ι→List (Nat×Value)} {Ci:ι→List ar}
theorem bu {c:Code} (kL kC:List Nat) (hL:ZL L kL=some L0) (hC0:m_ C kC=some C0) (S:ι→dH) (G:ι→List ar) (hLi: ∀ x,Iq L0 (S x)=some (Li x)) (hCi: ∀ x,Iq C0 (G x)=some (Ci x)) (μ:ι→Nat) (x0:ι)
 (h0:cS L (S x0)) (hC: ∀ w,St E.S E.w0 C w→St E.S E.w0 (Ci x0) w)
 (round: ∀ x (J:Act→World→Prop),(∀ y D' L' C',D'=D→μ y<μ x→cS L' (Li y)→(∀ w,St E.S E.w0 C' w→St E.S E.w0 (Ci y) w)→KJ E J D' L' C')→WJ E c (Exit.then J Q) D (Li x) (Ci x)):WJ E (.loop c) Q D L C:=
 Vt Li Ci μ x0 (JT (hLi x0)▸Jb h0 hL) hC round
theorem nV {x y:Code} (kL kC:List Nat) (hL:ZL L kL=some L0) (hC0:m_ C kC=some C0) (S:ι→dH) (G:ι→List ar) (hLi: ∀ x,Iq L0 (S x)=some (Li x)) (hCi: ∀ x,Iq C0 (G x)=some (Ci x))
 (hy: ∀ z,WJ E y Q D (Li z) (Ci z)) (h: ∀ K:Act→World→Prop,(∀ z,KJ E K D (Li z) (Ci z))→WJ E x (Exit.then K Q) D L C):WJ E (.seq x y) Q D L C:=Vz Li Ci hy h
end
end
section
open Go.RowKit
/-- a way out that is not the plain one -/
def noN:Exit→Bool
 | .normal=>false
 |_=>true
/-- what is still to be run: code, or a block's end -/
abbrev Ed:=List (Code ⊕ Nat)
/-- what runs now: code, the rest of a region, or a way out -/
abbrev K2:=Code ⊕ (Array Oper×List Oper) ⊕ Exit
def Kt (P:Program) (r:Option Nat):Ed→dk→dk
 |[],Q=>Q
 | .inl y::s,Q=>Exit.then (y.wpIn (Fw r) 0 P (Kt P r s Q)) (Kt P r s Q)
 | .inr id::s,Q=>Exit.inBlock id (Kt P r s Q)
def FJ (E:fM) (Q:dk) (D:iF) (C:List ar):K2→Ed→dH→Prop
 | .inl c,s,L=>WJ E c (Kt E.P E.r s Q) D L C
 | .inr (.inl (ops,rest)),s,L=>RJ E ops (Kt E.P E.r s Q) rest D L C
 | .inr (.inr e),s,L=>KJ E (Kt E.P E.r s Q e) D L C
def WN (id:Nat):Ed→K2×Ed
 |[]=>(.inr (.inr (.exit id)),[])
 | .inl _::s=>WN id s
 | .inr i::s=>match beq id i with
  |true=>(.inr (.inr .normal),s)
  |false=>WN id s
def g1 (T:C9) (n:Nat) (M:List (Nat×List Value)) (hs:List Nat) (L:dH):K2→Ed→Option (K2×Ed×dH×List Prop×List Nat)
 | .inl c,s=>match c with
  | .seq x y=>some (.inl x,.inl y::s,L,[],hs)
  | .block id x=>some (.inl x,.inr id::s,L,[],hs)
  | .skip=>some (.inr (.inr .normal),s,L,[],hs)
  | .label _=>some (.inr (.inr .normal),s,L,[],hs)
  | .ret=>some (.inr (.inr .ret),[],L,[],hs)
  | .exit id=>match WN id s with
   |(f,s)=>some (f,s,L,[],hs)
  | .region _ ops d=>match d with
   |false=>some (.inr (.inl (ops,ops.toList)),s,L,[],hs)
   |true=>none
  | .cond x y z=>match ev L x with
   |some (.bool true)=>some (.inl y,s,L,[],hs)
   |some (.bool false)=>some (.inl z,s,L,[],hs)
   |_=>none
  |_=>none
 | .inr (.inl (ops,[])),s=>some (.inr (.inr .normal),s,L,[],hs)
 | .inr (.inl (ops,o::rest)),s=>match o.dst with
  |none=>match GD ops L o.guard with
   |true=>some (.inr (.inl (ops,rest)),s,L,[],hs)
   |false=>none
  |some d=>match blt d n with
   |false=>none
   |true=>match pv T ops M L hs o.guard o.op with
    |none=>none
    |some (v,S,hs')=>some (.inr (.inl (ops,rest)),s,(d,v)::L,S,hs')
 | .inr (.inr e),s=>match e with
  | .normal=>match s with
   | .inl y::s=>some (.inl y,s,L,[],hs)
   | .inr _::s=>some (.inr (.inr .normal),s,L,[],hs)
   |[]=>none
  | .exit id=>match WN id s with
   |(f,s)=>some (f,s,L,[],hs)
  | .ret=>some (.inr (.inr .ret),[],L,[],hs)
  |_=>none
section
variable {E:fM} {T:C9} {Q:dk} {M:List (Nat×List Value)} {D:List Deferred} {L L' L0:List (Nat×Value)} {C:List ar} {hs hs':List Nat} {f f':K2} {s s':Ed} {S:List Prop}
theorem zp: ∀ (s:Ed),Kt E.P E.r s Q .ret=Q .ret
 |[]=>rfl
 | .inl _::s=>zp s
 | .inr _::s=>zp s
theorem Dv (id:Nat): ∀ (s:Ed),FJ E Q D C (WN id s).1 (WN id s).2 L→KJ E (Kt E.P E.r s Q (.exit id)) D L C
 |[],h=>h
 | .inl _::s,h=>Dv id s h
 | .inr i::s,h=>by
  unfold WN at h;split at h
  ·rename_i hb;obtain rfl:=AAL hb;exact Gd h
  ·rename_i hb;exact D8 hb (Dv id s h)
theorem Zg (hT:k7 E.P T) (hM:MM C M) (h:g1 T E.n M hs L f s=some (f',s',L',S,hs')) (hS:oP S) (j:FJ E Q D C f' s' L'):FJ E Q D C f s L:=by
 obtain c|⟨ops,rest⟩|e:=f
 ·cases c with
  |seq x y=>cases h;exact fun a w hf hs=>wpIn_seq (j a w hf hs)
  |block id x=>cases h;exact Su j
  |skip=>cases h;exact V2 j
  |label l=>cases h;exact Sp j
  |ret=>cases h;exact Ys (by rw [zp];exact j)
  |exit id=>cases h;exact Vi (Dv id s j)
  |region i ops d=>
   cases d with
   |false=>cases h;exact Pz j
   |true=>cases h
  |cond x y z=>
   simp only [g1] at h;split at h
   ·rename_i hx;cases h;exact KQ hx j
   ·rename_i hx;cases h;exact H2 hx j
   ·cases h
  |_=>cases h
 ·cases rest with
  |nil=>cases h;exact j
  |cons o rest=>
   simp only [g1] at h;split at h
   ·rename_i hd;split at h
    ·rename_i hg;cases h;exact GO hg hd j
    ·cases h
   ·rename_i d hd;split at h
    ·cases h
    ·rename_i hn;split at h
     ·cases h
     ·rename_i v S1 A hv;cases h;exact Yp (Ua hT hM hv hS) hd hn j
 ·cases e with
  |normal=>
   match s,h with
   | .inl y::s,h=>cases h;exact j
   | .inr _::s,h=>cases h;exact j
  |exit id=>cases h;exact Dv id s j
  |ret=>cases h;show KJ E (Kt E.P E.r s Q .ret) D L C;rw [zp];exact j
  |_=>cases h
end
def gs (T:C9) (n:Nat) (M:List (Nat×List Value)):Nat→List Nat→dH→K2→Ed→Option (K2×Ed×dH×List Prop)
 |0,_,L,f,s=>some (f,s,L,[])
 |k+1,hs,L,f,s=>match g1 T n M hs L f s with
  |none=>none
  |some (f1,s1,L1,S,hs')=>match gs T n M k hs' L1 f1 s1 with
   |none=>none
   |some (f2,s2,L2,S')=>some (f2,s2,L2,S++S')
section
variable {E:fM} {T:C9} {Q:dk} {M:List (Nat×List Value)} {D:List Deferred} {L L' L0:List (Nat×Value)} {C:List ar} {f f':K2} {s s':Ed} {S:List Prop}
theorem NA (hT:k7 E.P T) (hM:MM C M): ∀ (k:Nat) (hs:List Nat) (L:dH) (f:K2) (s:Ed) {f':K2} {s':Ed} {L':dH} {S:List Prop},gs T E.n M k hs L f s=some (f',s',L',S)→oP S→FJ E Q D C f' s' L'→FJ E Q D C f s L
 |0,hs,L,f,s,f',s',L',S,h,hS,j=>by cases h;exact j
 |k+1,hs,L,f,s,f',s',L',S,h,hS,j=>by
  simp only [gs] at h;split at h
  ·cases h
  ·rename_i B H L1 S1 A F;split at h
   ·cases h
   ·rename_i AA J L2 S2 G;cases h;obtain ⟨a,b⟩:=w4 hS;exact Zg hT hM F a (NA hT hM k A L1 B H G b j)
end
/-- a start: what is asked there follows from what is asked of the machine -/
def Sg (E:fM) (Q:dk) (D:iF) (C:List ar) (f:K2) (s:Ed) (L:dH) (G:Prop):Prop:=FJ E Q D C f s L→G
section
variable {P:Program} {r:Option Nat} {n:Nat} {B:BS} {w0:World} {ops:Array Oper} {Q:dk} {D:List Deferred} {L:List (Nat×Value)} {C:List ar} {s:Ed} {rest:List Oper} {c:Code} {e:Exit} {J:Act→World→Prop}
theorem bS:Sg ⟨P,r,n,B,w0⟩ Q D C (.inl c) [] L (WJ ⟨P,r,n,B,w0⟩ c Q D L C):=id
theorem aW:Sg ⟨P,r,n,B,w0⟩ Q D C (.inl c) s L (WJ ⟨P,r,n,B,w0⟩ c (Kt P r s Q) D L C):=id
theorem aj:Sg ⟨P,r,n,B,w0⟩ Q D C (.inr (.inl (ops,rest))) s L (RJ ⟨P,r,n,B,w0⟩ ops (Kt P r s Q) rest D L C):=id
theorem jE:Sg ⟨P,r,n,B,w0⟩ Q D C (.inr (.inr e)) s L (KJ ⟨P,r,n,B,w0⟩ (Kt P r s Q e) D L C):=id
theorem fD (he:noN e=true:=by rfl):Sg ⟨P,r,n,B,w0⟩ Q D C (.inr (.inr e)) s L (KJ ⟨P,r,n,B,w0⟩ (Exit.then J (Kt P r s Q) e) D L C):=fun h=>by cases e<;>first|exact h|cases he
end
def ZU:List ResultVar→dH→Option Value
 |[.tmp t],L=>L.lookup t
 |_,_=>none
section
variable {P:Program} {r:Option Nat} {n:Nat} {B:BS} {w0:World} {Q:dk} {M:List (Nat×List Value)} {D:List Deferred} {L L' L0:List (Nat×Value)} {C:List ar} {f f':K2} {s s':Ed} {S:List Prop} {G:Prop} {u v:Value} {fn:Func} {K:Act→World→Prop}
/-- at a line's end: what is left in order -/
theorem cm (st:Sg ⟨P,r,n,B,w0⟩ Q D C f s L G) (k:Nat) (hs:List Nat) (hM:MM C M) (j:FJ ⟨P,r,n,B,w0⟩ Q D C f' s' L') (hT:k7 P TT:=by exact pw) (h:gs TT n M k hs L f s=some (f',s',L0,S):=by rfl) (hL:L0=L':=by (try dsimp only)<;>rfl) (hS:oP S:=by repeat' first|exact True.intro |refine jG ?_ ?_ |exact rfl|omega|(dsimp only;omega)):G:=by
 subst hL;exact st (NA (E:=⟨P,r,n,B,w0⟩) hT hM k hs L _ _ h hS j)
theorem VA (hQ: ∀ D L C,LJ ⟨P,none,n,rN,w0⟩ fn (AI w0 v) D L C→KJ ⟨P,none,n,rN,w0⟩ K D L C) (hl:ZU fn.results.toList L=some u) (e:u=v):KJ ⟨P,none,n,rN,w0⟩ K [] L C:=by
 unfold ZU at hl;split at hl
 ·rename_i t hr;exact Q1 hQ rfl hr hl e
 ·cases hl
theorem yY (st:Sg ⟨P,none,n,rN,w0⟩ Q [] C f s L G) (k:Nat) (hQ: ∀ D L C,LJ ⟨P,none,n,rN,w0⟩ fn (AI w0 v) D L C→KJ ⟨P,none,n,rN,w0⟩ K D L C) (hs:List Nat) (hM:MM C M) (h:gs TT n M k hs L f s=some (.inr (.inr .ret),[],L0,S)) (hl:ZU fn.results.toList L0=some u) (e:u=v) (hS:oP S:=by repeat' first|exact True.intro |refine jG ?_ ?_ |exact rfl|omega|(dsimp only;omega)) (hT:k7 P TT:=by exact pw) (hK:Q .ret=K:=by rfl):G:=by
 subst hK;exact st (NA (E:=⟨P,none,n,rN,w0⟩) hT hM k hs L _ _ h hS (VA hQ hl e))
end
section
variable {P:Program} {r:Option Nat} {n:Nat} {B:BS} {w0:World} {Q:dk} {M:List (Nat×List Value)} {D:List Deferred} {L L1 L0:List (Nat×Value)} {C:List ar} {f f1:K2} {s s1:Ed} {S:List Prop} {G:Prop} {u v:Value} {fn:Func} {K:Act→World→Prop}
theorem dD (st:Sg ⟨P,r,n,B,w0⟩ Q D C f s L G) (k:Nat) (hs:List Nat) (hM:MM C M) (h:gs TT n M k hs L f s=some (f1,s1,L1,S)) (j:FJ ⟨P,r,n,B,w0⟩ Q D C f1 s1 L1) (hS:oP S:=by repeat' first|exact True.intro |refine jG ?_ ?_ |exact rfl|omega|(dsimp only;omega)) (hT:k7 P TT:=by exact pw):G:=cm st k hs hM j hT h rfl hS
theorem aS (st:Sg ⟨P,r,n,B,w0⟩ Q D C f s L G) (k:Nat) (h:gs TT n [] k [] L f s=some (f1,s1,L1,S)) (j:FJ ⟨P,r,n,B,w0⟩ Q D C f1 s1 L1) (hS:oP S:=by repeat' first|exact True.intro |refine jG ?_ ?_ |exact rfl|omega|(dsimp only;omega)) (hT:k7 P TT:=by exact pw):G:=cm st k [] mn j hT h rfl hS
theorem aq (st:Sg ⟨P,r,n,B,w0⟩ Q D C f s L G) (k:Nat) (j:FJ ⟨P,r,n,B,w0⟩ Q D C f1 s1 L1) (hT:k7 P TT:=by exact pw) (h:gs TT n [] k [] L f s=some (f1,s1,L0,S):=by rfl) (hL:L0=L1:=by (try dsimp only)<;>rfl) (hS:oP S:=by repeat' first|exact True.intro |refine jG ?_ ?_ |exact rfl|omega|(dsimp only;omega)):G:=cm st k [] mn j hT h hL hS
theorem cr (st:Sg ⟨P,none,n,rN,w0⟩ Q [] C f s L G) (k:Nat) (hQ: ∀ D L C,LJ ⟨P,none,n,rN,w0⟩ fn (AI w0 v) D L C→KJ ⟨P,none,n,rN,w0⟩ K D L C) (h:gs TT n [] k [] L f s=some (.inr (.inr .ret),[],L0,S)) (hl:ZU fn.results.toList L0=some u) (e:u=v) (hS:oP S:=by repeat' first|exact True.intro |refine jG ?_ ?_ |exact rfl|omega|(dsimp only;omega)) (hT:k7 P TT:=by exact pw) (hK:Q .ret=K:=by rfl):G:=yY st k hQ [] mn h hl e hS hT hK
end
end
section
def oy (a b:aa):aa:=⟨a.Lo+b.Lo,a.Hi+b.Hi⟩
def gO:aa:=⟨0,0⟩
def l6 (a:aa) (l:List aa):aa:=l.foldl oy a
def ni (z:aa):Prop:=(-1000000000≤z.Lo∧z.Lo≤1000000000)∧ -1000000000≤z.Hi∧z.Hi≤1000000000
theorem Cc {a:aa} {l:List aa} (h:l[i]? =some z):l6 a (l.take (i+1))=oy (l6 a (l.take i)) z:=by
 rw [l1,h];unfold l6;simp
theorem Vv {a:aa} {l:List aa} (ha:ni a) (hl: ∀ z∈l,ni z): ∀ i:Nat,(-1000000000-1000000000*(i:Int)≤(l6 a (l.take i)).Lo∧(l6 a (l.take i)).Lo≤1000000000+1000000000*(i:Int))∧ -1000000000-1000000000*(i:Int)≤(l6 a (l.take i)).Hi∧(l6 a (l.take i)).Hi≤1000000000+1000000000*(i:Int):=by
 intro i
 induction i with
 |zero=>unfold ni at ha;simp [l6];omega
 |succ i ih=>
  cases h:l[i]? with
  |none=>rw [l1,h];simp only [Option.toList_none,AAJ];omega
  |some z=>
   have hz:=hl z (aF h);unfold ni at hz;rw [Cc h];simp only [oy];omega
theorem N5 {a:aa} {l:List aa} (h:l.length≤i):l6 a (l.take i)=l6 a l:=by rw [c5 h]
theorem pq {a:aa}:vA (aa.cells (l6 a [z]))=vA (aa.cells (oy a z)):=rfl
theorem E1 {a y:aa}:vA (aa.cells (l6 a [y,z]))=vA (aa.cells (oy (oy a y) z)):=rfl
/-- how long the run is from one mark, over so many stretches; by how much it falls -/
def eW (ts:List ai) (f:Nat):Nat→aa
 |0=>gO
 |k+1=>match ts[f+k]? with
  |some x=>oy (eW ts f k) x.jd
  |none=>eW ts f k
def hH (ts:List ai) (f:Nat):Nat→aa
 |0=>gO
 |k+1=>match ts[f+k]? with
  |some x=>oy (hH ts f k) x.kR
  |none=>hH ts f k
theorem rF {x:ai} (h:ts[f+k]? =some x):eW ts f (k+1)=oy (eW ts f k) x.jd:=by simp [eW,h]
theorem sx {x:ai} (h:ts[f+k]? =some x):hH ts f (k+1)=oy (hH ts f k) x.kR:=by simp [hH,h]
theorem nY (ht:∀ x∈ts,bV x) (f:Nat): ∀ k:Nat,(0≤(eW ts f k).Lo∧(eW ts f k).Lo≤(eW ts f k).Hi)∧(eW ts f k).Hi≤30000*(k:Int):=by
 intro k
 induction k with
 |zero=>simp [eW,gO]
 |succ k ih=>
  simp only [eW];cases h:ts[f+k]? with
  |none=>simp only;omega
  |some x=>
   have hx:=(ht x (aF h)).2.1;simp only [cO] at hx;simp only [oy];omega
theorem Jf (ht:∀ x∈ts,bV x) (f:Nat): ∀ k:Nat,(0≤(hH ts f k).Lo∧(hH ts f k).Lo≤(hH ts f k).Hi)∧(hH ts f k).Hi≤5000*(k:Int):=by
 intro k
 induction k with
 |zero=>simp [hH,gO]
 |succ k ih=>
  simp only [hH];cases h:ts[f+k]? with
  |none=>simp only;omega
  |some x=>
   have hx:=(ht x (aF h)).2.2.1;simp only [cO] at hx;simp only [oy];omega
theorem tW (ht:∀ x∈ts,bV x) (hk:k≤13):ni (eW ts f k):=by
 have:=nY ht f k;unfold ni;omega
theorem zZ (ht:∀ x∈ts,bV x) (hk:k≤13):ni (hH ts f k):=by
 have:=Jf ht f k;unfold ni;omega
theorem xV {x:ai} (h:bV x):ni x.jd:=by have:=h.2.1;simp only [cO] at this;unfold ni;omega
theorem yq {x:ai} (h:bV x):ni x.kR:=by have:=h.2.2.1;simp only [cO] at this;unfold ni;omega
theorem Ce (h:¬ (if cE ts=true then (0:Int) else 10)=0):cE ts=false∧(if cE ts=true then (0:Int) else 10)=10:=by
 cases ht:cE ts with
 |true=>rw [ht] at h;exact absurd rfl h
 |false=>exact ⟨rfl,rfl⟩
theorem Hq (h:(if cE ts=true then (0:Int) else 10)=0):cE ts=true:=by
 cases ht:cE ts with
 |true=>rfl
 |false=>rw [ht] at h;exact absurd h dc
/-- what the iterator of marks yields -/
def v8 (ts:List ai) (f:Nat):List (List Value):=(range (ts.length-f+1)).map fun (k:Nat)=>[.agg (eW ts f k).cells.toArray,.agg (hH ts f k).cells.toArray]
theorem wW:(v8 ts f).length=ts.length-f+1:=by simp [v8]
theorem CR (h:k≤ts.length-f):(v8 ts f)[k]? =some [.agg (eW ts f k).cells.toArray,.agg (hH ts f k).cells.toArray]:=by
 simp [v8,ABG (show k<ts.length-f+1 by omega)]
theorem My {x:List Value} (h:(v8 ts f)[k]? =some x):k≤ts.length-f∧x=[.agg (eW ts f k).cells.toArray,.agg (hH ts f k).cells.toArray]:=by
 have hi:k<ts.length-f+1:=by
  have:=(aR.1 h).1;simpa [v8] using this
 rw [CR I] at h;exact ⟨I,(m3 h).symm⟩
theorem Hv: ∀ x∈v8 ts f,x.length=2:=fun x hx=>by
 obtain ⟨k,_,rfl⟩:=cu.1 hx;rfl
end
section
def gr (ts:List ai) (s:cY):Prop:=(0≤s.bk∧s.bk<(ts.length:Int))∧ ∃ x,ts[s.bk.toNat]? =some x∧cO s.mM 0 (x.jd.Lo-1)
noncomputable instance (ts:List ai) (s:cY):Decidable (gr ts s):=Classical.propDecidable _
theorem Gp {s:cY} {x:ai} (h:0≤s.bk∧s.bk<(ts.length:Int)) (hx:ts[s.bk.toNat]? =some x):gr ts s↔cO s.mM 0 (x.jd.Lo-1):=
 ⟨fun A=>by obtain ⟨y,hy,B⟩:=A.2;rw [hx] at hy;cases hy;exact B,fun A=>⟨h,x,hx,A⟩⟩
theorem E7 {s:cY} (h:¬ (0≤s.bk∧s.bk<(ts.length:Int))): ¬ gr ts s:=fun A=>h A.1
theorem D9 {s:cY} (ht:∀ x∈ts,bV x) (h:gr ts s):(0≤s.mM.Lo∧s.mM.Lo≤s.mM.Hi)∧s.mM.Hi≤30000:=by
 obtain ⟨x,hx,A⟩:=h.2;have:=(ht x (aF hx)).2.1;simp only [cO] at A this;omega
theorem Hu {a:cY}:vB (decide (∀ s∈[a],gr ts s))=vB (decide (gr ts a)):=c7 _ (iw.2 sm)
theorem Hw {a b:cY}:vB (decide (∀ s∈[a,b],gr ts s))=vB (decide (gr ts a∧gr ts b)):=c7 _ (iw.2 sm)
def pX (z:aa):aa:=⟨-z.Hi,-z.Lo⟩
def Q4 (ts:List ai) (s:cY):aa:=oy (eW ts 0 s.bk.toNat) s.mM
noncomputable def Jv (ts:List ai) (s:cY):Int:=if cE ts=true then (if gr ts s then 0 else 12) else 10
noncomputable def U4 (ts:List ai) (s:cY):aa:=if Jv ts s=0 then Q4 ts s else gO
theorem Ny {s:cY} (h:cE ts=false):Jv ts s=10∧U4 ts s=gO:=by
 have e:Jv ts s=10:=by unfold Jv;rw [h];rfl
 exact ⟨e,by unfold U4;rw [e];rfl⟩
theorem OC {s:cY} (h:cE ts=true) (h2:¬ gr ts s):Jv ts s=12∧U4 ts s=gO:=by
 have e:Jv ts s=12:=by unfold Jv;rw [c0 h,c1 h2]
 exact ⟨e,by unfold U4;rw [e];rfl⟩
theorem zV {s:cY} (h:cE ts=true) (h2:gr ts s):Jv ts s=0∧U4 ts s=Q4 ts s:=by
 have e:Jv ts s=0:=by unfold Jv;rw [c0 h,c0 h2]
 exact ⟨e,c0 e⟩
theorem IJ {s:cY} (h:cE ts=true):Jv ts s=0↔gr ts s:=by
 unfold Jv;rw [c0 h];split<;>simp [*]
def zF (ts:List ai) (a b:cY):aa:=eW ts (min a.bk b.bk).toNat (max a.bk b.bk-min a.bk b.bk).toNat
def lu (ts:List ai) (a b:cY):aa:=oy (oy (if b.bk<a.bk then pX (zF ts a b) else zF ts a b) b.mM) (pX a.mM)
noncomputable def nA (ts:List ai) (a b:cY):Int:=if cE ts=true then (if gr ts a∧gr ts b then 0 else 12) else 10
noncomputable def mq (ts:List ai) (a b:cY):aa:=if nA ts a b=0 then lu ts a b else gO
theorem xQ {a b:cY} (h:cE ts=false):nA ts a b=10∧mq ts a b=gO:=by
 have e:nA ts a b=10:=by unfold nA;rw [h];rfl
 exact ⟨e,by unfold mq;rw [e];rfl⟩
theorem qP {a b:cY} (h:cE ts=true) (h2:¬ (gr ts a∧gr ts b)):nA ts a b=12∧mq ts a b=gO:=by
 have e:nA ts a b=12:=by unfold nA;rw [c0 h,c1 h2]
 exact ⟨e,by unfold mq;rw [e];rfl⟩
theorem mW {a b:cY} (h:cE ts=true) (h2:gr ts a∧gr ts b):nA ts a b=0∧mq ts a b=lu ts a b:=by
 have e:nA ts a b=0:=by unfold nA;rw [c0 h,c0 h2]
 exact ⟨e,c0 e⟩
theorem Dl (h:ni z):ni (pX z):=by unfold ni pX at *;simp only;omega
theorem tS {s:cY} (ht:∀ x∈ts,bV x) (h:gr ts s):ni s.mM:=by have:=D9 ht h;unfold ni;omega
theorem Vh {a b:cY} (ht:∀ x∈ts,bV x) (hl:ts.length≤12) (ha:gr ts a) (hb:gr ts b):(0≤(zF ts a b).Lo∧(zF ts a b).Lo≤(zF ts a b).Hi)∧(zF ts a b).Hi≤360000:=by
 have h:=nY ht (min a.bk b.bk).toNat (max a.bk b.bk-min a.bk b.bk).toNat;have A:=ha.1;have B:=hb.1;unfold zF;omega
theorem Bc {a b:cY} (ht:∀ x∈ts,bV x) (hl:ts.length≤12) (ha:gr ts a) (hb:gr ts b):(-400000≤(lu ts a b).Lo∧(lu ts a b).Lo≤(lu ts a b).Hi)∧(lu ts a b).Hi≤400000:=by
 have h:=Vh ht hl ha hb;have A:=D9 ht ha;have B:=D9 ht hb;unfold lu oy pX;split<;>simp only <;>omega
theorem Yt {s:cY} (ht:∀ x∈ts,bV x) (hl:ts.length≤12) (h:gr ts s):(0≤(Q4 ts s).Lo∧(Q4 ts s).Lo≤(Q4 ts s).Hi)∧(Q4 ts s).Hi≤400000:=by
 have A:=nY ht 0 s.bk.toNat;have B:=D9 ht h;have C:=h.1;unfold Q4 oy;simp only;omega
theorem ME {p:Nat→α→Bool} {l:List α}:((l.zipIdx.filter fun q=>p q.2 q.1).map fun q=>(q.2:Int))=[]↔ ∀ (i:Nat) x,l[i]? =some x→p i x=false:=by
 rw [ABh,List.filter_eq_nil_iff];constructor
 ·intro h i x hx;have:=h (x,i) (by rw [List.mem_zipIdx_iff_getElem?];simpa using hx);simpa using this
 ·rintro h ⟨x,i⟩ hm;rw [List.mem_zipIdx_iff_getElem?] at hm;simpa using h i x (by simpa using hm)
/-- the places of a list at which something is so -/
def vq {α:Type} (p:Nat→α→Bool) (l:List α) (n:Nat):List Int:=(((l.take n).zipIdx.filter fun q=>p q.2 q.1).map fun q=>(q.2:Int))
theorem Qy {p:Nat→α→Bool} {l:List α} {x:α} (hx:l[i]? =some x) (h:p i x=true):vq p l (i+1)=vq p l i++[(i:Int)]:=by
 have hi:=(aR.1 hx).1;unfold vq;rw [l1,hx,List.zipIdx_append,AAq,AAF];simp [AB4 (Nat.le_of_lt hi),h]
theorem Sw {p:Nat→α→Bool} {l:List α} {x:α} (hx:l[i]? =some x) (h:p i x=false):vq p l (i+1)=vq p l i:=by
 have hi:=(aR.1 hx).1;unfold vq;rw [l1,hx,List.zipIdx_append,AAq,AAF];simp [AB4 (Nat.le_of_lt hi),h]
theorem E3 {p:Nat→α→Bool} {l:List α} {n:Nat}:(vq p l n).length≤n:=by
 unfold vq;rw [c3];refine c6 (u2 _ _) ?_;rw [List.length_zipIdx,k5];omega
def NK {α:Type} (p:Nat→α→Bool) (l:List α):List Int:=vq p l l.length
theorem Sb {p:Nat→α→Bool} {l:List α} {n:Nat} (h:n=l.length):vq p l n=NK p l:=by rw [h];rfl
theorem K9 {p:Nat→α→Bool} {l:List α}:(NK p l).length=0↔ ∀ (i:Nat) x,l[i]? =some x→p i x=false:=by
 unfold NK vq;rw [ABk,AA8];exact ME
end
section
variable (p:Int→Bool)
theorem Cf (n:Nat): ∃ r:Int,r=((range n).findIdx fun (k:Nat)=>p (k:Int):Nat):=⟨_,rfl⟩
noncomputable def gS (p:Int→Bool) (n:Nat):Int:=Classical.choose (Cf p n)
theorem vm (n:Nat):gS p n=((range n).findIdx fun (k:Nat)=>p (k:Int):Nat):=Classical.choose_spec (Cf p n)
theorem jL {p:Int→Bool} {n:Nat}:0≤gS p n∧gS p n≤n:=by
 rw [vm];have:=List.findIdx_le_length (xs:=range n) (p:=fun (k:Nat)=>p (k:Int));rw [AA1] at this;omega
theorem BM {p:Int→Bool} {n:Nat} {x:Int} (h0:0≤x) (h:x<gS p n):p x=false:=by
 have hb:=jL (p:=p) (n:=n);rw [vm] at h;have B:x.toNat<(range n).findIdx fun (k:Nat)=>p (k:Int):=by omega
 have A:=List.not_of_lt_findIdx B;simp only [List.getElem_range] at A;rw [show (x.toNat:Int)=x by omega] at A;simpa using A
theorem Ka {p:Int→Bool} {n:Nat} (h:gS p n<n):p (gS p n)=true:=by
 rw [vm] at h ⊢;have A:((range n).findIdx fun (k:Nat)=>p (k:Int))<(range n).length:=by rw [AA1];omega
 have:=List.findIdx_getElem (w:=A);simpa using this
end
section
def qB (n by_:Int):Int:=(n+by_-1)/by_
/-- by how much a sync may be off -/
def vh (c:aX) (at_:Int) (x:dj):Int:=qB (c.dG*max (at_-x.At) (x.At-at_)) 1000000
def nQ (c:aX) (at_:Int) (s:aa) (x:dj):aa:=⟨max s.Lo (x.er.Lo-vh c at_ x),min s.Hi (x.er.Hi+vh c at_ x)⟩
def ib (c:aX) (at_:Int) (k:Nat):aa:=(c.bo.take k).foldl (nQ c at_) ⟨-1099511627776,1099511627776⟩
def jo (c:aX) (at_:Int):aa:=c.bo.foldl (nQ c at_) ⟨-1099511627776,1099511627776⟩
theorem lk {x:dj} (h:c.bo[k]? =some x):ib c at_ (k+1)=nQ c at_ (ib c at_ k) x:=by
 unfold ib;rw [l1,h,List.foldl_append];rfl
theorem o7 (h:c.bo.length≤k):ib c at_ k=jo c at_:=by unfold ib jo;rw [c5 h]
def lY (c:aX) (i:Nat):Int:=if i=0 then-1 else ((c.bo[i-1]?).map (·.At)).getD 0
def gn (c:aX) (i:Nat) (x:dj):Prop:=(lY c i<x.At∧x.At≤86400000)∧ -10000≤x.er.Lo∧x.er.Lo≤x.er.Hi∧x.er.Hi≤10000
def qs (c:aX) (x o:dj):Prop:=x.er.Lo-o.er.Hi≤qB (c.dG*(x.At-o.At)) 1000000∧o.er.Lo-x.er.Hi≤qB (c.dG*(x.At-o.At)) 1000000
structure fF (c:aX):Prop where
 uV:0≤c.dG∧c.dG≤1000
 len:1≤c.bo.length∧c.bo.length≤5
 sync: ∀ (i:Nat) x,c.bo[i]? =some x→gn c i x
 pair: ∀ (i k:Nat) x o,c.bo[i]? =some x→k<i→c.bo[k]? =some o→qs c x o
noncomputable instance (c:aX):Decidable (fF c):=Classical.propDecidable _
theorem gY (h:i=0):lY c i= -1:=c0 h
theorem Be {y:dj} (h:0<i) (hy:c.bo[i-1]? =some y):lY c i=y.At:=by unfold lY;rw [c1 I,hy];rfl
theorem p_ {y:dj} (hy:c.bo[i]? =some y):lY c (i+1)=y.At:=by unfold lY;rw [c1 I,AA_,hy];rfl
/-- the times of the syncs -/
theorem Te (h:∀ (i:Nat) x,c.bo[i]? =some x→gn c i x): ∀ (i:Nat) x,c.bo[i]? =some x→0≤x.At∧ ∀ (k:Nat) o,k<i→c.bo[k]? =some o→o.At<x.At:=by
 intro i
 induction i with
 |zero=>
  intro x hx;have:=(h 0 x hx).1.1;rw [gY rfl] at this;exact ⟨I,fun k o hk=>by omega⟩
 |succ i ih=>
  intro x hx;have hi:=(aR.1 hx).1;have hy:c.bo[i]? =some (c.bo[i]'I):=fh I;have B:=ih _ hy;have A:=(h (i+1) x hx).1.1;rw [p_ hy] at A;refine ⟨I,fun k o hk ho=>?_⟩;by_cases e:k=i
  ·subst e;rw [hy] at ho;cases ho;exact A
  ·have:=B.2 k o I ho;omega
theorem fF.xZ (h:fF c) {x:dj} (hx:c.bo[i]? =some x):(0≤x.At∧x.At≤86400000)∧ -10000≤x.er.Lo∧x.er.Lo≤x.er.Hi∧x.er.Hi≤10000:=by
 have A:=h.sync i x hx;exact ⟨⟨(Te h.sync i x hx).1,A.1.2⟩,A.2⟩
theorem JI {d b:Int} (hd:0≤d∧d≤1000) (ha:0≤a∧a≤90000000) (hb:0≤b∧b≤90000000):0≤d*max (a-b) (b-a)∧d*max (a-b) (b-a)≤90000000000:=by
 have:=As (a:=d) (b:=max (a-b) (b-a)) (A:=1000) (B:=90000000) hd.1 hd.2 I I;omega
theorem xU {x:dj} (hd:0≤c.dG∧c.dG≤1000) (ha:0≤at_∧at_≤90000000) (hx:0≤x.At∧x.At≤86400000):0≤vh c at_ x∧vh c at_ x≤90001:=by
 have h:=JI hd ha (show 0≤x.At∧x.At≤90000000 by omega);unfold vh qB;omega
theorem Fq (h:fF c) (ha:0≤at_∧at_≤90000000): ∀ k:Nat,(-1099511627776≤(ib c at_ k).Lo∧(ib c at_ k).Lo≤10000)∧ -10000≤(ib c at_ k).Hi∧(ib c at_ k).Hi≤1099511627776:=by
 intro k
 induction k with
 |zero=>simp [ib]
 |succ k ih=>
  cases hx:c.bo[k]? with
  |none=>unfold ib at ih ⊢;rw [l1,hx];simpa using ih
  |some x=>
   have hb:=h.xZ hx;have ho:=xU h.uV ha hb.1;rw [lk hx];unfold nQ;simp only;omega
theorem tY (h:fF c) (ha:0≤at_∧at_≤90000000):(-110000≤(jo c at_).Lo∧(jo c at_).Lo≤10000)∧ -10000≤(jo c at_).Hi∧(jo c at_).Hi≤110000:=by
 obtain ⟨n,hn⟩: ∃ n,c.bo.length=n+1:=⟨c.bo.length-1,by have:=h.len;omega⟩;have hx:c.bo[n]? =some (c.bo[n]'I):=fh I;have hb:=h.xZ hx;have ho:=xU h.uV ha hb.1;have A:=Fq h ha n;rw [← o7 (k:=n+1) I,lk hx];unfold nQ;simp only;omega
/-- as time goes on, time and what a clock may be ahead, together, never go back -/
theorem Hn (h:fF c) {b:Int} (ha:0≤a) (hab:a≤b) (hb:b≤90000000): ∀ k:Nat,(a+(ib c a k).Lo≤b+(ib c b k).Lo∨(ib c a k).Lo= -1099511627776)∧a+(ib c a k).Hi≤b+(ib c b k).Hi:=by
 have step: ∀ (x:dj),0≤x.At∧x.At≤86400000→ ∀ a b:Int,0≤a→a≤b→b≤90000000→vh c a x≤vh c b x+(b-a)∧vh c b x≤vh c a x+(b-a):=by
  intro x hx a b ha hab hb;have hd:=h.uV;have e: ∀ u v:Int,u≤v+1000000*(b-a)→qB u 1000000≤qB v 1000000+(b-a):=by intro u v C;unfold qB;omega
  have m: ∀ p q:Int,p≤q+(b-a)→c.dG*p≤c.dG*q+1000000*(b-a):=by
   intro p q A;have D:c.dG*p≤c.dG*(q+(b-a)):=Int.mul_le_mul_of_nonneg_left A hd.1;have E:c.dG*(q+(b-a))=c.dG*q+c.dG*(b-a):=Int.mul_add _ _ _;have F:c.dG*(b-a)≤1000*(b-a):=ABp hd.2 I;omega
  exact ⟨e _ _ (m _ _ I),e _ _ (m _ _ I)⟩
 intro k
 induction k with
 |zero=>simp [ib];omega
 |succ k ih=>
  cases hx:c.bo[k]? with
  |none=>
   have e: ∀ t,ib c t (k+1)=ib c t k:=fun t=>by unfold ib;rw [l1,hx];simp
   rw [e,e];exact ih
  |some x=>
   have hs:=h.xZ hx;have:=step x hs.1 a b ha hab hb;have B:=xU (at_:=a) h.uV ⟨ha,I⟩ hs.1;rw [lk hx,lk hx];unfold nQ;simp only;omega
theorem yL (h:fF c) {b:Int} (ha:0≤a) (hab:a≤b) (hb:b≤90000000):a+(jo c a).Lo≤b+(jo c b).Lo∧a+(jo c a).Hi≤b+(jo c b).Hi:=by
 have A:=Hn h ha hab hb c.bo.length;have B:=tY h (at_:=a) ⟨ha,I⟩;rw [o7 (c9 _),o7 (c9 _)] at A;omega
noncomputable def mL (l:a_) (i:Nat):Int:=match l.ag[i]? with
 |some b=>if i=0 then (Q4 l.bW b.mx).Lo else (match l.ag[i-1]? with
  |some a=>(lu l.bW a.mx b.mx).Lo
  |none=>0)
 |none=>0
theorem xX {b:dT} (h:l.ag[0]? =some b):mL l 0=(Q4 l.bW b.mx).Lo:=by unfold mL;rw [h];rfl
theorem Ey {a b:dT} (hi:0<i) (h:l.ag[i]? =some b) (ha:l.ag[i-1]? =some a):mL l i=(lu l.bW a.mx b.mx).Lo:=by unfold mL;rw [h,ha];simp only;rw [c1 I]
def lB (l:a_) (b:dT):Prop:=gr l.bW b.mx∧0≤b.kE∧b.kE<(l.aD.length:Int)
def fj (l:a_):Prop:=(1≤l.g7∧l.g7≤5000)∧(1≤(l.aD.length:Int)∧(l.aD.length:Int)≤4)∧(1≤(l.ag.length:Int)∧(l.ag.length:Int)≤6)∧(0≤l.b_∧l.b_≤(l.ag.length:Int)-1)∧(0≤l.e_∧l.e_≤3)∧0≤l.di∧l.di≤3
structure nP (l:a_):Prop where
 head:fj l
 clock: ∀ c∈l.aD,fF c
 vt: ∀ b∈l.ag,lB l b
 TZ: ∀ i,i<l.ag.length→1≤mL l i
noncomputable instance (l:a_):Decidable (nP l):=Classical.propDecidable _
noncomputable def dU (l:a_):Int:=if cE l.bW=true then (if nP l then 0 else 50) else 10
theorem CD (h:cE l.bW=false):dU l=10:=by unfold dU;rw [h];rfl
theorem tH (h:cE l.bW=true) (h2:¬ nP l):dU l=50:=by unfold dU;rw [c0 h,c1 h2]
theorem Bl (h:cE l.bW=true) (h2:nP l):dU l=0:=by unfold dU;rw [c0 h,c0 h2]
theorem ep (h:dU l=0):cE l.bW=true∧nP l:=by
 unfold dU at h;split at h
 ·split at h
  ·exact ⟨asm,asm⟩
  ·omega
 ·omega
theorem CZ (ht:cE l.bW=true) (hb:∀ b∈l.ag,lB l b) (i:Nat): -400000≤mL l i∧mL l i≤400000:=by
 have A:=jK ht;have hl:=kv ht;unfold mL;cases h:l.ag[i]? with
 |none=>simp
 |some b=>
  have B:=(hb b (aF h)).1;simp only;split
  ·have:=Yt A hl B;omega
  ·cases h2:l.ag[i-1]? with
   |none=>simp
   |some a=>
    have C:=(hb a (aF h2)).1;have:=Bc A hl C B;simp only;omega
def sD (l:a_) (s:aZ):aX:=((l.ag[s.fR.toNat]?).bind fun b=>l.aD[b.kE.toNat]?).getD ⟨0,[]⟩
def iW (c:aX) (r t:Int):Bool:=decide (r≤t+(jo c t).Hi)
def iU (c:aX) (r t:Int):Bool:=decide (r<t+(jo c t).Lo)
noncomputable def EB (c:aX) (r:Int):aa:=⟨gS (iW c r) 86400001,gS (iU c r) 86400001-1⟩
noncomputable def du (l:a_) (s:aZ):aa:=EB (sD l s) s.Read
noncomputable def ew (l:a_) (i:Nat):Int:=qB (1000*mL l i) l.g7
end
section
open Go.RowKit
def Ea (n:Int):Int:=IntKind.i64.wrap n
theorem C_ {n:Int} (h:sW n):Ea n=n:=qk h
theorem Yf (n:Int): -9223372036854775808≤Ea n∧Ea n≤9223372036854775807:=by
 unfold Ea;rw [IntKind.wrap_i64];omega
section
variable {P:Program} {t:TypeId} {x y:Operand} {a b:Int}
theorem Ve:g8 P .add t x y (.int .i64 a) (.int .i64 b) (.int .i64 (Ea (a+b))):=fun w=>by simp [eqGuard_add,binOp_add,Op.intArith,Ea]
theorem NW:g8 P .sub t x y (.int .i64 a) (.int .i64 b) (.int .i64 (Ea (a-b))):=fun w=>by simp [eqGuard_sub,binOp_sub,Op.intArith,Ea]
theorem WA:g8 P .mul t x y (.int .i64 a) (.int .i64 b) (.int .i64 (Ea (a*b))):=fun w=>by simp [eqGuard_mul,binOp_mul,Op.intArith,Ea]
end
/-- divided, and rounded up, as it comes out -/
def XP (n by_:Int):Int:=(Ea (Ea (n+by_)-1)).tdiv by_
theorem VZ {b:Int} (ha:-9223372036854775808≤a∧a≤9223372036854775807) (hb:2≤b):sW (a.tdiv b):=by
 have A:a.tdiv b=a/b+if a % b≠0∧a<0 then 1 else 0:=by
  rcases AAe a 0 with h|h
  ·rw [Int.tdiv_eq_ediv];have:b.sign=1:=Int.sign_eq_one_of_pos I;rw [this];by_cases hd:b∣a
   ·have:a % b=0:=Int.emod_eq_zero_of_dvd hd;simp [hd,this]
   ·have:a % b≠0:=fun e=>hd (Int.dvd_of_emod_eq_zero e);have hn: ¬ 0≤a:=by omega
    simp [hd,this,h,hn]
  ·rw [ABz h];have: ¬ a<0:=by omega
   simp [this]
 have B:a/b*b+a % b=a:=by rw [Int.mul_comm];exact Int.mul_ediv_add_emod a b
 have C:0≤a % b:=Int.emod_nonneg _ I;have D:a % b<b:=Int.emod_lt_of_pos _ I;have E: -9223372036854775808≤a/b∧a/b≤4611686018427387904:=by
  constructor
  ·refine Int.le_ediv_of_mul_le I ?_;have:(-9223372036854775808:Int)*b≤ -9223372036854775808*1:=Int.mul_le_mul_of_nonpos_left I I;omega
  ·refine Int.ediv_le_of_le_mul I ?_;have:(4611686018427387904:Int)*2≤4611686018427387904*b:=Int.mul_le_mul_of_nonneg_left hb I;omega
 rw [A];unfold sW;split<;>omega
theorem Vj {n by_:Int} (h0:0≤n) (h1:n≤1000000000000000000) (hb:1≤by_∧by_≤1000000000000):XP n by_=(n+by_-1)/by_:=by
 unfold XP;rw [C_ (show sW (n+by_) from ⟨I,I⟩),C_ (show sW (n+by_-1) from ⟨I,I⟩),ABz I]
end
section
open Go.RowKit
/-- where a row lies, and its capacity -/
abbrev RA:=OA×Nat
/-- what is asked of memory by all elements -/
def bx {M A:Type} (f:M→A→List ar):List M→List A→List ar
 |m::ms,a::asl=>f m a++bx f ms asl
 |_,_=>[]
theorem bq {M A:Type} {f:M→A→List ar}: ∀ {ms:List M} {asl:List A} {k:Nat} {m:M} {a:A} {X:ar},ms[k]? =some m→asl[k]? =some a→X∈f m a→X∈bx f ms asl
 |[],_,k,m,a,X,h,_,_=>by simp at h
 |_::_,[],k,m,a,X,_,h,_=>by simp at h
 |x::ms,y::asl,0,m,a,X,h,h2,hX=>by
  simp at h h2;subst h h2;exact m1 _ hX
 |x::ms,y::asl,k+1,m,a,X,h,h2,hX=>AAg _ (bq (ms:=ms) (asl:=asl) (k:=k) (by simpa using h) (by simpa using h2) hX)
theorem lD {M A:Type} {f:M→A→List ar}: ∀ {ms:List M} {asl:List A} {X:ar},X∈bx f ms asl→ ∃ (k:Nat) (m:M) (a:A),ms[k]? =some m∧asl[k]? =some a∧X∈f m a
 |[],_,X,h=>by cases h
 |_::_,[],X,h=>by cases h
 |x::ms,y::asl,X,h=>by
  rcases dY.1 h with h|h
  ·exact ⟨0,x,y,U,U,h⟩
  ·obtain ⟨k,m,a,B,C,D⟩:=lD h;exact ⟨k+1,m,a,by simpa using B,by simpa using C,D⟩
theorem lp {M A:Type} {f:M→A→List ar}: ∀ {ms:List M} {asl:List A} {ns:List M} {bs:List A},ms.length=asl.length→bx f (ms++ns) (asl++bs)=bx f ms asl++bx f ns bs
 |[],[],ns,bs,_=>rfl
 |[],_::_,ns,bs,h=>by simp at h
 |_::_,[],ns,bs,h=>by simp at h
 |x::ms,y::asl,ns,bs,h=>by
  simp only [AAX,bx,List.append_assoc];rw [lp (by simpa using h)]
theorem cD {M A:Type} {f:M→A→β} {ms:List M} {asl:List A} {m:M} {a:A} (h:ms[k]? =some m) (h2:asl[k]? =some a):(zipWith f ms asl)[k]? =some (f m a):=by
 rw [ABu,h,h2]
theorem ct {L:List ar} {A:ar} (i:Nat) (hC:C[i]? =some (iX L).ro) (hm:A∈L):ij C A.holds:=fun w hw=>hw _ (aF hC) A hm
theorem dK {M A:Type} {f g:M→A→List ar} {ms:List M} {asl:List A} (i:Nat) (hC:C[i]? =some (bD (bx g ms asl))) (h:∀ m a w,(∀ X∈g m a,X.holds w)→ ∀ X∈f m a,X.holds w):ij C (iX (bx f ms asl)).holds:=fun w hw X hX=>by
 have hb:=hw _ (aF hC);obtain ⟨k,m,a,B,D,E⟩:=lD hX;exact h m a w (fun Y hY=>hb.1 Y (bq B D hY)) X E
/-- a row that is part of another one -/
theorem Tm {n:Nat} (hR:ij C (rd A n sz es).holds) (hk:k≤n):ij C (rd A k sz (es.take k)).holds:=fun w hw=>by
 obtain ⟨D,E,F⟩:=hR w hw;refine ⟨by rw [k5,D];omega,fun x hx=>E x (ACK hx),fun hp=>?_⟩;have G:0<k:=Nat.pos_of_mul_pos_right hp;have hs:0<sz:=Nat.pos_of_mul_pos_left hp;obtain ⟨ad,hA,B⟩:=F (e6 I hs);refine ⟨ad,hA,fun i e j v he hv=>B i e j v ?_ hv⟩;rw [ABl] at he;split at he
 ·exact he
 ·cases he
section
variable {E:fM} {ops:Array Oper} {Q:dk} {rest:List Oper} {D:List Deferred} {L:List (Nat×Value)} {C:List ar}
variable {d:Nat} {ty:TypeId} {ps:String} {af:Array Edge} {g:Option (Nat×Bool)}
/-- an element of a slice that is the head of a row -/
theorem IAH (k:Nat) {ix:Operand} {n n' c:Nat} (h:bF E.n ops L d g x ix=some (.slice A n' c,.int .i64 j)) (hR:ij C (rd A n sz es).holds) (ht:tE E.P t=some (e,sz)) (hz:0<sz) (hj:j=(k:Int)) (hk:k<n') (hn:n'≤n):SE E ops ⟨some d,.indexAddr t x ix,ty,ps,af,g⟩ D L C (.pointer (nR A (k*sz))) d:=IA k h (Tm hR hn) ht hz hj hk
end
theorem St.tie {w:World} {A:ar} {L L':List ar} (h:St S w0 (A::bD L::C) w) (e:L++[A]=L'):St S w0 (bD L'::C) w:=by
 subst e;have B:St S w0 (bD L::A::C) w:=h.perm (List.Perm.swap _ _ _);have D:St S w0 (L++(A::C)) w:=B.iI;have E:St S w0 ((L++[A])++C) w:=by simpa using D
 exact E.tied
theorem St.VR {w:World} (h:St S w0 C w):St S w0 (bD []::C) w:=St.tied (C1:=[]) h
section
variable {E:fM} {Q:dk} {D:List Deferred} {L:List (Nat×Value)} {C:List ar}
theorem mj {c:Code} (h:WJ E c Q D L (bD []::C)):WJ E c Q D L C:=fun a w hf hs=>h a w hf hs.VR
theorem xz (h:RJ E ops Q rest D L (bD []::C)):RJ E ops Q rest D L C:=fun a w hf hs=>h a w hf hs.VR
theorem Cd {A:ar} (i j:Nat) (hn:decide (j::i::(range C.length).filter fun k=>k != i&&k != j).Nodup=true) (hC:kT C (j::i::(range C.length).filter fun k=>k != i&&k != j)=A::bD X::C1) (e:X++[A]=X') (h:KJ E K D L (bD X'::C1)):KJ E K D L C:=fun a w hf hs=>h a w hf ((St.kT _ hn hC hs).tie e)
theorem Us {A:ar} (i j:Nat) (hn:decide (j::i::(range C.length).filter fun k=>k != i&&k != j).Nodup=true) (hC:kT C (j::i::(range C.length).filter fun k=>k != i&&k != j)=A::bD X::C1) (e:X++[A]=X') (h:RJ E ops Q rest D L (bD X'::C1)):RJ E ops Q rest D L C:=fun a w hf hs=>h a w hf ((St.kT _ hn hC hs).tie e)
end
abbrev rE (l:a_) (kA:Option Addr) (az:List RA) (cA bA:Option Addr):List ar:=[(rd kA l.bW.length 9 (l.bW.map ai.cells)),(rd cA l.aD.length 2 (zipWith aX.cells l.aD az)),(iX (bx aX.lG l.aD az)),(rd bA l.ag.length 4 (l.ag.map dT.cells))]
end
variable {az:List RA}
section
def nU (c:aX) (i:Nat) (x:dj) (k:Nat):Prop:=gn c i x∧ ∀ (j:Nat) o,j<k→c.bo[j]? =some o→qs c x o
def vL (c:aX) (n:Nat):Prop:= ∀ (i:Nat) x,i<n→c.bo[i]? =some x→nU c i x i
noncomputable instance (c:aX) (i:Nat) (x:dj) (k:Nat):Decidable (nU c i x k):=Classical.propDecidable _
instance (c:aX) (i:Nat) (x:dj):Decidable (gn c i x):=by unfold gn;infer_instance
theorem Io {x:dj}:nU c i x 0↔gn c i x:=⟨fun h=>h.1,fun h=>⟨h,fun j o hj=>by omega⟩⟩
theorem vN {x o:dj} (h:c.bo[k]? =some o):nU c i x (k+1)↔nU c i x k∧qs c x o:=by
 constructor
 ·intro hr;exact ⟨⟨hr.1,fun j o' hj ho=>hr.2 j o' I ho⟩,hr.2 k o I h⟩
 ·rintro ⟨hr,hp⟩;refine ⟨hr.1,fun j o' hj ho=>?_⟩;by_cases e:j=k
  ·subst e;rw [h] at ho;cases ho;exact hp
  ·exact hr.2 j o' I ho
theorem Mh:vL c 0:=fun i x hi=>by omega
theorem KA {x:dj} (h:vL c i) (hx:c.bo[i]? =some x) (hr:nU c i x i):vL c (i+1):=fun j y hj hy=>by
 by_cases e:j=i
 ·subst e;rw [hx] at hy;cases hy;exact hr
 ·exact h j y I hy
theorem Nq {x:dj} (hx:c.bo[i]? =some x) (h:¬ nU c i x i): ¬ fF c:=fun hc=>h ⟨hc.sync i x hx,fun j o hj ho=>hc.pair i j x o hx hj ho⟩
theorem Md (h1:0≤c.dG∧c.dG≤1000) (h2:1≤c.bo.length∧c.bo.length≤5) (h:vL c c.bo.length):fF c:=
 ⟨h1,h2,fun i x hx=>(h i x (aR.1 hx).1 hx).1,fun i k x o hx hk ho=>(h i x (aR.1 hx).1 hx).2 k o hk ho⟩
/-- syncs so far -/
theorem x9 {n:Nat} (h:∀ (i:Nat) x,i<n→c.bo[i]? =some x→gn c i x): ∀ (i:Nat) x,i<n→c.bo[i]? =some x→0≤x.At∧ ∀ (k:Nat) o,k<i→c.bo[k]? =some o→o.At<x.At:=by
 intro i
 induction i with
 |zero=>
  intro x hn hx;have:=(h 0 x hn hx).1.1;rw [gY rfl] at this;exact ⟨I,fun k o hk=>by omega⟩
 |succ i ih=>
  intro x hn hx;have hi:=(aR.1 hx).1;have hy:c.bo[i]? =some (c.bo[i]'I):=fh I;have B:=ih _ I hy;have A:=(h (i+1) x hn hx).1.1;rw [p_ hy] at A;refine ⟨I,fun k o hk ho=>?_⟩;by_cases e:k=i
  ·subst e;rw [hy] at ho;cases ho;exact A
  ·have:=B.2 k o I ho;omega
theorem QI (hi:i≤c.bo.length) (h:∀ (j:Nat) y,j<i→c.bo[j]? =some y→gn c j y): -1≤lY c i∧lY c i≤86400000:=by
 cases i with
 |zero=>rw [gY rfl];omega
 |succ i=>
  have hy:c.bo[i]? =some (c.bo[i]'I):=fh I;have A:=(x9 (n:=i+1) h i _ I hy).1;have B:=(h i _ I hy).1.2;rw [p_ hy];omega
theorem Wy (hi:i≤c.bo.length) (h:vL c i): -1≤lY c i∧lY c i≤86400000:=QI hi fun j y hj hy=>(h j y hj hy).1
theorem x_ {x o:dj} (hs:∀ (j:Nat) y,j<i→c.bo[j]? =some y→gn c j y) (hx:c.bo[i]? =some x) (hok:gn c i x) (hk:k<i) (ho:c.bo[k]? =some o):
 (0≤o.At∧o.At<x.At∧x.At≤86400000)∧(-10000≤x.er.Lo∧x.er.Lo≤x.er.Hi∧x.er.Hi≤10000)∧ -10000≤o.er.Lo∧o.er.Lo≤o.er.Hi∧o.er.Hi≤10000:=by
 have h: ∀ (j:Nat) y,j<i+1→c.bo[j]? =some y→gn c j y:=fun j y hj hy=>by
  by_cases e:j=i
  ·subst e;rw [hx] at hy;cases hy;exact hok
  ·exact hs j y I hy
 have A:=(x9 h i x I hx).2 k o hk ho;have B:=(x9 h k o I ho).1;exact ⟨⟨B,A,hok.1.2⟩,hok.2,(h k o I ho).2⟩
theorem SO {d b:Int} (hd:0≤d∧d≤1000) (h:0≤b∧b<a∧a≤86400000):XP (Ea (d*Ea (a-b))) 1000000=qB (d*(a-b)) 1000000:=by
 have C:0≤d*(a-b)∧d*(a-b)≤90000000000:=by
  have:=As (a:=d) (b:=a-b) (A:=1000) (B:=90000000) hd.1 hd.2 I I;omega
 rw [C_ (show sW (a-b) from ⟨I,I⟩),C_ (show sW (d*(a-b)) from ⟨I,I⟩),Vj C.1 I I];rfl
/-- what is asked of a line, however wrong it is -/
structure dW (l:a_) (asl:List RA):Prop where
 sS:l.bW.length≤1000000
 side: ∀ x∈l.bW,0≤x.gp∧x.gp≤255
 sT:l.aD.length≤1000000
 mD:asl.length=l.aD.length
 sU:l.ag.length≤1000000
 U8: ∀ (k:Nat) m (a:RA),l.aD[k]? =some m→asl[k]? =some a→m.bo.length≤a.2∧m.bo.length≤1000000
noncomputable instance (l:a_):Decidable (fj l):=by unfold fj;infer_instance
noncomputable instance (l:a_) (b:dT):Decidable (lB l b):=Classical.propDecidable _
theorem C8 (h:fj l) (h2:∀ c∈l.aD,fF c) (h3:∀ b∈l.ag,lB l b) (h4:∀ i,i<l.ag.length→1≤mL l i):nP l:=⟨h,h2,h3,h4⟩
theorem G7:((!(l.aD.any fun m=> !decide (fF m)))=true)↔ ∀ c∈l.aD,fF c:=by simp
theorem MF:((!(l.ag.any fun b=> !decide (lB l b)))=true)↔ ∀ b∈l.ag,lB l b:=by simp
noncomputable def pt (l:a_) (i:Int):Int:=if dU l=0 then (if 0≤i∧i≤(l.ag.length:Int)-1 then 0 else 2) else dU l
noncomputable def te (l:a_) (i:Int):Int:=if pt l i=0 then ew l i.toNat else 0
theorem x7 {i:Int} (h:¬ dU l=0):pt l i=dU l∧te l i=0:=by
 have e:pt l i=dU l:=c1 h;exact ⟨e,by unfold te;rw [e,c1 h]⟩
theorem xE {i:Int} (h:dU l=0) (h2:¬ (0≤i∧i≤(l.ag.length:Int)-1)):pt l i=2∧te l i=0:=by
 have e:pt l i=2:=by unfold pt;rw [c0 h,c1 h2]
 exact ⟨e,by unfold te;rw [e];rfl⟩
theorem xe {i:Int} (h:dU l=0) (h2:0≤i∧i≤(l.ag.length:Int)-1):pt l i=0∧te l i=ew l i.toNat:=by
 have e:pt l i=0:=by unfold pt;rw [c0 h,c0 h2]
 exact ⟨e,by unfold te;rw [c0 e]⟩
theorem mH (h:fF c) {r x:Int} (h0:0≤x) (h1:x<86400001):
 (x<gS (iW c r) 86400001→iW c r x=false)∧(gS (iW c r) 86400001≤x→iW c r x=true)∧(x<gS (iU c r) 86400001→iU c r x=false)∧(gS (iU c r) 86400001≤x→iU c r x=true):=by
 have up: ∀ (q:Int→Bool),(∀ a b,0≤a→a≤b→b<86400001→q a=true→q b=true)→gS q 86400001≤x→q x=true:=fun q hq hx=>by
  have hb:=jL (p:=q) (n:=86400001);exact hq _ _ hb.1 hx h1 (Ka I)
 refine ⟨BM h0,up _ fun a b ha A hb hq=>?_,BM h0,up _ fun a b ha A hb hq=>?_⟩
 ·have:=yL h ha A I;simp only [iW,r0] at hq ⊢;omega
 ·have:=yL h ha A I;simp only [iU,r0] at hq ⊢;omega
theorem zQ {s:aZ} {b:dT} (hb:l.ag[s.fR.toNat]? =some b) (hc:l.aD[b.kE.toNat]? =some c):sD l s=c:=by
 unfold sD;rw [hb];simp only [r7];rw [hc];rfl
end
section
/-- the head at the next mark -/
def P3 (h lo fa ru dr we:Int):Int:=max 0 (max 0 (h-h*dr*lo/(100*we))+fa-ru*lo/100)
def gv (s:dv):Prop:=(1≤s.Class∧s.Class≤3)∧cO s.Start 0 200000∧cO s.Od 0 100∧cO s.An 0 1000∧cO s.Weight 50000 800000∧cO s.Fi (-500) 500
instance (s:dv):Decidable (gv s):=by unfold gv;infer_instance
theorem qa {b:Int} (h0:0≤a) (h:a≤b):10*a*a≤10*b*b:=by
 have A:=Int.mul_le_mul (show 10*a≤10*b by omega) h h0 I;exact A
def yj (h r:Int):Prop:=0≤r∧10*r*r≤1962*h∧1962*h<10*(r+1)*(r+1)
theorem BB {r s:Int} (hr:yj h r) (hs:yj h s):r=s:=by
 obtain ⟨C,D,E⟩:=hr;obtain ⟨F,G,H⟩:=hs;rcases Int.lt_trichotomy r s with B|A|B
 ·have:=qa (a:=r+1) (b:=s) I I;omega
 ·exact A
 ·have:=qa (a:=s+1) (b:=r) I I;omega
theorem B0 (hh:0≤h): ∃ r,yj h r:=by
 obtain ⟨m,rfl⟩:=Int.eq_ofNat_of_zero_le hh;have key: ∀ k:Nat,(∃ r,yj (m:Int) r)∨10*(k:Int)*k≤1962*(m:Int):=by
  intro k
  induction k with
  |zero=>right;simp;omega
  |succ k ih=>
   rcases ih with A|A
   ·exact .inl A
   ·by_cases B:10*((k+1:Nat):Int)*((k+1:Nat):Int)≤1962*(m:Int)
    ·exact .inr B
    ·left;refine ⟨k,I,A,?_⟩;have e:((k+1:Nat):Int)=(k:Int)+1:=by omega
     rw [e] at B;omega
 rcases key (1962*m+1) with A|A
 ·exact A
 ·exfalso;have e:(((1962*m+1:Nat):Int))=1962*(m:Int)+1:=by omega
  rw [e] at A;have B:10*(1962*(m:Int)+1)*1≤10*(1962*(m:Int)+1)*(1962*(m:Int)+1):=Int.mul_le_mul (wt _) I I I;omega
noncomputable def kG (h:Int):Int:=if hh:0≤h then Classical.choose (B0 hh) else 0
theorem qO (hh:0≤h):yj h (kG h):=by
 unfold kG;rw [dif_pos hh];exact Classical.choose_spec (B0 hh)
theorem PQ {r:Int} (hh:0≤h) (hr:yj h r):kG h=r:=BB (qO hh) hr
theorem zN (hh:0≤h) (h4:h≤400000):0≤kG h∧kG h≤9000:=by
 obtain ⟨B,D,_⟩:=qO hh;refine ⟨B,?_⟩;rcases AAe 9000 (kG h) with C|A
 ·have:=qa (a:=9000) (b:=kG h) I I;omega
 ·exact A
noncomputable def qj (h:Int):Int:=if 10*kG h*kG h<1962*h then kG h+1 else kG h
theorem SY {x:Int} (hh:0≤h) (h0:0≤x) (hx:x<kG h+1):decide (1962*h<10*x*x)=false:=by
 obtain ⟨A,B,C⟩:=qO hh;have:=qa (a:=x) (b:=kG h) h0 I;exact bj I
theorem Oc {x:Int} (hh:0≤h) (hx:kG h+1≤x):decide (1962*h<10*x*x)=true:=by
 obtain ⟨A,B,C⟩:=qO hh;have:=qa (a:=kG h+1) (b:=x) I hx;exact cT I
theorem FW (hh:0≤h) (h4:h≤400000):0≤qj h∧qj h≤9001:=by
 have:=zN hh h4;unfold qj;split<;>omega
theorem So {x:Int} (hh:0≤h) (h0:0≤x) (hx:x<qj h):decide (1962*h≤10*x*x)=false:=by
 obtain ⟨A,B,C⟩:=qO hh;unfold qj at hx;refine bj ?_;split at hx
 ·have:=qa (a:=x) (b:=kG h) h0 I;omega
 ·have D:=Int.mul_lt_mul' (show 10*x≤10*kG h by omega) hx h0 I;omega
theorem PA {x:Int} (hh:0≤h) (hx:qj h≤x):decide (1962*h≤10*x*x)=true:=by
 obtain ⟨A,B,C⟩:=qO hh;unfold qj at hx;refine cT ?_;split at hx
 ·have:=qa (a:=kG h+1) (b:=x) I hx;omega
 ·have:=qa (a:=kG h) (b:=x) A hx;omega
def l4 (best f:Bool) (s:aa):Int:=if best=f then s.Hi else s.Lo
def IM (best:Bool) (s:dv) (x:ai) (h:Int):Int:=P3 h (l4 best false x.jd) (l4 best true x.kR) (l4 best false s.Od) (l4 best false s.An) (l4 best true s.Weight)
def fy (best:Bool) (s:dv) (ts:List ai):Nat→Int
 |0=>l4 best true s.Start
 |i+1=>match ts[i]? with
  |some x=>IM best s x (fy best s ts i)
  |none=>fy best s ts i
def j_ (best:Bool) (s:dv) (ts:List ai):List Int:=(range (ts.length+1)).map (fy best s ts)
theorem k6 {f:Bool} {s:aa} {lo hi:Int} (h:cO s lo hi):lo≤l4 best f s∧l4 best f s≤hi:=by
 obtain ⟨A,B,C⟩:=h;unfold l4;split<;>omega
theorem Ep {x:ai} (hx:ts[i]? =some x):fy best s ts (i+1)=IM best s x (fy best s ts i):=by simp [fy,hx]
theorem Ai (hs:gv s) (ht:∀ x∈ts,bV x): ∀ i:Nat,0≤fy best s ts i∧fy best s ts i≤200000+5000*(i:Int):=by
 intro i
 induction i with
 |zero=>have:=k6 (best:=best) (f:=true) hs.2.1;simp only [fy];omega
 |succ i ih=>
  simp only [fy];split
  ·rename_i x hx;have hm:=ht x (aF hx);have C:=k6 (best:=best) (f:=true) hm.2.2.1;have D:=k6 (best:=best) (f:=false) hm.2.1;have A:=k6 (best:=best) (f:=false) hs.2.2.1;have B:=k6 (best:=best) (f:=false) hs.2.2.2.1;have E:=k6 (best:=best) (f:=true) hs.2.2.2.2.1;have hq:0≤fy best s ts i*l4 best false s.An*l4 best false x.jd/(100*l4 best true s.Weight):=
    ACP (ACV (ACV ih.1 B.1) I) I
   have hr:0≤l4 best false s.Od*l4 best false x.jd/100:=ACP (ACV A.1 I) I;unfold IM P3;omega
  ·omega
/-- what the iterator of heads yields -/
def qg (best:Bool) (s:dv) (ts:List ai):List (List Value):=(range (ts.length+1)).map fun (i:Nat)=>[.int .i64 (i:Int),.int .i64 (fy best s ts i)]
theorem sB:(qg best s ts).length=ts.length+1:=by simp [qg]
theorem yk (h:i≤ts.length):(qg best s ts)[i]? =some [.int .i64 (i:Int),.int .i64 (fy best s ts i)]:=by
 simp [qg,ABG (show i<ts.length+1 by omega)]
theorem BV {x:List Value} (h:(qg best s ts)[i]? =some x):i≤ts.length∧x=[.int .i64 (i:Int),.int .i64 (fy best s ts i)]:=by
 have hi:i<ts.length+1:=by
  have:=(aR.1 h).1;simpa [qg] using this
 rw [yk I] at h;exact ⟨I,(m3 h).symm⟩
theorem nX:(j_ best s ts).length=ts.length+1:=by simp [j_]
theorem zS (h:i≤ts.length):(j_ best s ts)[i]? =some (fy best s ts i):=by
 simp [j_,ABG (show i<ts.length+1 by omega)]
theorem EZ (h:i≤ts.length):(j_ best s ts).take (i+1)=(j_ best s ts).take i++[fy best s ts i]:=by
 rw [l1,zS h];rfl
theorem Mt (h:i≤ts.length) (h':ts.length≤i):(qg best s ts)[i]? =some [.int .i64 (ts.length:Int),.int .i64 (fy best s ts i)]:=by
 have e:i=ts.length:=by omega
 rw [yk h,e]
theorem AE:(j_ best s ts).take (qg best s ts).length=j_ best s ts:=by
 rw [c5];rw [sB,nX];exact c9 _
theorem AD: ∀ x∈qg best s ts,x.length=2:=by
 intro x hx;simp only [qg,cu] at hx;obtain ⟨i,_,rfl⟩:=hx;rfl
def Bh (s:dv) (ts:List ai) (i:Nat):aa:=⟨fy false s ts i,fy true s ts i⟩
def je (s:dv) (ts:List ai):List aa:=(range (ts.length+1)).map (Bh s ts)
theorem nW:(je s ts).length=ts.length+1:=by simp [je]
theorem Bq (h:i≤ts.length):(je s ts)[i]? =some (Bh s ts i):=by
 simp [je,ABG (show i<ts.length+1 by omega)]
theorem FL (h:i≤ts.length):(je s ts).take (i+1)=(je s ts).take i++[Bh s ts i]:=by
 rw [l1,Bq h];rfl
theorem zu:(je s ts).take (qg false s ts).length=je s ts:=by
 rw [c5];rw [sB,nW];exact c9 _
def jz (s:dv) (ts:List ai):Int:=if cE ts=true then (if gv s then 0 else 30) else 10
theorem Cw (h:cE ts=false):jz s ts=10:=by unfold jz;rw [h];rfl
theorem G9 (h:cE ts=true) (hs:¬ gv s):jz s ts=30:=by unfold jz;rw [c0 h,c1 hs]
theorem s8 (h:cE ts=true) (hs:gv s):jz s ts=0:=by unfold jz;rw [c0 h,c0 hs]
theorem Bu (h:jz s ts=0):cE ts=true∧gv s:=by
 unfold jz at h;split at h
 ·split at h
  ·exact ⟨asm,asm⟩
  ·omega
 ·omega
def sj (s:dv) (ts:List ai):List aa:=if jz s ts=0 then je s ts else []
theorem ye (h:cE ts=true) (hs:gv s):sj s ts=je s ts:=by unfold sj;rw [c0 (s8 h hs)]
theorem LS (h:¬ jz s ts=0):sj s ts=[]:=by unfold sj;rw [c1 h]
def vx (s:dv) (ts:List ai) (jD:Int):Int:=if jz s ts=0 then (if 0≤jD∧jD≤ts.length then 0 else 2) else jz s ts
noncomputable def yh (s:dv) (ts:List ai) (jD:Int):aa:=if jz s ts=0∧0≤jD∧jD≤ts.length then ⟨kG (fy false s ts jD.toNat),qj (fy true s ts jD.toNat)⟩ else ⟨0,0⟩
theorem oj {i:Int} (h:¬ jz s ts=0):yh s ts i=⟨0,0⟩∧vx s ts i=jz s ts:=⟨c1 (fun q=>h q.1),c1 h⟩
theorem mE {i:Int} (h:jz s ts=0) (hi:¬ (0≤i∧i≤ts.length)):yh s ts i=⟨0,0⟩∧vx s ts i=2:=⟨c1 (fun q=>hi q.2),by unfold vx;rw [c0 h,c1 hi]⟩
theorem m0 {i:Int} (h:jz s ts=0) (hi:0≤i∧i≤ts.length):yh s ts i=⟨kG (fy false s ts i.toNat),qj (fy true s ts i.toNat)⟩∧vx s ts i=0:=⟨c0 ⟨h,hi⟩,by unfold vx;rw [c0 h,c0 hi]⟩
end
section
set_option maxRecDepth 20000
def OV:List ai:=[⟨1,⟨1000,1000⟩,⟨100,100⟩,⟨0,0⟩,0,0⟩]
def Vc:dv:=⟨3,⟨50,50⟩,⟨0,0⟩,⟨0,0⟩,⟨60000,60000⟩,⟨0,0⟩⟩
def pj:List ai:=[⟨1,⟨1000,1000⟩,⟨0,0⟩,⟨0,0⟩,0,0⟩,⟨2,⟨1000,1000⟩,⟨0,0⟩,⟨0,0⟩,0,0⟩]
def Na:dv:=⟨1,⟨200,200⟩,⟨0,0⟩,⟨0,0⟩,⟨60000,60000⟩,⟨0,0⟩⟩
theorem Oq:cE OV=true:=by decide
theorem M3:cE pj=true:=by decide
theorem TQ:gv Vc:=by decide
theorem YC:gv Na:=by decide
theorem PY: ∀ x∈OV,0≤x.gp∧x.gp≤255:=by intro x hx;simp only [OV,bH,h_,AAr] at hx;subst hx;simp
theorem zB: ∀ x∈pj,0≤x.gp∧x.gp≤255:=by intro x hx;simp only [pj,bH,h_,AAr] at hx;rcases hx with rfl|rfl<;>simp
theorem AK:jz Vc OV=0∧sj Vc OV=[(aa.mk 50 50),(aa.mk 150 150)]:=⟨s8 Oq TQ,by rw [ye Oq TQ];decide⟩
theorem Gk:yh Na pj 1=(aa.mk 198 199)∧vx Na pj 1=0:=by
 have h:=m0 (i:=1) (s8 M3 YC) dc;have B:fy false Na pj (1:Int).toNat=200:=by decide
 have C:fy true Na pj (1:Int).toNat=200:=by decide
 have A:kG 200=198:=PQ dc ⟨dc,dc,dc⟩;have D:qj 200=199:=by unfold qj;rw [A];decide
 rw [B,C,A,D] at h;exact h
def eM (n:Nat):List dT:=(range n).map fun (k:Nat)=>⟨⟨(k:Int)+1,⟨0,0⟩⟩,0⟩
def eU:aX:=⟨0,[⟨0,⟨0,0⟩⟩]⟩
def lg (ts:List ai) (f:Int):a_:=⟨ts,f,[eU],eM (min (ts.length-1) 6),0,0,0⟩
section
variable {ts us:List ai} {n k:Nat} {f:Int}
theorem mB:(eM n).length=n:=by simp [eM]
theorem Dx:eM (n+1)=eM n++[⟨⟨(n:Int)+1,⟨0,0⟩⟩,0⟩]:=by simp [eM,AAV]
theorem MG {a:RA} (h1:ts.length≤1000000) (h2: ∀ x∈ts,0≤x.gp∧x.gp≤255) (ha:1≤a.2):dW (lg ts f) [a]:=⟨h1,h2,by show (1:Nat)≤1000000;decide,rfl,by show (eM _).length≤_;rw [mB];omega,fun k m b hm hb=>by
 have hk:k=0:=by
  have:=(aR.1 hb).1;simp only [ABQ] at this;omega
 subst hk;have A:eU=m:=m3 (show some eU=some m from hm);have B:a=b:=m3 (show some a=some b from hb);subst A B;exact ⟨ha,dc⟩⟩
end
theorem Nh:fF eU:=⟨dc,dc,fun i x hx=>by
 have hi:=(aR.1 hx).1;have A:i=0:=by
  have:eU.bo.length=1:=rfl;omega
 subst A;have e:(⟨0,⟨0,0⟩⟩:dj)=x:=m3 (show some _=some x from hx);subst e;exact ⟨⟨by rw [gY rfl];decide,dc⟩,dc,dc,dc⟩,fun i k x o hx hk ho=>by
 have hi:=(aR.1 hx).1;have:eU.bo.length=1:=rfl;omega⟩
theorem Jd {f:Int}:mL (lg pj f) 0=1000:=by rw [xX (show (lg pj f).ag[0]? =some ⟨⟨1,⟨0,0⟩⟩,0⟩ from rfl)];rfl
theorem VK:mL (lg pj 199) 0=1000:=Jd
theorem AJ {f:Int} (hf:1≤f∧f≤5000):dU (lg pj f)=0:=Bl M3 ⟨⟨hf,(show fj (lg pj 199) by unfold fj;decide).2⟩,fun c hc=>by rw [bT.1 (show c∈[eU] from hc)];exact Nh,fun b hb=>by
 have A:b∈([⟨⟨1,⟨0,0⟩⟩,0⟩]:List dT):=hb;rw [bT.1 A];exact ⟨⟨⟨dc,by show (1:Int)<(pj.length:Int);decide⟩,_,U,dc⟩,dc,by show (0:Int)<(([eU]:List aX).length:Int);decide⟩,fun i hi=>by
 have B:i=0:=by
  have:(lg pj f).ag.length=1:=rfl;omega
 subst B;rw [Jd];decide⟩
theorem Jc:dU (lg pj 199)=0:=AJ dc
theorem Eu:te (lg pj 199) 0=5026∧pt (lg pj 199) 0=0:=by
 have e:=xe (l:=lg pj 199) Jc (i:=0) dc;refine ⟨?_,e.1⟩;rw [e.2];show ew (lg pj 199) 0=5026
 unfold ew;rw [VK];decide
end
section
open Go.RowKit
set_option linter.unusedSectionVars false
/-- what is asked of keys -/
structure x3 (P:Program) (kt:Nat) {K:Type} (kV:K→Value):Prop where
 check: ∀ (e:Bool) (x:K) (w:World),(Instr.checkKey e 10000 kt (kV x)).run P w= .ok () w
 find: ∀ (x:K) (w:World) (es:List MapEntry),(∀ e∈es,∃ k,e.key=kV k)→
  ((Instr.findKey kt (kV x) es).run P w= .ok none w∧ ∀ e∈es,e.key≠kV x)∨ ∃ j e,(Instr.findKey kt (kV x) es).run P w= .ok (some (j,e.val)) w∧es[j]? =some e∧e.key=kV x
 bits: ∀ x,Instr.sameBits 10000 (kV x) (kV x)=true
 inj: ∀ x y,kV x=kV y→x=y
section
variable {K:Type} [DecidableEq K] {kV:K→Value}
def d_ {β:Type} (l:List (K×β)) (x:K) (y:β):List (K×β):=if (l.lookup x).isSome then l.map (fun p=>if p.1=x then (x,y) else p) else l++[(x,y)]
def cH {β:Type} (l:List (K×β)) (x:K):List (K×β):=l.filter fun p=> !decide (p.1=x)
def bR {β γ:Type} (f:β→γ) (l:List (K×β)):List (K×γ):=l.map fun p=>(p.1,f p.2)
theorem KY (f:β→γ) (l:List (K×β)):(bR f l).length=l.length:=by simp [bR]
theorem oQ {β γ:Type} (f:β→γ) (x:K): ∀ l:List (K×β),(bR f l).lookup x=(l.lookup x).map f
 |[]=>rfl
 |p::l=>by
  obtain ⟨k,v⟩:=p;have ih:=oQ f x l;by_cases h:x=k
  ·subst h;simp [bR,lookup]
  ·have:(x==k)=false:=by simpa using h
   simp only [bR,m2,lookup,this] at ih ⊢;exact ih
theorem gH (f:β→γ) (l:List (K×β)) (x:K) (y:β):bR f (d_ l x y)=d_ (bR f l) x (f y):=by
 unfold d_;rw [oQ,isSome_map];split
 ·simp only [bR,map_map];refine AB0 fun p _=>?_;simp only [Function.comp];split<;>rfl
 ·simp [bR]
theorem mo (f:β→γ) (l:List (K×β)) (x:K):bR f (cH l x)=cH (bR f l) x:=by
 unfold cH bR;rw [List.filter_map];rfl
theorem jg {β:Type} {x:K}: ∀ {l:List (K×β)},l.lookup x=none↔ ∀ p∈l,p.1≠x
 |[]=>by simp
 |p::l=>by
  obtain ⟨k,v⟩:=p;by_cases h:x=k
  ·subst h;simp [lookup]
  ·have hb:(x==k)=false:=by simpa using h
   simp only [lookup,hb,bH,forall_eq_or_imp];rw [jg (l:=l)];exact ⟨fun q=>⟨fun e=>h e.symm,q⟩,fun q=>q.2⟩
theorem ko {β:Type} {x:K} {y:β}: ∀ {l:List (K×β)},(l.map (·.1)).Nodup→((x,y)∈l↔l.lookup x=some y)
 |[],_=>by simp
 |p::l,hn=>by
  obtain ⟨k,v⟩:=p;simp only [m2,AA2] at hn;by_cases h:x=k
  ·subst h;simp only [lookup,ABI,bH,p4,true_and,k4];constructor
   ·rintro (e|e)
    ·exact e.symm
    ·exact absurd (cu.2 ⟨_,e,U⟩) hn.1
   ·intro e;exact .inl e.symm
  ·have hb:(x==k)=false:=by simpa using h
   simp only [lookup,hb,bH,p4,h,false_and,false_or];exact ko hn.2
structure j6 (kV:K→Value) (es:Array MapEntry) (c:Nat) (m:List (K×Value)):Prop where
 list:es.toList.map (fun (e:MapEntry)=>(e.key,e.val))=m.map (fun p=>(kV p.1,p.2))
 keys:(m.map (·.1)).Nodup
 Wm: ∀ e∈es.toList,e.born<c
 born:(es.toList.map (·.born)).Nodup
def iu (kV:K→Value) (b:Nat) (m:List (K×Value)):ar where
 fP k:=k=b
 wf k:=k=b
 holds w:= ∃ es c,w.heap[b]? =some (.map es c)∧j6 kV es c m
 wr:=true
 l7 _ h:=h
 whole _ _ h:=h
 lt w h k hk:=by obtain ⟨es,c,he,_⟩:=h;exact hk▸eH he
 qK w w' hk h:=by obtain ⟨es,c,he,hm⟩:=h;exact ⟨es,c,(hk b rfl).trans he,hm⟩
theorem j6.nil:j6 kV #[] 0 []:=⟨rfl,ABt,sm,ABt⟩
theorem j6.size {es:Array MapEntry} {c:Nat} {m:List (K×Value)} (h:j6 kV es c m):es.size=m.length:=by
 have:=c7 List.length h.list;simpa using this
theorem Hl {kt:Nat} (hk:x3 P kt kV) (x:K): ∀ (es:List MapEntry) (m:List (K×Value)),es.map (fun (e:MapEntry)=>(e.key,e.val))=m.map (fun p=>(kV p.1,p.2))→
 ((∀ e∈es,e.key≠kV x)→m.lookup x=none)∧ ∀ (j:Nat) (e:MapEntry),es[j]? =some e→e.key=kV x→m[j]? =some (x,e.val):=by
 intro es m h;refine ⟨fun hn=>jg.2 fun p hp e=>?_,fun j e he hx=>?_⟩
 ·have:(kV p.1,p.2)∈es.map (fun (e:MapEntry)=>(e.key,e.val)):=by rw [h];exact cu.2 ⟨p,hp,rfl⟩
  obtain ⟨z,hz,B⟩:=cu.1 this;simp only [p4] at B;exact hn z hz (by rw [B.1,e])
 ·have A:(es.map (fun (e:MapEntry)=>(e.key,e.val)))[j]? =some (e.key,e.val):=by rw [gM,he];rfl
  rw [h,gM] at A;cases hm:m[j]? with
  |none=>simp [hm] at A
  |some p=>
   simp only [hm,AAA,k4,p4] at A;have:=hk.inj _ _ (A.1.trans hx);obtain ⟨k,v⟩:=p;simp only at this A;rw [this,A.2]
theorem q8 {w:World} {kt:Nat} {x:K} {es:Array MapEntry} {c:Nat} {m:List (K×Value)} (hk:x3 P kt kV) (h:j6 kV es c m):
 ((Instr.findKey kt (kV x) es.toList).run P w= .ok none w∧m.lookup x=none)∨
 ∃ j v,(Instr.findKey kt (kV x) es.toList).run P w= .ok (some (j,v)) w∧m[j]? =some (x,v)∧m.lookup x=some v:=by
 obtain ⟨D,E⟩:=Hl hk x es.toList m h.list;rcases hk.find x w es.toList (fun e he=>by
  have:(e.key,e.val)∈m.map (fun p=>(kV p.1,p.2)):=by rw [← h.list];exact cu.2 ⟨e,he,rfl⟩
  obtain ⟨p,_,hp⟩:=cu.1 this;simp only [p4] at hp;exact ⟨p.1,hp.1.symm⟩) with ⟨A,B⟩|⟨j,e,A,B,C⟩
 ·exact .inl ⟨A,D B⟩
 ·have:=E j e B C;exact .inr ⟨j,e.val,A,this,(ko h.keys).1 (aF this)⟩
theorem jS {w:World} {kt:Nat} {x:K} (hk:x3 P kt kV) (e:Bool):(Instr.checkKey e 10000 kt (kV x)).run P w= .ok () w:=hk.check e x w
section
variable {E:fM} {ops:Array Oper} {Q:dk} {rest:List Oper} {D:List Deferred} {L:List (Nat×Value)} {C:List ar}
variable {dst:Option Tmp} {d:Nat} {ty:TypeId} {ps:String} {af:Array Edge} {g:Option (Nat×Bool)}
theorem lj {t:TypeId} (hg:kB ops L g=true) (hd:blt d E.n=true) (k: ∀ b,RJ E ops Q rest D ((d,.map (some b))::L) (iu kV b []::C)):RJ E ops Q (⟨some d,.makeMap t none,ty,ps,af,g⟩::rest) D L C:=by
 intro a w B hs;have hd':d<E.n:=by rw [← u7];exact hd
 unfold uM;rw [c0 (eI B hg)];refine jv (v:= .map (some w.heap.size)) (w':=w.alloc (.map #[] 0)) sm ?_ ?_
 ·simp [execOp,Instr.makeMap,newObj,Sem.run]
 ·refine k _ _ _ (B.put hd' _) (hs.grow (ed.alloc no w _) (N:=[iu kV w.heap.size []]) ⟨fun A hA=>?_,fun A hA b hb=>?_,AAY _ _⟩)
  ·simp at hA;subst hA;exact ⟨#[],0,ACA w _,j6.nil⟩
  ·simp at hA;subst hA;exact ACI (Eq.symm hb)
theorem j6.push {es:Array MapEntry} {c:Nat} {m:List (K×Value)} (h:j6 kV es c m) {x:K} (hx:m.lookup x=none) (v:Value):j6 kV (es.push {key:=kV x,val:=v,born:=c}) (c+1) (m++[(x,v)]):=by
 refine ⟨by simp [h.list],?_,?_,?_⟩
 ·rw [AAF,ABs];refine ⟨h.keys,sm,fun a ha b hb=>?_⟩;simp at hb;subst hb;obtain ⟨p,hp,rfl⟩:=cu.1 ha;exact jg.1 hx p hp
 ·intro e he;simp only [Array.toList_push,dY,bT] at he;rcases he with he|rfl
  ·exact Nat.lt_succ_of_lt (h.Wm e he)
  ·exact ABb _
 ·simp only [Array.toList_push,AAF,m2,map_nil];rw [ABs];refine ⟨h.born,sm,fun a ha b hb=>?_⟩;simp at hb;subst hb;obtain ⟨p,hp,rfl⟩:=cu.1 ha;exact Nat.ne_of_lt (h.Wm p hp)
theorem RZ {m:List (K×Value)} {j:Nat} {x:K} (hn:(m.map (·.1)).Nodup) (hj:m[j]? =some (x,v0)):m.map (fun p=>if p.1=x then (x,v) else p)=m.set j (x,v):=by
 refine ABF fun i=>?_;rw [gM,AAO];by_cases e:j=i
 ·subst e;have hl:=(aR.1 hj).1;rw [hj];simp [hl]
 ·rw [c1 e];cases hi:m[i]? with
  |none=>rfl
  |some p=>
   simp only [AAA];rw [c1];intro hp;have B:(m.map (·.1))[i]? =some x:=by rw [gM,hi];simp [hp]
   have C:(m.map (·.1))[j]? =some x:=by rw [gM,hj];rfl
   have A:=(aR.1 B).1;exact e (((ACa A hn).1 (B.trans C.symm)).symm)
theorem j6.set {es:Array MapEntry} {c:Nat} {m:List (K×Value)} (h:j6 kV es c m) {x:K} {j:Nat} (hj:m[j]? =some (x,v0)) (hx:m.lookup x=some v0) (v:Value):
 j6 kV (es.modify j fun e=>{e with key:=kV x,val:=v}) c (d_ m x v):=by
 have C:d_ m x v=m.set j (x,v):=by unfold d_;rw [hx];simpa using RZ h.keys hj
 have hl:=(aR.1 hj).1;have E:=h.size;have A:j<es.size:=by omega
 have B:(es.modify j fun e=>{e with key:=kV x,val:=v}).toList=es.toList.set j {(es[j]) with key:=kV x,val:=v}:=by
  refine ABF fun i=>?_;rw [Array.getElem?_toList,Array.getElem?_modify,AAO];by_cases e:j=i
  ·subst e;simp [A]
  ·simp [e]
 have D:(es.toList.set j {(es[j]) with key:=kV x,val:=v}).map (·.born)=es.toList.map (·.born):=by
  rw [AAl];refine ABF fun i=>?_;rw [AAO];by_cases e:j=i
  ·subst e;simp [A]
  ·rw [c1 e]
 refine ⟨?_,?_,?_,?_⟩
 ·rw [B,C,AAl,AAl,h.list]
 ·rw [C,AAl];have:(m.map (·.1)).set j x=m.map (·.1):=by
   refine ABF fun i=>?_;rw [AAO];by_cases e:j=i
   ·subst e;simp [hl];simpa using (c7 Prod.fst ((aR.1 hj).2)).symm
   ·rw [c1 e]
  simp only [this];exact h.keys
 ·intro e he;rw [B] at he;have hb:e.born∈(es.toList.set j {(es[j]) with key:=kV x,val:=v}).map (·.born):=cu.2 ⟨e,he,rfl⟩;rw [D] at hb;obtain ⟨e',he',hq⟩:=cu.1 hb;rw [← hq];exact h.Wm e' he'
 ·rw [B,D];exact h.born
/-- m[x] = y -/
theorem iP {t:TypeId} {x:K} {m m':List (K×Value)} (i:Nat) (hg:kB ops L g=true) (hm:ev L xm=some (.map (some b))) (hk:ev L xk=some (kV x)) (hv:ev L xv=some v) (ht:E.P.underlying t=some (.map kt et)) (hkt:x3 E.P kt kV) (hC:C[i]? =some (iu kV b m)) (hm':d_ m x v=m') (hC':C.set i (iu kV b m')=C') (k:RJ E ops Q rest D L C'):
 RJ E ops Q (⟨none,.mapUpdate t xm xk xv,ty,ps,af,g⟩::rest) D L C:=by
 subst hm' hC';intro a w A hs;unfold uM;rw [c0 (eI A hg)];obtain ⟨es,c,he,hi⟩:=hs.holds _ (aF hC);have B:(getObj b).run E.P w= .ok (.map es c) w:=AAc he;rcases q8 (P:=E.P) (w:=w) (x:=x) hkt hi with ⟨AA,F⟩|⟨j,N,AA,F,J⟩
 ·refine uN (w':={w with heap:=w.heap.setIfInBounds b (.map (es.push {key:=kV x,val:=v,born:=c}) (c+1))}) sm ?_ ?_
  ·simp [execOp,A.ev hm,A.ev hk,A.ev hv,Instr.mapUpdate,k3 ht,B,jS hkt,AA,AA6 _ he]
  ·refine k _ _ ⟨A.defers,A.size,A.at_⟩ (hs.Ct (b:=b) i hC U U (oY _) (fun _ h=>h) ⟨_,_,rz he,?_⟩);have:d_ m x v=m++[(x,v)]:=by unfold d_;rw [F];rfl
   rw [this];exact hi.push F v
 ·have M:=hi.size;have G:j<es.size:=by have:=(aR.1 F).1;omega
  have H:(es[j]).key=kV x:=by
   have:=c7 (fun l=>l[j]?) hi.list;simp [G,F] at this;exact this.1
  refine uN (w':={w with heap:=w.heap.setIfInBounds b (.map (es.modify j fun e=>{e with key:=kV x,val:=v}) c)}) sm ?_ ?_
  ·simp [execOp,A.ev hm,A.ev hk,A.ev hv,Instr.mapUpdate,k3 ht,B,jS hkt,AA,AA6 _ he,Instr.keyThatStays,G,H,hkt.bits x]
  ·exact k _ _ ⟨A.defers,A.size,A.at_⟩ (hs.Ct (b:=b) i hC U U (oY _) (fun _ h=>h) ⟨_,_,rz he,hi.set F J v⟩)
theorem j6.del {es:Array MapEntry} {c:Nat} {m:List (K×Value)} (h:j6 kV es c m) {x:K} {j:Nat} (hj:m[j]? =some (x,v0)):j6 kV (es.eraseIdxIfInBounds j) c (cH m x):=by
 have hl:=(aR.1 hj).1;have D:=h.size;have A:j<es.size:=by omega
 have B:(es.eraseIdxIfInBounds j).toList=es.toList.eraseIdx j:=by simp [Array.eraseIdxIfInBounds,A]
 have E:cH m x=m.eraseIdx j:=by
  have hn:=h.keys;clear h D A B
  induction m generalizing j with
  |nil=>simp at hj
  |cons p m ih=>
   obtain ⟨k,v⟩:=p;simp only [m2,AA2] at hn;cases j with
   |zero=>
    simp at hj;obtain ⟨rfl,rfl⟩:=hj;simp only [cH,List.eraseIdx_zero,List.tail_cons];rw [AAj sm];refine ABi.2 fun p hp=>?_;have:p.1≠k:=fun e=>hn.1 (cu.2 ⟨p,hp,e⟩);simpa using this
   |succ j=>
    simp only [List.getElem?_cons_succ] at hj;have C:k≠x:=fun e=>hn.1 (cu.2 ⟨_,aF hj,e.symm⟩);simp only [cH,List.eraseIdx_cons_succ] at ih ⊢;rw [AAi (by simpa using C),ih hj (by simpa using (aR.1 hj).1) hn.2]
 have sub:(es.eraseIdxIfInBounds j).toList.Sublist es.toList:=by rw [B];exact List.eraseIdx_sublist _ _
 refine ⟨?_,?_,fun e he=>h.Wm e (sub.subset he),h.born.sublist (sub.map _)⟩
 ·rw [B,E,ChangeMaps.map_eraseIdx,ChangeMaps.map_eraseIdx,h.list]
 ·rw [E];exact h.keys.sublist ((List.eraseIdx_sublist _ _).map _)
theorem Ii {m:List (K×Value)} {x:K} (h:m.lookup x=none):cH m x=m:=ABi.2 fun p hp=>by simpa using jg.1 h p hp
/-- y, ok := m[x] -/
theorem Nu {t:TypeId} {x:K} {z:Value} {m:List (K×Value)} (hg:kB ops L g=true) (hm:ev L xm=some (.map (some b))) (hk:ev L xk=some (kV x)) (ht:E.P.underlying t=some (.map kt et)) (hkt:x3 E.P kt kV) (hz:tV E.P et=some z) (hC:ij C (iu kV b m).holds):
 SD E ops ⟨dst,.lookup t xm xk true,ty,ps,af,g⟩ D L C (.tuple [(m.lookup x).getD z,.bool (m.lookup x).isSome].toArray):=
 eo hg sm fun a w A hs=>by
  obtain ⟨es,c,he,hi⟩:=hs.has hC;have B:(getObj b).run E.P w= .ok (.map es c) w:=AAc he;rcases q8 (P:=E.P) (w:=w) (x:=x) hkt hi with ⟨F,G⟩|⟨j,AA,F,G,H⟩
  ·simp [execOp,Instr.lookup,A.ev hm,A.ev hk,k3 ht,B,jS hkt,F,G,Pu hz]
  ·simp [execOp,Instr.lookup,A.ev hm,A.ev hk,k3 ht,B,jS hkt,F,H]
/-- m[x] -/
theorem KN {t:TypeId} {x:K} {z:Value} {m:List (K×Value)} (hg:kB ops L g=true) (hm:ev L xm=some (.map (some b))) (hk:ev L xk=some (kV x)) (ht:E.P.underlying t=some (.map kt et)) (hkt:x3 E.P kt kV) (hz:tV E.P et=some z) (hC:ij C (iu kV b m).holds):
 SD E ops ⟨dst,.lookup t xm xk false,ty,ps,af,g⟩ D L C ((m.lookup x).getD z):=
 eo hg sm fun a w A hs=>by
  obtain ⟨es,c,he,hi⟩:=hs.has hC;have B:(getObj b).run E.P w= .ok (.map es c) w:=AAc he;rcases q8 (P:=E.P) (w:=w) (x:=x) hkt hi with ⟨F,G⟩|⟨j,AA,F,G,H⟩
  ·simp [execOp,Instr.lookup,A.ev hm,A.ev hk,k3 ht,B,jS hkt,F,G,Pu hz]
  ·simp [execOp,Instr.lookup,A.ev hm,A.ev hk,k3 ht,B,jS hkt,F,H]
/-- len(m) -/
theorem Oy {t:TypeId} {m:List (K×Value)} (hg:kB ops L g=true) (hm:ev L xm=some (.map (some b))) (ht:E.P.underlying t=some (.map kt et)) (hC:ij C (iu kV b m).holds):
 SD E ops ⟨dst,.call {callee:= .builtin .len,args:= #[xm],argTypes:= #[t]},ty,ps,af,g⟩ D L C (.int .i64 (m.length:Int)):=
 eo hg sm fun a w B hs=>by
  obtain ⟨es,c,he,hi⟩:=hs.has hC;have A:(getObj b).run E.P w= .ok (.map es c) w:=AAc he;simp [execOp,resolve,invoke,builtin,B.ev hm,Builtin.len_,k3 ht,A,hi.size,goInt]
theorem rK {t:TypeId} {x:K} {f:β→Value} {z:β} {l:List (K×β)} (hg:kB ops L g=true) (hm:ev L xm=some (.map (some b))) (hk:ev L xk=some (kV x)) (ht:E.P.underlying t=some (.map kt et)) (hkt:x3 E.P kt kV) (hz:tV E.P et=some (f z)) (hC:ij C (iu kV b (bR f l)).holds):
 SD E ops ⟨dst,.lookup t xm xk true,ty,ps,af,g⟩ D L C (.tuple [f ((l.lookup x).getD z),.bool (l.lookup x).isSome].toArray):=by
 have:=Nu (dst:=dst) (ty:=ty) (ps:=ps) (af:=af) (D:=D) hg hm hk ht hkt hz hC;rw [oQ] at this;have A:((l.lookup x).map f).getD (f z)=f ((l.lookup x).getD z):=by cases l.lookup x<;>rfl
 rw [A,isSome_map] at this;exact this
theorem mF {t:TypeId} {x:K} {f:β→Value} {z:β} {l:List (K×β)} (hg:kB ops L g=true) (hm:ev L xm=some (.map (some b))) (hk:ev L xk=some (kV x)) (ht:E.P.underlying t=some (.map kt et)) (hkt:x3 E.P kt kV) (hz:tV E.P et=some (f z)) (hC:ij C (iu kV b (bR f l)).holds):
 SD E ops ⟨dst,.lookup t xm xk false,ty,ps,af,g⟩ D L C (f ((l.lookup x).getD z)):=by
 have:=KN (dst:=dst) (ty:=ty) (ps:=ps) (af:=af) (D:=D) hg hm hk ht hkt hz hC;rw [oQ] at this;have A:((l.lookup x).map f).getD (f z)=f ((l.lookup x).getD z):=by cases l.lookup x<;>rfl
 rw [A] at this;exact this
theorem Ib {t:TypeId} {f:β→Value} {l:List (K×β)} (hg:kB ops L g=true) (hm:ev L xm=some (.map (some b))) (ht:E.P.underlying t=some (.map kt et)) (hC:ij C (iu kV b (bR f l)).holds):
 SD E ops ⟨dst,.call {callee:= .builtin .len,args:= #[xm],argTypes:= #[t]},ty,ps,af,g⟩ D L C (.int .i64 (l.length:Int)):=by
 have:=Oy (dst:=dst) (ty:=ty) (ps:=ps) (af:=af) (D:=D) hg hm ht hC
 rwa [KY] at this
end
theorem e7 {x:K} {y:β} {l:List (K×β)} (h:(x,y)∈l):(cH l x).length<l.length:=by
 unfold cH;exact ABy.2 ⟨_,h,sm⟩
theorem lJ {x:K} {p:K×β} {l:List (K×β)}:p∈cH l x↔p∈l∧p.1≠x:=by simp [cH]
/-- an iterator over a map: what is left; what came last -/
def CF (kV:K→Value) (r b:Nat) (m left:List (K×Value)) (cur:Option (K×Value)):ar where
 fP k:=k=r∨k=b
 wf k:=k=r∨k=b
 holds w:=r≠b∧ ∃ (es:Array MapEntry) (c since:Nat) (seen:Array Nat) (st:Nat),w.heap[b]? =some (.map es c)∧j6 kV es c m∧w.heap[r]? =some (.mapIter (some b) since seen st)∧(∀ e∈es.toList,e.born<since)∧since≤st∧since≤c∧
  (leftOf es seen).toList.map (fun (e:MapEntry)=>(e.key,e.val))=left.map (fun p=>(kV p.1,p.2))∧
  ∀ p,cur=some p→ ∃ (e:MapEntry) (seen0:Array Nat),e∈es.toList∧seen=seen0.push e.born∧st=c∧e.key=kV p.1∧e.val=p.2
 wr:=true
 l7 _ h:=h
 whole _ _ h:=h
 lt w h k hk:=by
  obtain ⟨_,es,c,since,seen,st,h1,_,h2,_⟩:=h
  rcases hk with rfl|rfl
  ·exact eH h2
  ·exact eH h1
 qK w w' hk h:=by
  obtain ⟨hne,es,c,since,seen,st,h1,h2,h3,h4⟩:=h
  exact ⟨hne,es,c,since,seen,st,(hk b (.inr rfl)).trans h1,h2,(hk r (.inl rfl)).trans h3,h4⟩
theorem z8 {r:Nat} {m left:List (K×Value)} {cur:Option (K×Value)}:(∀ w,(CF kV r b m left cur).holds w→(CF kV r b m left none).holds w)∧(∀ k,(CF kV r b m left none).fP k→(CF kV r b m left cur).fP k)∧ ∀ k,(CF kV r b m left none).wf k→(CF kV r b m left cur).wf k:=
 ⟨fun w h=>by
  obtain ⟨A,es,c,since,seen,st,B,C,D,E,F,h5',G,_⟩:=h;exact ⟨A,es,c,since,seen,st,B,C,D,E,F,h5',G,fun p hp=>by cases hp⟩,fun _ h=>h,fun _ h=>h⟩
theorem QD {r:Nat} {m left:List (K×Value)} {cur:Option (K×Value)}:(∀ w,(CF kV r b m left cur).holds w→(iu kV b m).holds w)∧(∀ k,(iu kV b m).fP k→(CF kV r b m left cur).fP k)∧ ∀ k,(iu kV b m).wf k→(CF kV r b m left cur).wf k:=
 ⟨fun w h=>by
  obtain ⟨C,es,c,since,seen,st,A,B,_⟩:=h;exact ⟨es,c,A,B⟩,fun _ h=> .inr h,fun _ h=> .inr h⟩
theorem Gx {es:Array MapEntry} {c:Nat} {m:List (K×Value)} (hinj: ∀ x y,kV x=kV y→x=y) (hi:j6 kV es c m) {x y:MapEntry} (hx:x∈es.toList) (hy:y∈es.toList) (e:x.key=y.key):x=y:=by
 have hk:(es.toList.map (·.key))=(m.map (·.1)).map kV:=by
  have:=c7 (List.map Prod.fst) hi.list;simpa [ABU] using this
 have h:(es.toList.map (·.key)).Nodup:=by
  rw [hk,s5,AAK];exact hi.keys.imp (fun B he=>B (hinj _ _ he))
 obtain ⟨i,A⟩:=s3 hx;obtain ⟨j,hj⟩:=s3 hy;have C:(es.toList.map (·.key))[i]? =some x.key:=by rw [gM,A];rfl
 have D:(es.toList.map (·.key))[j]? =some x.key:=by rw [gM,hj,e];rfl
 have E:=(ACa (aR.1 C).1 h).1 (C.trans D.symm);subst E;exact m3 (A.symm.trans hj)
section
variable {E:fM} {ops:Array Oper} {Q:dk} {rest:List Oper} {D:List Deferred} {L:List (Nat×Value)} {C:List ar}
variable {dst:Option Tmp} {d:Nat} {ty:TypeId} {ps:String} {af:Array Edge} {g:Option (Nat×Bool)}
theorem xO {t:TypeId} {m:List (K×Value)} (i:Nat) (hg:kB ops L g=true) (hm:ev L xm=some (.map (some b))) (ht:E.P.underlying t=some (.map kt et)) (hC:C[i]? =some (iu kV b m)) (hd:blt d E.n=true) (k:∀ r,RJ E ops Q rest D ((d,.pointer (some ⟨r,0,none⟩))::L) (C.set i (CF kV r b m m none))):RJ E ops Q (⟨some d,.range t xm,ty,ps,af,g⟩::rest) D L C:=by
 intro a w A hs;have hd':d<E.n:=by rw [← u7];exact hd
 unfold uM;rw [c0 (eI A hg)];obtain ⟨es,c,he,hi⟩:=hs.holds _ (aF hC);have F:b<w.heap.size:=eH he;have B:(getObj b).run E.P w= .ok (.map es c) w:=AAc he;refine jv (v:= .pointer (some ⟨w.heap.size,0,none⟩)) (w':=w.alloc (.mapIter (some b) c #[] c)) sm ?_ ?_
 ·simp [execOp,Instr.range,A.ev hm,k3 ht,B,newObj,Sem.run]
 ·refine k _ _ _ (A.put hd' _) (hs.mv i hC ⟨⟨I,es,c,c,#[],c,?_,hi,ACA w _,hi.Wm,c9 _,c9 _,?_,fun p hp=>by cases hp⟩,ed.alloc _ w _,fun q hq=>?_,fun q hq=>?_⟩)
  ·rw [ABe w _ b F];exact he
  ·have:leftOf es #[]=es:=by unfold leftOf;exact Array.filter_eq_self.2 sm
   rw [this];exact hi.list
  ·rcases hq with rfl|rfl
   ·exact .inr (c9 _)
   ·exact .inl U
  ·rcases hq with rfl|rfl
   ·exact .inr (c9 _)
   ·exact .inl U
theorem Br {es:Array MapEntry} {c:Nat} {m left:List (K×Value)} {seen:Array Nat} (hinj: ∀ x y,kV x=kV y→x=y) (hi:j6 kV es c m) (h:(leftOf es seen).toList.map (fun (e:MapEntry)=>(e.key,e.val))=left.map (fun p=>(kV p.1,p.2))):(left.map (·.1)).Nodup:=by
 have B:((leftOf es seen).toList.map (·.key)).Sublist (es.toList.map (·.key)):=by
  unfold leftOf;rw [AA4];exact AA3.map _
 have D:(es.toList.map (·.key))=(m.map (·.1)).map kV:=by
  have:=c7 (List.map Prod.fst) hi.list;simpa [ABU] using this
 have E:((leftOf es seen).toList.map (·.key))=(left.map (·.1)).map kV:=by
  have:=c7 (List.map Prod.fst) h;simpa [ABU] using this
 rw [D,E] at B;have F:((m.map (·.1)).map kV).Nodup:=by
  rw [s5,AAK];exact hi.keys.imp (fun A he=>A (hinj _ _ he))
 have C:=F.sublist B;rw [s5,AAK] at C;rw [s5];exact C.imp (fun A he=>A (by rw [he]))
theorem Pj (hinj:∀ x y,kV x=kV y→x=y) {r:Nat} {m left:List (K×Value)} {cur:Option (K×Value)} (i:Nat) (hg:kB ops L g=true) (hm:ev L xi=some (.pointer (some ⟨r,0,none⟩))) (hC:C[i]? =some (CF kV r b m left cur)) (hd:blt d E.n=true) (k0:left=[]→RJ E ops Q rest D ((d,.tuple [.bool false].toArray)::L) C) (k1:∀ x v,(x,v)∈left→(left.map (·.1)).Nodup→RJ E ops Q rest D ((d,.tuple [.bool true,kV x,v].toArray)::L) (C.set i (CF kV r b m (cH left x) (some (x,v))))):
 RJ E ops Q (⟨some d,.next xi false,ty,ps,af,g⟩::rest) D L C:=by
 intro a w G hs;have hd':d<E.n:=by rw [← u7];exact hd
 unfold uM;rw [c0 (eI G hg)];obtain ⟨R,es,c,since,seen,st,X,hi,Y,J,V,M,A,_⟩:=hs.holds _ (aF hC);rcases run_next_at (P:=E.P) w ty r b since st seen es c Y X J V with ⟨Z,hr⟩|⟨e,he,N,H,hr⟩
 ·refine jv (v:= .tuple #[.bool false]) (w':=w) sm ?_ ?_
  ·simp [execOp,G.ev hm,hr]
  ·refine k0 ?_ _ _ (G.put hd' _) hs;have:(leftOf es seen).toList=[]:=by rw [← ABk,ABH];exact Z
   rw [this] at A;exact ABh.1 A.symm
 ·have O:(e.key,e.val)∈left.map (fun p=>(kV p.1,p.2)):=by rw [← A];exact cu.2 ⟨e,he,rfl⟩
  obtain ⟨p,hp,S⟩:=cu.1 O;obtain ⟨x,v⟩:=p;simp only [p4] at S;obtain ⟨hk,hv⟩:=S;refine jv (v:= .tuple #[.bool true,e.key,e.val]) (w':=ChangeMaps.setBlock N r (.mapIter (some b) since (seen.push e.born) c)) sm ?_ ?_
  ·simp [execOp,G.ev hm,hr]
  ·rw [← hk,← hv];have AA:=Br hinj hi A;have F:e∈es.toList:=by unfold leftOf at he;rw [AA4] at he;exact (n3.1 he).1
   have f:c=c:=rfl;have B:N.heap=w.heap:=by rcases H with rfl|rfl<;>rfl
   refine k1 x v hp AA _ _ (G.put hd' _) (hs.mv i hC ⟨⟨R,es,c,since,seen.push e.born,c,?_,hi,?_,J,M,M,?_,fun q hq=>?_⟩,?_,fun q hq=> .inl hq,fun q hq=> .inl hq⟩)
   ·show (N.heap.setIfInBounds r _)[b]? =_
    rw [e5 R,B];exact X
   ·show (N.heap.setIfInBounds r _)[r]? =_
    rw [c8 (by rw [B];exact eH Y)]
   ·have T:leftOf es (seen.push e.born)=(leftOf es seen).filter (fun z=> !(z.born==e.born)):=by
     unfold leftOf;rw [Array.filter_filter];congr 1;funext z;simp only [Array.contains_push,Bool.not_or];rw [Bool.and_comm]
    rw [T,AA4];have key: ∀ (l:List MapEntry) (ll:List (K×Value)),(∀ z∈l,z∈es.toList)→l.map (fun (e:MapEntry)=>(e.key,e.val))=ll.map (fun p=>(kV p.1,p.2))→
     (l.filter (fun z=> !(z.born==e.born))).map (fun (e:MapEntry)=>(e.key,e.val))=(cH ll x).map (fun p=>(kV p.1,p.2)):=by
     intro l
     induction l with
     |nil=>intro ll _ h;cases ll with
      |nil=>rfl
      |cons p ll=>simp at h
     |cons z l ih=>
      intro ll hz h;cases ll with
      |nil=>simp at h
      |cons p ll=>
       simp only [m2,ABo,p4] at h;have ih':=ih ll (fun y hy=>hz y (by simp [hy])) h.2;have AB:(z.born=e.born)↔(p.1=x):=by
        constructor
        ·intro hb;have:z=e:=GA hi.born (hz z sm) F hb;rw [this] at h;have:=h.1.1.symm.trans hk.symm;exact hinj _ _ this
        ·intro hx;have W:z.key=e.key:=by rw [h.1.1,hx,hk]
         rw [Gx hinj hi (hz z sm) F W]
       unfold cH at ih' ⊢;by_cases hx:p.1=x
       ·rw [AAj (by simp [AB.2 hx]),AAj (by simp [hx])];exact ih'
       ·rw [AAi (by simpa using fun hb=>hx (AB.1 hb)),AAi (by simpa using hx)];simp only [m2,h.1.1,h.1.2,ih']
    exact key _ _ (fun z hz=>by unfold leftOf at hz;rw [AA4] at hz;exact (n3.1 hz).1) A
   ·cases hq;exact ⟨e,seen,F,U,U,hk.symm,hv.symm⟩
   ·refine ⟨?_,?_,?_,?_,fun q hq hn=>?_⟩
    ·rcases H with rfl|rfl<;>rfl
    ·rcases H with rfl|rfl<;>rfl
    ·rcases H with rfl|rfl<;>rfl
    ·show w.heap.size≤(N.heap.setIfInBounds r _).size
     simp [B]
    ·show (N.heap.setIfInBounds r _)[q]? =_
     rw [e5 (fun e=>hn (.inl e.symm)),B]
theorem vK {r:Nat} {m left:List (K×Value)} {x:K} (i:Nat) (hg:kB ops L g=true) (hm:ev L xi=some (.pointer (some ⟨r,0,none⟩))) (hC:C[i]? =some (CF kV r b m left (some (x,v)))):
 SD E ops ⟨dst,.entry xi,ty,ps,af,g⟩ D L C (.tuple [kV x,v].toArray):=
 eo hg sm fun a w F hs=>by
  obtain ⟨N,es,c,since,seen,st,J,hi,M,H,O,AA,G,B⟩:=hs.holds _ (aF hC);obtain ⟨e,A,he,rfl,rfl,hk,hv⟩:=B _ rfl;have:=run_entry_at (P:=E.P) w r b since A es st e M J he hi.born;simp [execOp,F.ev hm,this,hk,hv]
theorem vp (hinj:∀ x y,kV x=kV y→x=y) {f:β→Value} {r:Nat} {m:List (K×Value)} {ll:List (K×β)} {cur:Option (K×Value)} (i:Nat) (hg:kB ops L g=true) (hm:ev L xi=some (.pointer (some ⟨r,0,none⟩))) (hC:C[i]? =some (CF kV r b m (bR f ll) cur)) (hd:blt d E.n=true) (k0:ll=[]→RJ E ops Q rest D ((d,.tuple [.bool false].toArray)::L) C) (k1:∀ x y,(x,y)∈ll→(ll.map (·.1)).Nodup→RJ E ops Q rest D ((d,.tuple [.bool true,kV x,f y].toArray)::L) (C.set i (CF kV r b m (bR f (cH ll x)) (some (x,f y))))):
 RJ E ops Q (⟨some d,.next xi false,ty,ps,af,g⟩::rest) D L C:=by
 refine Pj hinj i hg hm hC hd (fun h=>k0 (ABh.1 h)) (fun x v B hn=>?_);obtain ⟨p,hp,A⟩:=cu.1 B;simp only [p4] at A;obtain ⟨rfl,rfl⟩:=A;have:=k1 p.1 p.2 hp (by simpa [bR,ABU] using hn)
 rwa [mo] at this
end
end
end
section
structure cw where
 Start:Int
 hU:Int
 sH:List Int
 CI:List (List (Int×aa))
 di:Int
 e_:Int
 ZZ:Int
def cw.n (w:cw):Nat:=w.sH.length
def gT (s:Int):aI:=if s<0 then ⟨0,1⟩ else ⟨1,0⟩
def dZ (a b:aI):aI:=⟨a.right+b.right,a.fK+b.fK⟩
def zk (w:cw) (b:Nat):List (Int×aa):=(w.CI[b]?).getD []
def kX (w:cw) (b:Nat):List (Int×aa):=(-1,⟨w.Start,w.hU⟩)::zk w b
def cU (w:cw) (b:Nat):Int:=(w.sH[b]?).getD 0
def oE (w:cw) (b:Nat) (p:aI×Int) (o:Int×aa):Option (aI×Int):=if max (p.2+cU w b) o.2.Lo≤min o.2.Hi w.hU then some (dZ p.1 (gT o.1),max (p.2+cU w b) o.2.Lo) else none
def sE (w:cw):Nat→List (aI×Int)
 |0=>[(⟨0,0⟩,w.Start)]
 |b+1=>(sE w b).flatMap fun p=>(kX w b).filterMap (oE w b p)
def rr (w:cw) (b:Nat) (p:aI×Int) (o:Int×aa):Option (aI×Int):=if o.2.Lo≤min p.2 o.2.Hi then some (dZ p.1 (gT o.1),min p.2 o.2.Hi-cU w b) else none
def TE (w:cw):Nat→List (aI×Int)
 |0=>[(⟨0,0⟩,w.hU)]
 |k+1=>(⟨0,0⟩,w.hU)::(TE w k).flatMap fun p=>(kX w (w.n-(k+1))).filterMap (rr w (w.n-(k+1)) p)
def back (w:cw) (b:Nat):List (aI×Int):=TE w (w.n-b)
def oH (w:cw) (t:aI):Bool:=decide (t.fK≤w.di∧w.ZZ-t.right≤w.e_)
theorem lO {w:cw}:q∈sE w (b+1)↔ ∃ p∈sE w b,∃ o∈kX w b,oE w b p o=some q:=by
 simp only [sE,AAx,AAD]
theorem yf {w:cw} (h:w.n≤b):back w b=[(⟨0,0⟩,w.hU)]:=by
 unfold back;rw [Nat.sub_eq_zero_of_le h];rfl
theorem q6 {w:cw} (h:b<w.n):q∈back w b↔q=(⟨0,0⟩,w.hU)∨ ∃ p∈back w (b+1),∃ o∈kX w b,rr w b p o=some q:=by
 unfold back;have e:w.n-b=(w.n-(b+1))+1:=by omega
 rw [e];simp only [TE,bH,AAx,AAD];rw [show w.n-(w.n-(b+1)+1)=b by omega]
def wX (m c:List (aI×Int)):Prop:=(∀ t v,m.lookup t=some v→(t,v)∈c)∧ ∀ t y,(t,y)∈c→ ∃ v,m.lookup t=some v∧v≤y
def yP (m c:List (aI×Int)):Prop:=(∀ t v,m.lookup t=some v→(t,v)∈c)∧ ∀ t y,(t,y)∈c→ ∃ v,m.lookup t=some v∧y≤v
def yz (m c:List (aI×Int)):Prop:= ∀ t v,m.lookup t=some v→(t,v)∈c
theorem mZ {K:Type} [DecidableEq K] {m:List (K×β)} {x t:K} {y:β}:(d_ m x y).lookup t=if t=x then some y else m.lookup t:=by
 unfold d_;by_cases hx:(m.lookup x).isSome
 ·rw [c0 hx];have key: ∀ l:List (K×β),(l.lookup x).isSome∨True→(l.map (fun p=>if p.1=x then (x,y) else p)).lookup t=if t=x then (if (l.lookup x).isSome then some y else none) else l.lookup t:=by
   intro l _
   induction l with
   |nil=>simp
   |cons p l ih=>
    obtain ⟨k,v⟩:=p;have ih:=ih (.inr trivial);by_cases hk:k=x
    ·subst hk;by_cases ht:t=k
     ·subst ht;simp [lookup]
     ·have:(t==k)=false:=by simpa using ht
      simp only [m2,ACc,lookup,this,ih,c1 ht]
    ·have hk':(x==k)=false:=by simpa using fun e=>hk e.symm
     by_cases ht:t=k
     ·subst ht;simp [lookup,hk]
     ·have A:(t==k)=false:=by simpa using ht
      simp only [m2,c1 hk,lookup,A,ih,hk']
  rw [key m (.inr trivial)];by_cases ht:t=x
  ·subst ht;rw [c0 rfl,c0 rfl,c0 hx]
  ·rw [c1 ht,c1 ht]
 ·rw [c1 hx];have hn:m.lookup x=none:=by cases h0:m.lookup x with
   |none=>rfl
   |some v=>exact absurd (by rw [h0];rfl) hx
  by_cases ht:t=x
  ·subst ht;rw [c0 rfl];have:=jg.1 hn;clear hn hx
   induction m with
   |nil=>simp
   |cons p m ih=>
    obtain ⟨k,v⟩:=p;have hk:(t==k)=false:=by simpa using fun e=>this (k,v) sm e.symm
    simp only [AAX,lookup,hk];exact ih (fun q hq=>this q (dg _ hq))
  ·rw [c1 ht];clear hn hx
   induction m with
   |nil=>
    have:(t==x)=false:=by simpa using ht
    simp [lookup,this]
   |cons p m ih=>
    obtain ⟨k,v⟩:=p;by_cases hk:t=k
    ·subst hk;simp [lookup]
    ·have:(t==k)=false:=by simpa using hk
     simp only [AAX,lookup,this];exact ih
/-- what a map is after a try -/
def ry (m:List (aI×Int)) (q:aI×Int):List (aI×Int):=match m.lookup q.1 with
 |none=>d_ m q.1 q.2
 |some v=>if q.2<v then d_ m q.1 q.2 else m
def qT (m:List (aI×Int)) (q:aI×Int):List (aI×Int):=match m.lookup q.1 with
 |none=>d_ m q.1 q.2
 |some v=>if v<q.2 then d_ m q.1 q.2 else m
theorem Ae {t:aI}:(ry m q).lookup t=if t=q.1 then some (match m.lookup q.1 with |none=>q.2|some v=>min q.2 v) else m.lookup t:=by
 unfold ry;cases h:m.lookup q.1 with
 |none=>simp only;rw [mZ]
 |some v=>
  simp only;split
  ·rename_i A;rw [mZ,Int.min_eq_left I]
  ·rename_i A;split
   ·rename_i e;subst e;rw [h,Int.min_eq_right I]
   ·rfl
theorem Ab {t:aI}:(qT m q).lookup t=if t=q.1 then some (match m.lookup q.1 with |none=>q.2|some v=>max q.2 v) else m.lookup t:=by
 unfold qT;cases h:m.lookup q.1 with
 |none=>simp only;rw [mZ]
 |some v=>
  simp only;split
  ·rename_i A;rw [mZ,Int.max_eq_left I]
  ·rename_i A;split
   ·rename_i e;subst e;rw [h,ACg I]
   ·rfl
def zM (m m':List (aI×Int)):Prop:= ∀ t v,m.lookup t=some v→ ∃ v',m'.lookup t=some v'∧v'≤v
def Av (m m':List (aI×Int)):Prop:= ∀ t v,m.lookup t=some v→ ∃ v',m'.lookup t=some v'∧v≤v'
variable (m:List (aI×Int))
theorem zM.refl:zM m m:=fun t v h=>⟨v,h,I⟩
theorem Av.refl:Av m m:=fun t v h=>⟨v,h,I⟩
theorem yC {m:List (aI×Int)}:zM m (ry m q):=fun t v h=>by
 rw [Ae];split
 ·rename_i e;subst e;rw [h];exact ⟨_,rfl,by simp only;omega⟩
 ·exact ⟨v,h,I⟩
theorem sZ {m:List (aI×Int)}:Av m (qT m q):=fun t v h=>by
 rw [Ab];split
 ·rename_i e;subst e;rw [h];exact ⟨_,rfl,by simp only;omega⟩
 ·exact ⟨v,h,I⟩
theorem KO {m c:List (aI×Int)} (h:yz m c) (hq:q∈c):yz (ry m q) c:=fun t v hv=>by
 rw [Ae] at hv;split at hv
 ·rename_i e;subst e;cases hm:m.lookup q.1 with
  |none=>simp only [hm,k4] at hv;subst hv;exact hq
  |some x=>
   simp only [hm,k4] at hv;subst hv;rcases AAe q.2 x with A|A
   ·rw [Int.min_eq_left I];exact hq
   ·rw [Int.min_eq_right I];exact h _ _ hm
 ·exact h t v hv
theorem KH {m c:List (aI×Int)} (h:yz m c) (hq:q∈c):yz (qT m q) c:=fun t v hv=>by
 rw [Ab] at hv;split at hv
 ·rename_i e;subst e;cases hm:m.lookup q.1 with
  |none=>simp only [hm,k4] at hv;subst hv;exact hq
  |some x=>
   simp only [hm,k4] at hv;subst hv;rcases AAe q.2 x with A|A
   ·rw [ACg I];exact h _ _ hm
   ·rw [Int.max_eq_left I];exact hq
 ·exact h t v hv
theorem Ky {m:List (aI×Int)}: ∃ v,(ry m q).lookup q.1=some v∧v≤q.2:=by
 rw [Ae,c0 rfl];refine ⟨_,U,?_⟩;cases m.lookup q.1<;>simp only <;>omega
theorem Lx {m:List (aI×Int)}: ∃ v,(qT m q).lookup q.1=some v∧q.2≤v:=by
 rw [Ab,c0 rfl];refine ⟨_,U,?_⟩;cases m.lookup q.1<;>simp only <;>omega
/-- all that comes of one entry, by some options, is held -/
def kl (w:cw) (b:Nat) (m:List (aI×Int)) (p:aI×Int) (os:List (Int×aa)):Prop:= ∀ o∈os,∀ q,oE w b p o=some q→ ∃ v,m.lookup q.1=some v∧v≤q.2
def kf (w:cw) (b:Nat) (m:List (aI×Int)) (p:aI×Int) (os:List (Int×aa)):Prop:= ∀ o∈os,∀ q,rr w b p o=some q→ ∃ v,m.lookup q.1=some v∧q.2≤v
theorem kl.lower {w:cw} {m:List (aI×Int)} {os:List (Int×aa)} (h:kl w b m p os) (hl:zM m m'):kl w b m' p os:=fun o ho q hq=>by
 obtain ⟨v,A,C⟩:=h o ho q hq;obtain ⟨v',B,D⟩:=hl _ _ A;exact ⟨v',B,I⟩
theorem kf.upper {w:cw} {m:List (aI×Int)} {os:List (Int×aa)} (h:kf w b m p os) (hl:Av m m'):kf w b m' p os:=fun o ho q hq=>by
 obtain ⟨v,A,C⟩:=h o ho q hq;obtain ⟨v',B,D⟩:=hl _ _ A;exact ⟨v',B,I⟩
theorem kl.sub {w:cw} {m:List (aI×Int)} {os:List (Int×aa)} (h:kl w b m p os) (hs:∀ o∈os',o∈os):kl w b m p os':=fun o ho=>h o (hs o ho)
theorem kf.sub {w:cw} {m:List (aI×Int)} {os:List (Int×aa)} (h:kf w b m p os) (hs:∀ o∈os',o∈os):kf w b m p os':=fun o ho=>h o (hs o ho)
theorem kl.add {w:cw} {m:List (aI×Int)} {os:List (Int×aa)} {o:Int×aa} (h:kl w b m p os) (hl:zM m m') (hn:∀ q,oE w b p o=some q→ ∃ v,m'.lookup q.1=some v∧v≤q.2):kl w b m' p (os++[o]):=fun o' ho q hq=>by
 rcases dY.1 ho with ho|ho
 ·exact h.lower hl o' ho q hq
 ·simp only [bT] at ho;subst ho;exact hn q hq
theorem kf.add {w:cw} {m:List (aI×Int)} {os:List (Int×aa)} {o:Int×aa} (h:kf w b m p os) (hl:Av m m') (hn:∀ q,rr w b p o=some q→ ∃ v,m'.lookup q.1=some v∧q.2≤v):kf w b m' p (os++[o]):=fun o' ho q hq=>by
 rcases dY.1 ho with ho|ho
 ·exact h.upper hl o' ho q hq
 ·simp only [bT] at ho;subst ho;exact hn q hq
theorem gj {m:List (aI×Int)} (hn:(m.map (·.1)).Nodup) {t:aI} {v:Int}:(t,v)∈m↔m.lookup t=some v:=ko hn
theorem rn {z t:aI} {x v:Int}:lookup t [(z,x)]=some v↔t=z∧v=x:=by
 by_cases e:t=z
 ·subst e;simp [lookup,eq_comm]
 ·have:(t==z)=false:=by simpa using e
  simp [lookup,this,e]
theorem Lj {w:cw}:wX [(⟨0,0⟩,w.Start)] (sE w 0):=by
 refine ⟨fun t v h=>?_,fun t y h=>?_⟩
 ·obtain ⟨rfl,rfl⟩:=rn.1 h;simp [sE]
 ·simp only [sE,bT,p4] at h;obtain ⟨rfl,rfl⟩:=h;exact ⟨w.Start,rn.2 ⟨U,U⟩,wt _⟩
theorem PZ {w:cw} {m:List (aI×Int)} (hn:(mb.map (·.1)).Nodup) (h:wX mb (sE w b)) (hs:yz m (sE w (b+1))) (hd:∀ p∈mb,kl w b m p (kX w b)):wX m (sE w (b+1)):=⟨hs,fun t y hy=>by
 obtain ⟨p,hp,o,ho,e⟩:=lO.1 hy;obtain ⟨v,B,E⟩:=h.2 p.1 p.2 hp;unfold oE at e;split at e
 ·rename_i D;simp only [k4,p4] at e;obtain ⟨v',A,C⟩:=hd (p.1,v) ((gj hn).2 B) o ho (dZ p.1 (gT o.1),max (v+cU w b) o.2.Lo) (by unfold oE;rw [c0 (by simp only;omega)]);simp only at A C;rw [e.1] at A;exact ⟨v',A,I⟩
 ·cases e⟩
theorem PB {w:cw} (hb:w.n≤b):yP [(⟨0,0⟩,w.hU)] (back w b):=by
 rw [yf hb];refine ⟨fun t v h=>?_,fun t y h=>?_⟩
 ·obtain ⟨rfl,rfl⟩:=rn.1 h;simp
 ·simp only [bT,p4] at h;obtain ⟨rfl,rfl⟩:=h;exact ⟨w.hU,rn.2 ⟨U,U⟩,wt _⟩
theorem PT {w:cw} (hb:b<w.n) {m:List (aI×Int)} (hn:(mb.map (·.1)).Nodup) (h:yP mb (back w (b+1))) (hs:yz m (back w b)) (h0:∃ v,m.lookup ⟨0,0⟩=some v∧w.hU≤v) (hd:∀ p∈mb,kf w b m p (kX w b)):yP m (back w b):=⟨hs,fun t y hy=>by
 rcases (q6 hb).1 hy with e|⟨p,hp,o,ho,e⟩
 ·simp only [p4] at e;obtain ⟨rfl,rfl⟩:=e;exact h0
 obtain ⟨v,B,E⟩:=h.2 p.1 p.2 hp;unfold rr at e;split at e
 ·rename_i D;simp only [k4,p4] at e;obtain ⟨v',A,C⟩:=hd (p.1,v) ((gj hn).2 B) o ho (dZ p.1 (gT o.1),min v o.2.Hi-cU w b) (by unfold rr;rw [c0 (by simp only;omega)]);simp only at A C;rw [e.1] at A;exact ⟨v',A,I⟩
 ·cases e⟩
end
variable {w:cw}
section
def mJ (w:cw) (b:Nat) (p u:aI×Int) (o:Int×aa):aa:=⟨max (p.2+cU w b) o.2.Lo,min u.2 o.2.Hi⟩
def CT (p u:aI×Int) (o:Int×aa):aI:=dZ (dZ p.1 u.1) (gT o.1)
def oe (w:cw) (b:Nat) (p u:aI×Int) (o:Int×aa):Option (Int×aa):=if (mJ w b p u o).Lo≤(mJ w b p u o).Hi∧oH w (CT p u o)=true then some (o.1,mJ w b p u o) else none
def sL (w:cw) (b:Nat) (mf mb:List (aI×Int)):List (Int×aa):=(kX w b).flatMap fun o=>mf.flatMap fun p=>mb.filterMap fun u=>oe w b p u o
def u3 (w:cw) (b:Nat):List (Int×aa):=sL w b (sE w b) (back w (b+1))
theorem kj {q:Int×aa}:q∈sL w b mf mb↔ ∃ o∈kX w b,∃ p∈mf,∃ u∈mb,oe w b p u o=some q:=by
 simp only [sL,AAx,AAD]
theorem mm {u:aI×Int} {o q:Int×aa}:oe w b p u o=some q↔(mJ w b p u o).Lo≤(mJ w b p u o).Hi∧oH w (CT p u o)=true∧q=(o.1,mJ w b p u o):=by
 unfold oe;split
 ·rename_i h;simp only [k4];exact ⟨fun e=>⟨h.1,h.2,e.symm⟩,fun e=>e.2.2.symm⟩
 ·rename_i h;simp only [reduceCtorEq,false_iff];exact fun e=>h ⟨e.1,e.2.1⟩
theorem p8 {q:Int×aa} (h:q∈sL w b mf mb):q.2.Lo≤q.2.Hi:=by
 obtain ⟨o,_,p,_,u,_,e⟩:=kj.1 h;obtain ⟨A,_,rfl⟩:=mm.1 e;exact A
/-- what the maps tell is what all ways tell -/
theorem Rf (hf:wX mf (sE w b)) (hb:yP mb (back w (b+1))) (nf:(mf.map (·.1)).Nodup) (nb:(mb.map (·.1)).Nodup) {q:Int×aa} (h:q∈sL w b mf mb):q∈u3 w b:=by
 obtain ⟨o,ho,p,hp,u,hu,e⟩:=kj.1 h;exact kj.2 ⟨o,ho,p,hf.1 _ _ ((gj nf).1 hp),u,hb.1 _ _ ((gj nb).1 hu),e⟩
theorem OK (hf:wX mf (sE w b)) (hb:yP mb (back w (b+1))) (nf:(mf.map (·.1)).Nodup) (nb:(mb.map (·.1)).Nodup) {q:Int×aa} (h:q∈u3 w b): ∃ q'∈sL w b mf mb,q'.1=q.1∧q'.2.Lo≤q.2.Lo∧q.2.Hi≤q'.2.Hi:=by
 obtain ⟨o,ho,p,hp,u,hu,e⟩:=kj.1 h;obtain ⟨A,B,rfl⟩:=mm.1 e;obtain ⟨v,hv,C⟩:=hf.2 p.1 p.2 hp;obtain ⟨y,hy,D⟩:=hb.2 u.1 u.2 hu;simp only [mJ] at A;refine ⟨(o.1,mJ w b (p.1,v) (u.1,y) o),kj.2 ⟨o,ho,(p.1,v),(gj nf).2 hv,(u.1,y),(gj nb).2 hy,mm.2 ⟨?_,B,U⟩⟩,U,?_,?_⟩
 ·simp only [mJ];omega
 ·simp only [mJ];omega
 ·simp only [mJ];omega
def oN:aa:=⟨1,0⟩
def oo (h x:aa):aa:=if h=oN then x else ⟨min x.Lo h.Lo,max x.Hi h.Hi⟩
def Ax (l:List (Int×aa)):aa:=l.foldl (fun h q=>oo h q.2) oN
structure qo (l:List (Int×aa)) (h:aa):Prop where
 le:h.Lo≤h.Hi
 lo: ∃ x∈l,x.2.Lo=h.Lo
 hi: ∃ x∈l,x.2.Hi=h.Hi
 all: ∀ x∈l,h.Lo≤x.2.Lo∧x.2.Hi≤h.Hi
def l0 (l:List (Int×aa)) (h:aa):Prop:=(l=[]∧h=oN)∨qo l h
theorem qo.ne {l:List (Int×aa)} {h:aa} (hh:qo l h):h≠oN:=fun e=>by
 have:=hh.le;rw [e] at this;simp [oN] at this
theorem EU:l0 [] oN:= .inl ⟨rfl,rfl⟩
theorem xH {l:List (Int×aa)} {h:aa} {q:Int×aa} (hh:l0 l h) (hq:q.2.Lo≤q.2.Hi):l0 (l++[q]) (oo h q.2):=by
 right;rcases hh with ⟨rfl,rfl⟩|hh
 ·unfold oo;rw [c0 rfl];exact ⟨hq,⟨q,sm,rfl⟩,⟨q,sm,rfl⟩,fun x hx=>by simp at hx;subst hx;exact ⟨wt _,wt _⟩⟩
 ·unfold oo;rw [c1 hh.ne];have A:=hh.le;obtain ⟨a,ha,ea⟩:=hh.lo;obtain ⟨c,hc,ec⟩:=hh.hi;refine ⟨by simp only;omega,?_,?_,fun x hx=>?_⟩
  ·rcases AAe q.2.Lo h.Lo with p|p
   ·exact ⟨q,sm,by simp only;omega⟩
   ·exact ⟨a,by simp [ha],by simp only;omega⟩
  ·rcases AAe h.Hi q.2.Hi with p|p
   ·exact ⟨q,sm,by simp only;omega⟩
   ·exact ⟨c,by simp [hc],by simp only;omega⟩
  ·rcases dY.1 hx with hx|hx
   ·have:=hh.all x hx;simp only;omega
   ·simp at hx;subst hx;simp only;omega
theorem xA {l:List (Int×aa)} (hl: ∀ q∈l,q.2.Lo≤q.2.Hi):l0 l (Ax l):=by
 have key: ∀ (r d:List (Int×aa)) (h:aa),(∀ q∈r,q.2.Lo≤q.2.Hi)→l0 d h→l0 (d++r) (r.foldl (fun h q=>oo h q.2) h):=by
  intro r
  induction r with
  |nil=>intro d h _ hd;simpa using hd
  |cons q r ih=>
   intro d h hr hd;have:=ih (d++[q]) (oo h q.2) (fun x hx=>hr x (dg _ hx)) (xH hd (hr q sm));simpa using this
 have:=key l [] oN hl EU;rw [AAp] at this;exact this
def GS (a b:List (Int×aa)):Prop:= ∀ x∈b,∃ y∈a,y.2.Lo≤x.2.Lo∧x.2.Hi≤y.2.Hi
theorem Tj {a b:List (Int×aa)} {h k:aa} (ha:l0 a h) (hb:l0 b k) (hab:GS a b) (hba:GS b a):h=k:=by
 rcases ha with ⟨rfl,rfl⟩|ha
 ·rcases hb with ⟨rfl,rfl⟩|hb
  ·rfl
  ·obtain ⟨x,hx,_⟩:=hb.lo;obtain ⟨y,hy,_⟩:=hab x hx;cases hy
 ·rcases hb with ⟨rfl,rfl⟩|hb
  ·obtain ⟨x,hx,_⟩:=ha.lo;obtain ⟨y,hy,_⟩:=hba x hx;cases hy
  ·have le: ∀ {a b:List (Int×aa)} {h k:aa},qo a h→qo b k→GS a b→h.Lo≤k.Lo∧k.Hi≤h.Hi:=fun {a b h k} ha hb hab=>by
    obtain ⟨x,hx,ex⟩:=hb.lo;obtain ⟨z,hz,ez⟩:=hb.hi;obtain ⟨y,hy,ey⟩:=hab x hx;obtain ⟨y',hy',ey'⟩:=hab z hz;have A:=ha.all y hy;have B:=ha.all y' hy';omega
   have A:=le ha hb hab;have B:=le hb ha hba;rw [aa.ext_iff];omega
theorem Cn {l:List (Int×aa)} {h:aa} (hf:wX mf (sE w b)) (hb:yP mb (back w (b+1))) (nf:(mf.map (·.1)).Nodup) (nb:(mb.map (·.1)).Nodup) (hl:∀ q∈l,q∈sL w b mf mb) (hl2:∀ q∈sL w b mf mb,q∈l) (hh:l0 l h):h=Ax (u3 w b):=
 Tj hh (xA fun q hq=>p8 hq) (fun x hx=>by
  obtain ⟨q,hq,_,A,B⟩:=OK hf hb nf nb hx;exact ⟨q,hl2 q hq,A,B⟩) (fun x hx=>⟨x,Rf hf hb nf nb (hl x hx),wt _,wt _⟩)
def mO (w:cw) (m:List (aI×Int)):Bool:=m.any fun p=>oH w p.1
theorem Ge (h:wX m (sE w b)) (nf:(m.map (·.1)).Nodup):mO w m=mO w (sE w b):=by
 unfold mO;rw [AAB,AAm,AAm];constructor
 ·rintro ⟨p,hp,A⟩;exact ⟨p,h.1 _ _ ((gj nf).1 hp),A⟩
 ·rintro ⟨p,hp,A⟩;obtain ⟨v,hv,_⟩:=h.2 p.1 p.2 hp;exact ⟨(p.1,v),(gj nf).2 hv,A⟩
def ml (w:cw) (k:Nat):List Int:=((range k).filter fun i=>mO w (sE w i)).map fun (i:Nat)=>(i:Int)
def ou (w:cw):List Int:=ml w (w.n+1)
theorem GY (h:mO w (sE w k)=true):ml w (k+1)=ml w k++[(k:Int)]:=by simp [ml,AAV,h]
theorem Kx (h:mO w (sE w k)=false):ml w (k+1)=ml w k:=by simp [ml,AAV,h]
theorem vv:(ml w k).length≤k:=by
 unfold ml;rw [c3];exact c6 (u2 _ _) sm
end
section
open Go.RowKit
theorem L7 {k:IntKind} (hu:P.underlying t=some (.int k)) (e:Bool) (n:Nat) (v:Value) (w:World):(Instr.checkKey e (n+1) t v).run P w= .ok () w:=by
 unfold Instr.checkKey;simp only [AAf,k3 hu,Result.andThen];cases v<;>rfl
theorem DZ {kt:Nat} {l:List (Nat×Nat)} (hl:fL P kt=some l) (e:Bool) (n:Nat) (cs:Array Value) (w:World) (hf:∀ p∈l,(∃ v,(part p.1 cs p.2).run P w= .ok v w)∧ ∃ k,P.underlying p.1=some (.int k)):(Instr.checkKey e (n+2) kt (.agg cs)).run P w= .ok () w:=by
 unfold fL at hl;cases hu:P.underlying kt with
 |none=>simp [hu] at hl
 |some d=>
  cases d<;>simp [hu] at hl;rename_i fs;obtain ⟨hn,hl⟩:=hl;rw [show n+2=(n+1)+1 from rfl,Instr.checkKey];simp only [AAf,k3 hu,AAa];rw [← Array.forIn_toList];have A: ∀ f∈fs.toList,(∃ v,(part f.type cs f.offset).run P w= .ok v w)∧ ∃ k,P.underlying f.type=some (.int k):=fun f hf'=>hf (f.type,f.offset) (by rw [← hl];exact cu.2 ⟨f,hf',rfl⟩);have B: ∀ f∈fs.toList,f.name≠"_":=fun f hf'=>by
   obtain ⟨i,hi,rfl⟩:=List.getElem_of_mem hf';exact hn.1.1 i (by simpa using hi)
  clear hl hn hf
  generalize fs.toList=L at A B
  induction L with
  |nil=>simp
  |cons f L ih=>
   obtain ⟨⟨v,hv⟩,k,hk⟩:=A f sm;have C:=B f sm;simp only [List.forIn_cons,AAf,C,AB3,ACZ,ACc,AAa,hv,L7 hk,AB_];exact ih (fun y hy=>A y (by simp [hy])) (fun y hy=>B y (by simp [hy]))
theorem Fc {kt:Nat} {K:Type} [DecidableEq K] {kV:K→Value} (hw:∀ (k:Value) (es:List MapEntry) (w:World),(Instr.findKey kt k es).run P w=(Instr.findAsking kt k es).run P w) (heq:∀ x y w,(Op.equal kt (kV x) (kV y)).run P w= .ok (decide (x=y)) w) (inj:∀ x y,kV x=kV y→x=y) (x:K) (w:World) (es:List MapEntry) (hk:∀ e∈es,∃ k,e.key=kV k):
 ((Instr.findKey kt (kV x) es).run P w= .ok none w∧ ∀ e∈es,e.key≠kV x)∨ ∃ j e,(Instr.findKey kt (kV x) es).run P w= .ok (some (j,e.val)) w∧es[j]? =some e∧e.key=kV x:=by
 have key: ∀ (es:List MapEntry) (i:Nat),(∀ e∈es,∃ k,e.key=kV k)→((Instr.findAsking kt (kV x) es i).run P w= .ok none w∧ ∀ e∈es,e.key≠kV x)∨ ∃ j e,(Instr.findAsking kt (kV x) es i).run P w= .ok (some (i+j,e.val)) w∧es[j]? =some e∧e.key=kV x:=by
  intro es
  induction es with
  |nil=>intro i _;exact .inl ⟨by simp [Instr.findAsking],sm⟩
  |cons e es ih=>
   intro i B;obtain ⟨k,A⟩:=B e sm;by_cases h:x=k
   ·refine .inr ⟨0,e,?_,U,by rw [A,h]⟩;subst h;simp [Instr.findAsking,A,heq]
   ·rcases ih (i+1) (fun y hy=>B y (by simp [hy])) with ⟨C,D⟩|⟨j,e',C,D,E⟩
    ·refine .inl ⟨by simp [Instr.findAsking,A,heq,h,C],fun y hy=>?_⟩;rcases bH.1 hy with rfl|hy
     ·rw [A];exact fun q=>h (inj _ _ q).symm
     ·exact D y hy
    ·exact .inr ⟨j+1,e',by simp [Instr.findAsking,A,heq,h,C];omega,by simpa using D,E⟩
 rw [hw];rcases key es 0 hk with h|⟨j,e,C,D,E⟩
 ·exact .inl h
 ·exact .inr ⟨j,e,by simpa using C,D,E⟩
theorem HJ {kt:Nat} {l:List (Nat×Nat)} (hl:fL P kt=some l) (k:Value) (es:List MapEntry) (w:World):(Instr.findKey kt k es).run P w=(Instr.findAsking kt k es).run P w:=by
 refine run_findKey_eq w ?_ k es;unfold fL at hl;cases hu:P.underlying kt with
 |none=>simp [hu] at hl
 |some d=>cases d<;>simp [hu] at hl ⊢
theorem Rr {kt:Nat} {K:Type} [DecidableEq K] {kV:K→Value} {l:List (Nat×Nat)} (hl:fL P kt=some l) (heq:∀ x y w,(Op.equal kt (kV x) (kV y)).run P w= .ok (decide (x=y)) w) (inj:∀ x y,kV x=kV y→x=y) (hb:∀ x,Instr.sameBits 10000 (kV x) (kV x)=true) (hp:∀ x w,∃ cs,kV x= .agg cs∧ ∀ p∈l,(∃ v,(part p.1 cs p.2).run P w= .ok v w)∧ ∃ k,P.underlying p.1=some (.int k)):x3 P kt kV:=
 ⟨fun e x w=>by obtain ⟨cs,A,B⟩:=hp x w;rw [A];exact DZ hl e 9998 cs w B,fun x w es=>Fc (HJ hl) heq inj x w es,hb,inj⟩
end
section
open Go.RowKit
set_option linter.unusedSectionVars false
theorem eD {kt:Nat} (hk:P.underlying kt=some (.int .i64)):x3 P kt (Value.int .i64):=by
 refine ⟨fun e x w=>Lu hk e,fun x w es A=>?_,fun x=>by simp [Instr.sameBits],fun x y h=>by injection h⟩;have key: ∀ (es:List MapEntry) (i:Nat),(∀ e∈es,∃ k:Int,e.key= .int .i64 k)→(Instr.findNow (.int .i64) (.int .i64 x) es i=some none∧ ∀ e∈es,e.key≠ .int .i64 x)∨ ∃ j e,Instr.findNow (.int .i64) (.int .i64 x) es i=some (some (i+j,e.val))∧es[j]? =some e∧e.key= .int .i64 x:=by
  intro es
  induction es with
  |nil=>intro i _;exact .inl ⟨rfl,sm⟩
  |cons e es ih=>
   intro i A;obtain ⟨k,B⟩:=A e sm;by_cases h:x=k
   ·subst h;exact .inr ⟨0,e,by simp [Instr.findNow,Instr.sameNow,B],U,B⟩
   ·have hb:(x==k)=false:=by simpa using h
    rcases ih (i+1) (fun y hy=>A y (by simp [hy])) with ⟨C,D⟩|⟨j,e',C,D,E⟩
    ·refine .inl ⟨by simp [Instr.findNow,Instr.sameNow,B,hb,C],fun y hy=>?_⟩;rcases bH.1 hy with rfl|hy
     ·rw [B];intro q;injection q with _ q;exact h q.symm
     ·exact D y hy
    ·refine .inr ⟨j+1,e',?_,by simpa using D,E⟩;simp only [Instr.findNow,Instr.sameNow,B,hb,ACc,C];simp;omega
 rcases key es 0 A with ⟨C,D⟩|⟨j,e,C,D,E⟩
 ·exact .inl ⟨MapKept.run_findKey hk C,D⟩
 ·exact .inr ⟨j,e,MapKept.run_findKey hk (by simpa using C),D,E⟩
theorem St.Ro {w w':World} {A N:ar} (h:St S w0 C w) (i:Nat) (hA:C[i]? =some A) (k:ed no w w') (hN:N.holds w') (hf:∀ b,N.fP b→w.heap.size≤b∨A.fP b∧ ¬ A.wf b∧ ¬ N.wf b):St S w0 (N::C) w':=by
 have h':=h.same k;have G:=aF hA;have hi:=(aR.1 hA).1;have B:C[i]=A:=(aR.1 hA).2;refine ⟨h'.keeps,fun X hX=>?_,List.Pairwise.cons (fun X hX b hb hb'=>?_) h'.sep,fun X hX b hb=>?_,fun X hX b hb=>?_⟩
 ·rcases bH.1 hX with rfl|hX
  ·exact hN
  ·exact h'.holds X hX
 ·rcases hf b hb with E|⟨E,AA,H⟩
  ·have:=X.lt w (h.holds X hX) b hb';omega
  ·refine ⟨H,?_⟩;obtain ⟨j,hj,D⟩:=p5.1 hX;by_cases e:j=i
   ·subst e;rw [← D,B];exact AA
   ·rcases ABM e with F|F
    ·have:=eY.1 h.sep j i hj hi F b (by rw [D];exact hb') (by rw [B];exact E);rw [← D];exact this.1
    ·have:=eY.1 h.sep i j hi hj F b (by rw [B];exact E) (by rw [D];exact hb');rw [← D];exact this.2
 ·rcases bH.1 hX with rfl|hX
  ·rcases hf b (X.l7 b hb) with E|⟨_,_,H⟩
   ·exact .inl (c6 h.keeps.size E)
   ·exact absurd hb H
  ·exact h'.own X hX b hb
 ·rcases bH.1 hX with rfl|hX
  ·rcases hf b hb with E|⟨E,_,_⟩
   ·exact .inl (c6 h.keeps.size E)
   ·exact h.seen A G b E
  ·exact h'.seen X hX b hb
section
variable {K:Type} [DecidableEq K] {kV:K→Value}
/-- an iterator over a map that is read alone -/
def BA (kV:K→Value) (r b:Nat) (m left:List (K×Value)) (cur:Option (K×Value)):ar where
 fP k:=k=r∨k=b
 wf k:=k=r
 holds w:=r≠b∧ ∃ (es:Array MapEntry) (c since:Nat) (seen:Array Nat) (st:Nat),w.heap[b]? =some (.map es c)∧j6 kV es c m∧w.heap[r]? =some (.mapIter (some b) since seen st)∧(∀ e∈es.toList,e.born<since)∧since≤st∧since≤c∧
  (leftOf es seen).toList.map (fun (e:MapEntry)=>(e.key,e.val))=left.map (fun p=>(kV p.1,p.2))∧
  ∀ p,cur=some p→ ∃ (e:MapEntry) (seen0:Array Nat),e∈es.toList∧seen=seen0.push e.born∧st=c∧e.key=kV p.1∧e.val=p.2
 wr:=false
 l7 _ h:= .inl h
 whole h:=by cases h
 lt w h k hk:=by
  obtain ⟨_,es,c,since,seen,st,h1,_,h2,_⟩:=h
  rcases hk with rfl|rfl
  ·exact eH h2
  ·exact eH h1
 qK w w' hk h:=by
  obtain ⟨hne,es,c,since,seen,st,h1,h2,h3,h4⟩:=h
  exact ⟨hne,es,c,since,seen,st,(hk b (.inr rfl)).trans h1,h2,(hk r (.inl rfl)).trans h3,h4⟩
theorem fX {r:Nat} {m left:List (K×Value)} {cur:Option (K×Value)}:(∀ w,(BA kV r b m left cur).holds w→(BA kV r b m left none).holds w)∧(∀ k,(BA kV r b m left none).fP k→(BA kV r b m left cur).fP k)∧ ∀ k,(BA kV r b m left none).wf k→(BA kV r b m left cur).wf k:=
 ⟨fun w h=>by
  obtain ⟨A,es,c,since,seen,st,B,C,D,E,F,h5',G,_⟩:=h;exact ⟨A,es,c,since,seen,st,B,C,D,E,F,h5',G,fun p hp=>by cases hp⟩,fun _ h=>h,fun _ h=>h⟩
section
variable {E:fM} {ops:Array Oper} {Q:dk} {rest:List Oper} {D:List Deferred} {L:List (Nat×Value)} {C:List ar}
variable {dst:Option Tmp} {d:Nat} {ty:TypeId} {ps:String} {af:Array Edge} {g:Option (Nat×Bool)}
theorem kz {t:TypeId} {m:List (K×Value)} {A:ar} (i:Nat) (hg:kB ops L g=true) (hm:ev L xm=some (.map (some b))) (ht:E.P.underlying t=some (.map kt et)) (hA:C[i]? =some A) (hAf:A.fP b∧ ¬ A.wf b) (hC:ij C (iu kV b m).holds) (hd:blt d E.n=true) (k:∀ r,RJ E ops Q rest D ((d,.pointer (some ⟨r,0,none⟩))::L) (BA kV r b m m none::C)):RJ E ops Q (⟨some d,.range t xm,ty,ps,af,g⟩::rest) D L C:=by
 intro a w B hs;have hd':d<E.n:=by rw [← u7];exact hd
 unfold uM;rw [c0 (eI B hg)];obtain ⟨es,c,he,hi⟩:=hs.has hC;have G:b<w.heap.size:=eH he;have F:(getObj b).run E.P w= .ok (.map es c) w:=AAc he;refine jv (v:= .pointer (some ⟨w.heap.size,0,none⟩)) (w':=w.alloc (.mapIter (some b) c #[] c)) sm ?_ ?_
 ·simp [execOp,Instr.range,B.ev hm,k3 ht,F,newObj,Sem.run]
 ·refine k _ _ _ (B.put hd' _) (hs.Ro i hA (ed.alloc no w _) ⟨I,es,c,c,#[],c,?_,hi,ACA w _,hi.Wm,c9 _,c9 _,?_,fun p hp=>by cases hp⟩ (fun q hq=>?_))
  ·rw [ABe w _ b G];exact he
  ·have:leftOf es #[]=es:=by unfold leftOf;exact Array.filter_eq_self.2 sm
   rw [this];exact hi.list
  ·rcases hq with rfl|rfl
   ·exact .inl (c9 _)
   ·refine .inr ⟨hAf.1,hAf.2,fun (e:q=w.heap.size)=>by omega⟩
theorem Mk (hinj:∀ x y,kV x=kV y→x=y) {r:Nat} {m left:List (K×Value)} {cur:Option (K×Value)} (i:Nat) (hg:kB ops L g=true) (hm:ev L xi=some (.pointer (some ⟨r,0,none⟩))) (hC:C[i]? =some (BA kV r b m left cur)) (hd:blt d E.n=true) (k0:left=[]→RJ E ops Q rest D ((d,.tuple [.bool false].toArray)::L) C) (k1:∀ x v,(x,v)∈left→(left.map (·.1)).Nodup→RJ E ops Q rest D ((d,.tuple [.bool true,kV x,v].toArray)::L) (C.set i (BA kV r b m (cH left x) (some (x,v))))):
 RJ E ops Q (⟨some d,.next xi false,ty,ps,af,g⟩::rest) D L C:=by
 intro a w G hs;have hd':d<E.n:=by rw [← u7];exact hd
 unfold uM;rw [c0 (eI G hg)];obtain ⟨R,es,c,since,seen,st,X,hi,Y,J,V,M,A,_⟩:=hs.holds _ (aF hC);rcases run_next_at (P:=E.P) w ty r b since st seen es c Y X J V with ⟨Z,hr⟩|⟨e,he,N,H,hr⟩
 ·refine jv (v:= .tuple #[.bool false]) (w':=w) sm ?_ ?_
  ·simp [execOp,G.ev hm,hr]
  ·refine k0 ?_ _ _ (G.put hd' _) hs;have:(leftOf es seen).toList=[]:=by rw [← ABk,ABH];exact Z
   rw [this] at A;exact ABh.1 A.symm
 ·have O:(e.key,e.val)∈left.map (fun p=>(kV p.1,p.2)):=by rw [← A];exact cu.2 ⟨e,he,rfl⟩
  obtain ⟨p,hp,S⟩:=cu.1 O;obtain ⟨x,v⟩:=p;simp only [p4] at S;obtain ⟨hk,hv⟩:=S;refine jv (v:= .tuple #[.bool true,e.key,e.val]) (w':=ChangeMaps.setBlock N r (.mapIter (some b) since (seen.push e.born) c)) sm ?_ ?_
  ·simp [execOp,G.ev hm,hr]
  ·rw [← hk,← hv];have AA:=Br hinj hi A;have F:e∈es.toList:=by unfold leftOf at he;rw [AA4] at he;exact (n3.1 he).1
   have f:c=c:=rfl;have B:N.heap=w.heap:=by rcases H with rfl|rfl<;>rfl
   refine k1 x v hp AA _ _ (G.put hd' _) (hs.mv i hC ⟨⟨R,es,c,since,seen.push e.born,c,?_,hi,?_,J,M,M,?_,fun q hq=>?_⟩,?_,fun q hq=> .inl hq,fun q hq=> .inl hq⟩)
   ·show (N.heap.setIfInBounds r _)[b]? =_
    rw [e5 R,B];exact X
   ·show (N.heap.setIfInBounds r _)[r]? =_
    rw [c8 (by rw [B];exact eH Y)]
   ·have T:leftOf es (seen.push e.born)=(leftOf es seen).filter (fun z=> !(z.born==e.born)):=by
     unfold leftOf;rw [Array.filter_filter];congr 1;funext z;simp only [Array.contains_push,Bool.not_or];rw [Bool.and_comm]
    rw [T,AA4];have key: ∀ (l:List MapEntry) (ll:List (K×Value)),(∀ z∈l,z∈es.toList)→l.map (fun (e:MapEntry)=>(e.key,e.val))=ll.map (fun p=>(kV p.1,p.2))→
     (l.filter (fun z=> !(z.born==e.born))).map (fun (e:MapEntry)=>(e.key,e.val))=(cH ll x).map (fun p=>(kV p.1,p.2)):=by
     intro l
     induction l with
     |nil=>intro ll _ h;cases ll with
      |nil=>rfl
      |cons p ll=>simp at h
     |cons z l ih=>
      intro ll hz h;cases ll with
      |nil=>simp at h
      |cons p ll=>
       simp only [m2,ABo,p4] at h;have ih':=ih ll (fun y hy=>hz y (by simp [hy])) h.2;have AB:(z.born=e.born)↔(p.1=x):=by
        constructor
        ·intro hb;have:z=e:=GA hi.born (hz z sm) F hb;rw [this] at h;have:=h.1.1.symm.trans hk.symm;exact hinj _ _ this
        ·intro hx;have W:z.key=e.key:=by rw [h.1.1,hx,hk]
         rw [Gx hinj hi (hz z sm) F W]
       unfold cH at ih' ⊢;by_cases hx:p.1=x
       ·rw [AAj (by simp [AB.2 hx]),AAj (by simp [hx])];exact ih'
       ·rw [AAi (by simpa using fun hb=>hx (AB.1 hb)),AAi (by simpa using hx)];simp only [m2,h.1.1,h.1.2,ih']
    exact key _ _ (fun z hz=>by unfold leftOf at hz;rw [AA4] at hz;exact (n3.1 hz).1) A
   ·cases hq;exact ⟨e,seen,F,U,U,hk.symm,hv.symm⟩
   ·refine ⟨?_,?_,?_,?_,fun q hq hn=>?_⟩
    ·rcases H with rfl|rfl<;>rfl
    ·rcases H with rfl|rfl<;>rfl
    ·rcases H with rfl|rfl<;>rfl
    ·show w.heap.size≤(N.heap.setIfInBounds r _).size
     simp [B]
    ·show (N.heap.setIfInBounds r _)[q]? =_
     rw [e5 (fun e=>hn e.symm),B]
theorem jI {r:Nat} {m left:List (K×Value)} {x:K} (i:Nat) (hg:kB ops L g=true) (hm:ev L xi=some (.pointer (some ⟨r,0,none⟩))) (hC:C[i]? =some (BA kV r b m left (some (x,v)))):
 SD E ops ⟨dst,.entry xi,ty,ps,af,g⟩ D L C (.tuple [kV x,v].toArray):=
 eo hg sm fun a w F hs=>by
  obtain ⟨N,es,c,since,seen,st,J,hi,M,H,O,AA,G,B⟩:=hs.holds _ (aF hC);obtain ⟨e,A,he,rfl,rfl,hk,hv⟩:=B _ rfl;have:=run_entry_at (P:=E.P) w r b since A es st e M J he hi.born;simp [execOp,F.ev hm,this,hk,hv]
theorem jQ (hinj:∀ x y,kV x=kV y→x=y) {f:β→Value} {r:Nat} {m:List (K×Value)} {ll:List (K×β)} {cur:Option (K×Value)} (i:Nat) (hg:kB ops L g=true) (hm:ev L xi=some (.pointer (some ⟨r,0,none⟩))) (hC:C[i]? =some (BA kV r b m (bR f ll) cur)) (hd:blt d E.n=true) (k0:ll=[]→RJ E ops Q rest D ((d,.tuple [.bool false].toArray)::L) C) (k1:∀ x y,(x,y)∈ll→(ll.map (·.1)).Nodup→RJ E ops Q rest D ((d,.tuple [.bool true,kV x,f y].toArray)::L) (C.set i (BA kV r b m (bR f (cH ll x)) (some (x,f y))))):
 RJ E ops Q (⟨some d,.next xi false,ty,ps,af,g⟩::rest) D L C:=by
 refine Mk hinj i hg hm hC hd (fun h=>k0 (ABh.1 h)) (fun x v B hn=>?_);obtain ⟨p,hp,A⟩:=cu.1 B;simp only [p4] at A;obtain ⟨rfl,rfl⟩:=A;have:=k1 p.1 p.2 hp (by simpa [bR,ABU] using hn)
 rwa [mo] at this
theorem CY {t:TypeId} {x:K} {m m':List (K×Value)} (i:Nat) (hg:kB ops L g=true) (hm:ev L xm=some (.map (some b))) (hk:ev L xk=some (kV x)) (hv:ev L xv=some v) (ht:E.P.underlying t=some (.map kt et)) (hkt:x3 E.P kt kV) (hC:C[i]? =some (iu kV b m)) (hm':d_ m x v=m') (hC':C.set i (iu kV b m')=C') (k:RJ E ops Q rest D L C'):
 RJ E ops Q (⟨none,.insert t xm xk xv,ty,ps,af,g⟩::rest) D L C:=by
 subst hm' hC';intro a w A hs;unfold uM;rw [c0 (eI A hg)];obtain ⟨es,c,he,hi⟩:=hs.holds _ (aF hC);have B:(getObj b).run E.P w= .ok (.map es c) w:=AAc he;rcases q8 (P:=E.P) (w:=w) (x:=x) hkt hi with ⟨AA,F⟩|⟨j,N,AA,F,J⟩
 ·refine uN (w':={w with heap:=w.heap.setIfInBounds b (.map (es.push {key:=kV x,val:=v,born:=c}) (c+1))}) sm ?_ ?_
  ·simp [execOp,A.ev hm,A.ev hk,A.ev hv,Instr.mapUpdate,k3 ht,B,jS hkt,AA,AA6 _ he]
  ·refine k _ _ ⟨A.defers,A.size,A.at_⟩ (hs.Ct (b:=b) i hC U U (oY _) (fun _ h=>h) ⟨_,_,rz he,?_⟩);have:d_ m x v=m++[(x,v)]:=by unfold d_;rw [F];rfl
   rw [this];exact hi.push F v
 ·have M:=hi.size;have G:j<es.size:=by have:=(aR.1 F).1;omega
  have H:(es[j]).key=kV x:=by
   have:=c7 (fun l=>l[j]?) hi.list;simp [G,F] at this;exact this.1
  refine uN (w':={w with heap:=w.heap.setIfInBounds b (.map (es.modify j fun e=>{e with key:=kV x,val:=v}) c)}) sm ?_ ?_
  ·simp [execOp,A.ev hm,A.ev hk,A.ev hv,Instr.mapUpdate,k3 ht,B,jS hkt,AA,AA6 _ he,Instr.keyThatStays,G,H,hkt.bits x]
  ·exact k _ _ ⟨A.defers,A.size,A.at_⟩ (hs.Ct (b:=b) i hC U U (oY _) (fun _ h=>h) ⟨_,_,rz he,hi.set F J v⟩)
end
end
end
section
open Go.RowKit
def YlG {σ:Type} (w0:World) (P:Program) (l:Nat) (step:σ→List Value→σ→Prop) (J:σ→ar→Prop) (Z:ar→Prop):Prop:=
 ∀ k x k' A w,step k x k'→J k A→w0.heap.size≤w.heap.size→A.holds w→YieldAt (Fw none) 0 P l x.toArray w fun e w'=>
  (e= .returned (.bool true)∧ ∃ B,J k' B∧Mv A B w w')∨(e= .returned (.bool false)∧ ∃ B,Z B∧Mv A B w w')
def FB {σ:Type} (J:σ→ar→Prop) (Z:ar→Prop) (fin:σ→Prop) (A0:ar) (w0:World) (e:Ending) (w':World):Prop:=
 ∃ v,e= .returned v∧((∃ s B,fin s∧J s B∧Mv A0 B w0 w')∨ ∃ B,Z B∧Mv A0 B w0 w')
structure H6 {σ:Type} (P:Program) (f:FuncId) (fi ca:List Value) (Cp:List ar) (s0:σ) (step:σ→List Value→σ→Prop) (fin:σ→Prop):Prop where
 go:sQ P f=true
 run: ∀ (l:Nat) (J:σ→ar→Prop) (Z:ar→Prop) (A0:ar) (w:World),YlG w P l step J Z→J s0 A0→A0.holds w→(∀ A∈Cp,A.holds w)→(∀ A∈Cp,GB A0 A.ro)→
  Calls P f (fi++Value.func (.yield l) #[] #[]::ca).toArray w (FB J Z fin A0 w)
theorem LF {J:σ→ar→Prop} {n:σ} {fin:σ→Prop} {w:World} (i:Nat) (hC:C[i]? =some B) (hfin:fin n) (hJ:J n B) (hF:Fo A0 w0 B) (hs:St ⟨A0.wf,fun _=>True⟩ w0 C w):FB J Z fin A0 w0 (.returned v) w:=
 ⟨v,rfl,.inl ⟨n,B,hfin,hJ,hs.holds B (aF hC),hs.keeps,fun b hb=>(hs.own B (aF hC) b hb).symm,hF⟩⟩
theorem sY {J:σ→ar→Prop} {fin:σ→Prop} {w:World} (i:Nat) (hC:C[i]? =some B) (hJ:Z B) (hF:Fo A0 w0 B) (hs:St ⟨A0.wf,fun _=>True⟩ w0 C w):FB J Z fin A0 w0 (.returned v) w:=
 ⟨v,rfl,.inr ⟨B,hJ,hs.holds B (aF hC),hs.keeps,fun b hb=>(hs.own B (aF hC) b hb).symm,hF⟩⟩
theorem xh {f:FuncId} {c:Code} {s0:σ} {step:σ→List Value→σ→Prop} {fin:σ→Prop} (hgo:sQ P f=true) (hf:P.funcs[f]? =some fn) (hb:fn.body=some c) (hn:ble (fi.length+ca.length+1) fn.ntmps=true) (h:∀ (l:Nat) (J:σ→ar→Prop) (Z:ar→Prop) (A0:ar) (w0:World) (Q:dk),YlG w0 P l step J Z→J s0 A0→Fo A0 w0 A0→
  (∀ D L C,LJ ⟨P,none,fn.ntmps,⟨A0.wf,fun _=>True⟩,w0⟩ fn (FB J Z fin A0 w0) D L C→KJ ⟨P,none,fn.ntmps,⟨A0.wf,fun _=>True⟩,w0⟩ (Q .ret) D L C)→
  (∀ D L C,LJ ⟨P,none,fn.ntmps,⟨A0.wf,fun _=>True⟩,w0⟩ fn (FB J Z fin A0 w0) D L C→KJ ⟨P,none,fn.ntmps,⟨A0.wf,fun _=>True⟩,w0⟩ (Q .normal) D L C)→
  WJ ⟨P,none,fn.ntmps,⟨A0.wf,fun _=>True⟩,w0⟩ c Q [] (TG (fi++Value.func (.yield l) #[] #[]::ca)) (A0::Cp.map ar.ro)):H6 P f fi ca Cp s0 step fin:=by
 refine ⟨hgo,fun l J Z A0 w hY hJ hA F E=>?_⟩;refine DI hf hb (by simpa [ABS] using hn) (h l J Z A0 w · hY hJ (fun b hb=> .inl hb)) ?_;have G:=tD F;refine ⟨ed.refl _ _,fun A hA'=>?_,List.Pairwise.cons (fun B hB=>?_) G.sep,fun A hA' b hb=>?_,fun _ _ _ _=> .inr trivial⟩
 ·rcases bH.1 hA' with rfl|hA'
  ·exact hA
  ·exact G.holds A hA'
 ·obtain ⟨B',hB',rfl⟩:=cu.1 hB;exact E B' hB'
 ·rcases bH.1 hA' with rfl|hA'
  ·exact .inr hb
  ·obtain ⟨B',hB',rfl⟩:=cu.1 hA';exact hb.elim
section
variable {E:fM} {ops:Array Oper} {Q:dk} {rest:List Oper} {D:List Deferred} {L:List (Nat×Value)} {C:List ar}
variable {d:Nat} {ty:TypeId} {ps:String} {af:Array Edge} {g:Option (Nat×Bool)}
/-- a call of yield -/
theorem mg {ts:Array TypeId} {l:Nat} {k k':σ} {step:σ→List Value→σ→Prop} {J:σ→ar→Prop} {A:ar} {w1:World} (i:Nat) (hw1:w1.heap.size≤E.w0.heap.size) (hY:YlG w1 E.P l step J Z) (hJ:J k A) (hF:Fo A0 w1 A) (hg:kB ops L g=true) (hf:ev L fop=some (.func (.yield l) #[] #[])) (hx:evs L xs.toList=some vs) (hk:step k vs k') (hC:C[i]? =some A) (hd:blt d E.n=true) (k1:∀ B,J k' B→Fo A0 w1 B→RJ E ops Q rest D ((d,.bool true)::L) (C.set i B)) (k2:∀ B,Z B→Fo A0 w1 B→RJ E ops Q rest D ((d,.bool false)::L) (C.set i B)):
 RJ E ops Q (⟨some d,.call {callee:= .value fop,args:=xs,argTypes:=ts},ty,ps,af,g⟩::rest) D L C:=by
 intro a w F hs;have hd':d<E.n:=by rw [← u7];exact hd
 unfold uM;rw [c0 (eI F hg)];have K:xs.map a.eval=vs.toArray:=by
  have:=F.evs hx;apply ABX;simp [this]
 obtain ⟨fn,tmps,assign,body,hy,hr⟩:=hY k vs k' A w hk hJ (c6 hw1 hs.keeps.size) (hs.holds A (aF hC));have H:(execOp a.eval ⟨some d,.call {callee:= .value fop,args:=xs,argTypes:=ts},ty,ps,af,g⟩).run E.P w= .ok (.round l fn tmps assign body) w:=by
  simp [execOp,resolve,F.ev hf,Deferred.ofValue,invoke,K,hy]
 refine ⟨fun _ _=>trivial,?_⟩;rw [AA7 _ _ _ sm,H];refine ⟨fun h=>by simp at h,?_⟩;have G: ∀ (B:ar) (w':World),Mv A B w w'→Fo A0 w1 B:=fun B w' m b hb=>by
  rcases m.fP b hb with AA|AA
  ·exact hF b AA
  ·exact .inr (c6 hw1 (c6 hs.keeps.size AA))
 have hr':RoundIn (Fw E.r) 0 E.P l fn tmps assign body w _:=hr;refine hr'.mono fun e w' he=>?_;rcases he with ⟨rfl,B,hB,m⟩|⟨rfl,B,hB,m⟩
 ·exact k1 B hB (G B w' m) _ _ (F.put hd' _) (hs.mv i hC m)
 ·exact k2 B hB (G B w' m) _ _ (F.put hd' _) (hs.mv i hC m)
end
theorem px {L0:dH} {F:List ar} {g:Operand} {ps:Array Tmp} {assign body:Code} {f:FuncId} {s0:σ} {step:σ→List Value→σ→Prop} {fin_:σ→Prop} {ι κ:Type} (inv:σ→ι→Prop) (Ci:σ→ι→List ar) (invx:Code→κ→Prop) (Cx:Code→κ→List ar) (isJ isF:List Nat) (y0:ι) (hr:E.r=none) (hg:ev L g=some (.func (.func f) fi.toArray ca.toArray)) (hs:H6 E.P f fi ca Cp s0 step fin_) (hnd:decide (isJ++isF).Nodup=true) (hJ:kT C isJ=Ci s0 y0) (hF:kT C isF=F) (h0:inv s0 y0) (hCp:∀ A∈Cp,∃ B∈F,Pm B A) (hps:∀ k x k',step k x k'→x.length=ps.size) (hpn:ps.toList.all (fun t=>blt t E.n)=true) (hL:cS L L0) (round:∀ (k:σ) (x:List Value) (k':σ) (y:ι) (l:Nat) (ra rb:Loop) (S:BS) (w0:World) (K:Act→World→Prop) (Qr:dk),E.w0.heap.size≤w0.heap.size→step k x k'→inv k y→
  (∀ L' C',WJ ⟨E.P,some l,E.n,S,w0⟩ body Qr [] L' (jU l (.loop rb)::C')→KJ ⟨E.P,some l,E.n,S,w0⟩ K [] L' (jU l (.loop ra)::C'))→
  (∀ y' L' C',inv k' y'→(∀ w,St S w0 C' w→St S w0 (jU l (.loop rb)::Ci k' y') w)→KJ ⟨E.P,some l,E.n,S,w0⟩ (Qr .normal) [] L' C')→
  (∀ id z L' C',invx (.exit id) z→(∀ w,St S w0 C' w→St S w0 (jU l (.loop rb)::Cx (.exit id) z) w)→KJ ⟨E.P,some l,E.n,S,w0⟩ (Qr (.exit id)) [] L' C')→
  (∀ z L' C',invx .ret z→(∀ w,St S w0 C' w→St S w0 (jU l (.loop rb)::Cx .ret z) w)→KJ ⟨E.P,some l,E.n,S,w0⟩ (Qr .ret) [] L' C')→
  WJ ⟨E.P,some l,E.n,S,w0⟩ assign (Exit.then K (fun _ _ _=>False)) [] (BC ps.toList x L0) (jU l (.loop ra)::Ci k y)) (fin:∀ r s y,fin_ s→inv s y→KJ E (Q .normal) (jD r::D) L0 (jU r (.deferred (some []))::(F++Ci s y))) (finx:∀ r id z,invx (.exit id) z→KJ E (Q (.exit id)) (jD r::D) L0 (jU r (.deferred (some []))::(F++Cx (.exit id) z))) (finr:∀ r z,invx .ret z→KJ E (Q .ret) (jD r::D) L0 (jU r (.deferred (some []))::(F++Cx .ret z))):WJ E (.rangeFunc g ps assign body) Q D L C:=by
 intro a w hf q;refine wpIn_rangeFunc fun fn _=>?_;show ∃ l jD w₁ d w₁' f args w₂,(Instr.enterLoop fn a.tmps ps assign body E.r).run E.P w= .ok (l,jD) w₁∧_
 rw [hr];obtain ⟨rec,G⟩: ∃ rec:LoopState→Option Code→Loop,rec=fun st pe=>{state:=st,pending:=pe,fn,tmps:=a.tmps,params:=ps,assign,body,defers:=w.heap.size}:=⟨_,rfl⟩;obtain ⟨W1,R⟩: ∃ W1,(w.alloc (.deferred (some []))).alloc (.loop (rec .ready none))=W1:=⟨_,rfl⟩;have A0:a.eval g= .func (.func f) fi.toArray ca.toArray:=hf.ev hg;have p:(Instr.enterLoop fn a.tmps ps assign body none).run E.P w= .ok (w.heap.size+1,[jD w.heap.size]) W1:=by
  rw [← R,G];exact ACU _ _ _ _ _
 -- the state with the record and the block
 have u:St E.S E.w0 ((jU (w.heap.size+1) (.loop (rec .ready none))::Ci s0 y0)++(jU w.heap.size (.deferred (some []))::F)) W1:=by
  have X:St E.S E.w0 (Ci s0 y0++F) w:=St.kT (isJ++isF) hnd (by have X:=hJ;have j:=hF;unfold Go.Proofs.YtgnlmfdknlbkkaaGreatDoor.kT at X j ⊢;rw [AAh,X,j]) q;have hn:Q5 w W1 [jU (w.heap.size+1) (.loop (rec .ready none)),jU w.heap.size (.deferred (some []))]:=by
   refine ⟨fun A hA=>?_,fun A hA b hb=>?_,?_⟩
   ·rcases bH.1 hA with rfl|hA
    ·show W1.heap[w.heap.size+1]? =_
     rw [← R];have:=ABD (w.alloc (.deferred (some []))) (.loop (rec .ready none));rwa [World.size_alloc] at this
    ·simp only [bT] at hA;subst hA;show W1.heap[w.heap.size]? =_
     rw [← R];exact (ABe _ _ _ sm).trans (ABD w _)
   ·rcases bH.1 hA with rfl|hA
    ·have:b=w.heap.size+1:=hb;omega
    ·simp only [bT] at hA;subst hA;have:b=w.heap.size:=hb;omega
   ·refine List.Pairwise.cons (fun B hB b X j=>?_) (AAY _ _);simp only [bT] at hB;subst hB;have V:b=w.heap.size+1:=X;have O:b=w.heap.size:=j;omega
  have hk:ed no w W1:=by rw [← R];exact (ed.alloc no w _).trans (ed.alloc no _ _)
  have j:=X.grow hk hn;refine j.perm ?_;simp only [AAX,AAp];exact List.Perm.cons _ (v5.symm)
 have Y:=u.tied;obtain ⟨H,A5⟩:=AAT.1 Y.sep;have AP:=Y.holds _ (bZ ..);let J:σ→ar→Prop:=fun k A=> ∃ y,inv k y∧A=bD (jU (w.heap.size+1) (.loop (rec .ready none))::Ci k y)
 let Z:ar→Prop:=fun A=> ∃ c z,(c= .ret∨ ∃ id,c= .exit id)∧invx c z∧A=bD (jU (w.heap.size+1) (.loop (rec .done (some c)))::Cx c z)
 refine ⟨w.heap.size+1,[jD w.heap.size],W1,{target:= .fn (.func f) ca.toArray,args:=fi.toArray++ #[.func (.yield (w.heap.size+1)) #[] #[]]},W1,f,
  (fi++Value.func (.yield (w.heap.size+1)) #[] #[]::ca).toArray,W1,p,?_,fun _ _=>trivial,?_,fun h=>by simp at h,?_⟩
 ·simp only [resolve,A0];simp [Deferred.ofValue,Act.eval]
 ·have:fi.toArray++ #[Value.func (.yield (w.heap.size+1)) #[] #[]]++ca.toArray=(fi++Value.func (.yield (w.heap.size+1)) #[] #[]::ca).toArray:=by simp
  simp [invoke,oT hs.go]
 ·refine (rl E.r (hs.run (w.heap.size+1) J Z _ W1 ?_ ⟨y0,h0,U⟩ AP ?_ ?_)).mono ?_
  ·-- a round
   rintro k x k' A W hx ⟨y,hy,rfl⟩ An hA;have hl:W.heap[w.heap.size+1]? =some (.loop (rec .ready none)):=hA.1 _ (bZ ..);have AC:=run_yield (P:=E.P) (args:=x.toArray) hl (by rw [G];simpa using hps k x k' hx);rw [G] at AC;refine ⟨fn,_,assign,body,AC,roundIn_of_wpIn trivial ?_⟩;let A:ar:=bD (jU (w.heap.size+1) (.loop (rec .ready none))::Ci k y)
   have A1:Fr E.n [] (BC ps.toList x L0) {tmps:=(ps.zip x.toArray).foldl (fun tmps (t,a)=>tmps.setIfInBounds t a) a.tmps,defers:=[]}:=by
    have X:=G3 ps.toList x L0 a.tmps (fun t ht=>by have:=db.1 hpn t ht;rwa [u7] at this) ⟨rfl,hf.size,fun t v hv=>hf.at_ t v (hL t v hv)⟩;rw [← ABq];simpa using X
   have o: ∀ (c:Option Code) (b:Bool),({rec .busy none with state:=if b then .ready else .done,pending:=c}:Loop)=rec (if b then .ready else .done) c:=fun c b=>by rw [G]
   have T: ∀ (c:Option Code) (N:World) (C':List ar) (S:BS),St S W (jU (w.heap.size+1) (.loop (rec .busy none))::C') N→
    ∃ M,(Instr.endRound (w.heap.size+1) c).run E.P N= .ok (.bool c.isNone) M∧St S W (jU (w.heap.size+1) (.loop (rec (if c.isNone then .ready else .done) c))::C') M:=fun c N C' S H=>by
    have AB:N.heap[w.heap.size+1]? =some (.loop (rec .busy none)):=H.holds _ (bZ ..);refine ⟨_,run_endRound c AB,?_⟩;have:=H.Ct (b:=w.heap.size+1) (A':=jU (w.heap.size+1) (.loop (rec (if c.isNone then .ready else .done) c))) 0 rfl rfl rfl (iB _) (fun _ h=>h) (AAR (eH AB));rw [o];exact this
   refine round k x k' y (w.heap.size+1) (rec .ready none) (rec .busy none) ⟨A.wf,A.fP⟩ W _ (roundPost E.P (w.heap.size+1) (fun e w'=>(e= .returned (.bool true)∧ ∃ B,J k' B∧Mv A B W w')∨(e= .returned (.bool false)∧ ∃ B,Z B∧Mv A B W w'))) (c6 (c6 q.keeps.size (by rw [← R];simp;omega)) An) hx hy ?_ ?_ ?_ ?_ _ _ A1 (St.DC hA)
   ·intro L' C' hW a1 N i H;have AB:N.heap[w.heap.size+1]? =some (.loop (rec .ready none)):=H.holds _ (bZ ..);refine ⟨_,run_beginRound AB (by rw [G]),hW _ _ i ?_⟩;have:=H.Ct (b:=w.heap.size+1) (A':=jU (w.heap.size+1) (.loop (rec .busy none))) 0 rfl rfl rfl (iB _) (fun _ h=>h) (AAR (eH AB));have e:({rec .ready none with state:= .busy}:Loop)=rec .busy none:=by rw [G]
    rw [e];exact this
   ·intro y' L' C' hy' hC' a1 N i H;obtain ⟨M,V,O⟩:=T none N _ _ (hC' _ H);exact ⟨_,M,V,.inl ⟨U,_,⟨y',hy',U⟩,Mv.of O⟩⟩
   ·intro id z L' C' hz hC' a1 N i H;obtain ⟨M,V,O⟩:=T (some (.exit id)) N _ _ (hC' _ H);exact ⟨_,M,V,.inr ⟨U,_,⟨_,z,.inr ⟨id,U⟩,hz,U⟩,Mv.of O⟩⟩
   ·intro z L' C' hz hC' a1 N i H;obtain ⟨M,V,O⟩:=T (some .ret) N _ _ (hC' _ H);exact ⟨_,M,V,.inr ⟨U,_,⟨_,z,.inl U,hz,U⟩,Mv.of O⟩⟩
  ·intro A hA;obtain ⟨B,hB,hc⟩:=hCp A hA;exact hc.holds _ (Y.holds B (dg _ (dg _ hB)))
  ·intro A hA b hb hb';obtain ⟨B,hB,hc⟩:=hCp A hA;exact ⟨(H B (dg _ hB) b hb (hc.fP b hb')).1,fun h=>h⟩
  ·rintro e w' ⟨v,rfl,hh⟩;have AA:Fr E.n (jD w.heap.size::D) L0 {a with defers:=[jD w.heap.size]++a.defers}:=⟨by simp [hf.defers],hf.size,fun t v hv=>hf.at_ t v (hL t v hv)⟩;have hleave: ∀ (st:LoopState) (c:Option Code) (C':List ar),st≠ .busy→Mv (bD (jU (w.heap.size+1) (.loop (rec .ready none))::Ci s0 y0)) (bD (jU (w.heap.size+1) (.loop (rec st c))::C')) W1 w'→
    ∃ M,(Instr.endLoop (w.heap.size+1)).run E.P w'= .ok c M∧St E.S E.w0 (jU w.heap.size (.deferred (some []))::(F++C')) M:=fun st c C' A3 m=>by
    have X:=(Y.mv 0 rfl m).iI;have h1':St E.S E.w0 ((jU (w.heap.size+1) (.loop (rec st c))::C')++(jU w.heap.size (.deferred (some []))::F)) w':=X;have AB:w'.heap[w.heap.size+1]? =some (.loop (rec st c)):=h1'.holds (jU (w.heap.size+1) (.loop (rec st c))) sm;refine ⟨_,by have:=run_endLoop (P:=E.P) AB (by rw [G];exact A3);rw [this,G],?_⟩;have j:=h1'.Ct (b:=w.heap.size+1) (A':=jU (w.heap.size+1) (.loop {rec st c with state:= .exhausted})) 0 rfl rfl rfl (iB _) (fun _ h=>h) (AAR (eH AB));have h3:St E.S E.w0 (C'++(jU w.heap.size (.deferred (some []))::F)) _:=j.take (ABJ _ _);rw [G] at h3;refine h3.perm ?_;exact (AAC).trans sm
   rcases hh with ⟨s,B,A2,⟨y,hy,rfl⟩,m⟩|⟨B,⟨c,z,hc,hz,rfl⟩,m⟩
   ·obtain ⟨M,V,O⟩:=hleave .ready none _ sm m;exact ⟨none,M,V,fin w.heap.size s y A2 hy _ _ AA O⟩
   ·obtain ⟨M,V,O⟩:=hleave .done (some c) _ sm m;refine ⟨some c,M,V,?_⟩;rcases hc with rfl|⟨id,rfl⟩
    ·exact wpIn_ret (finr w.heap.size z hz _ _ AA O)
    ·exact wpIn_exit (finx w.heap.size id z hz _ _ AA O)
end
section
open Go.RowKit
abbrev fg:aa→Value:=fun s=>vA (aa.cells s)
abbrev eO:aI→Value:=fun s=>vA (aI.cells s)
abbrev TM:=List (Int×aa)
abbrev FM:=List (aI×Int)
def g5 {α:Type} (m:α) (b:Nat):List Value:=[Value.map (some b)]
def rJ (m:TM) (b:Nat):List ar:=[iu iV b (bR fg m)]
def oL (m:FM) (b:Nat):List ar:=[iu eO b (bR iV m)]
theorem m6 {M A:Type} {f:M→A→List ar}: ∀ (m:M) (a:A) (w:World),(∀ X∈f m a,X.holds w)→ ∀ X∈f m a,X.holds w:=fun _ _ _ h=>h
/-- untied -/
theorem I0 (i:Nat) (hn:decide (i::(range C.length).filter fun k=>k != i).Nodup=true) (hC:kT C (i::(range C.length).filter fun k=>k != i)=bD X::C1) (h:RJ E ops Q rest D L (X++C1)):RJ E ops Q rest D L C:=fun a w hf hs=>h a w hf (St.iI (St.kT _ hn hC hs))
end
section
def cQ (ln:bU) (rd:dx) (e:List Int) (tms:List TM):cw:=⟨rd.Start,rd.hU,e,tms,ln.di,ln.e_,(rd.ab.n:Int)⟩
def Uj (o:Int×aa):List Value:=[.int .i64 o.1,.agg (aa.cells o.2).toArray]
structure Kk (w:cw):Prop where
 n:w.n≤6
 times:w.CI.length=w.n
 now:0≤w.Start∧w.Start≤w.hU∧w.hU≤86400000
 least: ∀ x∈w.sH,1≤x∧x≤500000000
 JZ: ∀ t∈w.CI,∀ p∈t,(0≤p.1∧p.1≤10)∧0≤p.2.Lo∧p.2.Lo≤p.2.Hi∧p.2.Hi≤86400000
theorem Kk.opt (h:Kk w) {o:Int×aa} (ho:o∈kX w b):(-1≤o.1∧o.1≤10)∧0≤o.2.Lo∧o.2.Lo≤o.2.Hi∧o.2.Hi≤86400000:=by
 unfold kX zk at ho;rcases bH.1 ho with rfl|ho
 ·have:=h.now;simp only;omega
 ·cases ht:w.CI[b]? with
  |none=>simp [ht] at ho
  |some t=>
   rw [ht] at ho;have:=h.JZ t (aF ht) o ho;omega
theorem Kk.cU (h:Kk w) (b:Nat):0≤cU w b∧cU w b≤500000000:=by
 unfold Go.Proofs.YtgnlmfdknlbkkaaGreatDoor.cU;cases ht:w.sH[b]? with
 |none=>simp
 |some x=>have:=h.least x (aF ht);simp only [ABa];omega
theorem xy (s:Int):(0≤(gT s).right∧0≤(gT s).fK)∧(gT s).right+(gT s).fK=1:=by unfold gT;split<;>simp
theorem PU (h:Kk w): ∀ (b:Nat) p,p∈sE w b→(0≤p.2∧p.2≤86400000)∧(0≤p.1.right∧0≤p.1.fK)∧p.1.right+p.1.fK=(b:Int):=by
 intro b
 induction b with
 |zero=>
  intro p hp;simp only [sE,bT] at hp;subst hp;have:=h.now;simp only;omega
 |succ b ih=>
  intro q hq;obtain ⟨p,hp,o,ho,e⟩:=lO.1 hq;have A:=ih p hp;have B:=h.opt ho;have C:=h.cU b;have D:=h.now;have E:=xy o.1;unfold oE at e;split at e
  ·simp only [k4] at e;subst e;simp only [dZ];omega
  ·cases e
theorem Xo (h:Kk w): ∀ (k:Nat) p,p∈TE w k→(-(500000000*(k:Int))≤p.2∧p.2≤86400000)∧(0≤p.1.right∧0≤p.1.fK)∧p.1.right+p.1.fK≤(k:Int):=by
 intro k
 induction k with
 |zero=>
  intro p hp;simp only [TE,bT] at hp;subst hp;have:=h.now;simp only;omega
 |succ k ih=>
  intro q hq;simp only [TE,bH,AAx,AAD] at hq;rcases hq with rfl|⟨p,hp,o,ho,e⟩
  ·have:=h.now;simp only;omega
  ·have A:=ih p hp;have B:=h.opt ho;have C:=h.cU (w.n-(k+1));have D:=h.now;have E:=xy o.1;unfold rr at e;split at e
   ·simp only [k4] at e;subst e;simp only [dZ];omega
   ·cases e
theorem PD (h:Kk w) (hp:p∈back w b):(-3000000000≤p.2∧p.2≤86400000)∧(0≤p.1.right∧0≤p.1.fK)∧p.1.right+p.1.fK≤6:=by
 have:=Xo h _ _ hp;have:=h.n;omega
theorem AT {t:TM} (ht:w.CI[b]? =some t) {o:Int×aa}:o∈kX w b↔o=(-1,⟨w.Start,w.hU⟩)∨o∈t:=by
 unfold kX zk;rw [ht];simp
theorem nK {K:Type} [DecidableEq K] {l:List (K×β)} {x:K} {y:β} (hn:(l.map (·.1)).Nodup) (hm:(x,y)∈l) {o:K×β} (h:o∈l):o∈cH l x∨o=(x,y):=by
 by_cases e:o.1=x
 ·right;obtain ⟨k,v⟩:=o;simp only at e;subst e;have B:=(ko hn).1 h;have A:=(ko hn).1 hm;rw [B] at A;cases A;rfl
 ·exact .inl (lJ.2 ⟨h,e⟩)
theorem Ms {K:Type} [DecidableEq K] {t l ys:List (K×β)} {x:K} {y:β} (hn:(l.map (·.1)).Nodup) (hm:(x,y)∈l) (h:∀ o∈t,o∈l∨o∈ys): ∀ o∈t,o∈cH l x∨o∈ys++[(x,y)]:=fun o ho=>by
 rcases h o ho with h|h
 ·rcases nK hn hm h with h|h
  ·exact .inl h
  ·exact .inr (by simp [h])
 ·exact .inr (by simp [h])
theorem ot {K:Type} [DecidableEq K] {t l:List (K×β)} {x:K} (h:∀ o∈l,o∈t): ∀ o∈cH l x,o∈t:=fun o ho=>h o (lJ.1 ho).1
theorem NJ (h:∀ p∈m,p∈left∨oH w p.1=false) (h0:left=[]):mO w m=false:=by
 unfold mO;rw [ACC];intro p hp;rcases h p hp with q|q
 ·rw [h0] at q;cases q
 ·simp [q]
theorem Tk (hp:p∈m) (h:oH w p.1=true):mO w m=true:=AAm.2 ⟨p,hp,h⟩
theorem QR {t:aI} {v:Int} (hn:(left.map (·.1)).Nodup) (hm:(t,v)∈left) (h:∀ p∈m,p∈left∨oH w p.1=false) (hf:oH w t=false): ∀ p∈m,p∈cH left t∨oH w p.1=false:=fun p hp=>by
 rcases h p hp with q|q
 ·rcases nK hn hm q with q|q
  ·exact .inl q
  ·right;rw [q];exact hf
 ·exact .inr q
/-- what the maps of a watch are -/
structure yN (w:cw) (fs:List (List (aI×Int))):Prop where
 len:fs.length=w.n+1
 min: ∀ (b:Nat) m,fs[b]? =some m→wX m (sE w b)
 keys: ∀ (b:Nat) m,fs[b]? =some m→(m.map (·.1)).Nodup
structure vE (w:cw) (bs:List (List (aI×Int))):Prop where
 len:bs.length=w.n+1
 max: ∀ (b:Nat) m,bs[b]? =some m→yP m (back w b)
 keys: ∀ (b:Nat) m,bs[b]? =some m→(m.map (·.1)).Nodup
theorem yN.mem (h:yN w fs) (hm:fs[b]? =some m) (hp:p∈m):p∈sE w b:=(h.min b m hm).1 _ _ ((gj (h.keys b m hm)).1 hp)
theorem vE.mem (h:vE w fs) (hm:fs[b]? =some m) (hp:p∈m):p∈back w b:=(h.max b m hm).1 _ _ ((gj (h.keys b m hm)).1 hp)
theorem Kw {t l ys:List (Int×aa)} (ht:w.CI[b]? =some t) (h:∀ o∈t,o∈l∨o∈ys) (h0:l=[]) (hs:(-1,(⟨w.Start,w.hU⟩:aa))∈ys): ∀ o∈kX w b,o∈ys:=fun o ho=>by
 rcases (AT ht).1 ho with rfl|ho
 ·exact hs
 ·rcases h o ho with q|q
  ·rw [h0] at q;cases q
  ·exact q
end
section
/-- by these options all is yielded -/
def nj (w:cw) (b:Nat) (mf mb:List (aI×Int)) (os ys:List (Int×aa)):Prop:= ∀ o∈os,∀ p∈mf,∀ u∈mb,∀ q,oe w b p u o=some q→q∈ys
def o_ (w:cw) (b:Nat) (mf mb:List (aI×Int)) (o:Int×aa) (left:List (aI×Int)) (ys:List (Int×aa)):Prop:= ∀ p∈mf,p∈left∨ ∀ u∈mb,∀ q,oe w b p u o=some q→q∈ys
def pd (w:cw) (b:Nat) (mb:List (aI×Int)) (o:Int×aa) (p:aI×Int) (left:List (aI×Int)) (ys:List (Int×aa)):Prop:= ∀ u∈mb,u∈left∨ ∀ q,oe w b p u o=some q→q∈ys
variable {w:cw} {b:Nat} {mf mb left:List (aI×Int)} {o x:Int×aa} {os ys:List (Int×aa)} {p u:aI×Int}
theorem nj.nil:nj w b mf mb [] ys:=fun o ho=>by cases ho
theorem nj.app (h:nj w b mf mb os ys):nj w b mf mb os (ys++[x]):=fun o ho p hp u hu q e=>m1 _ (h o ho p hp u hu q e)
theorem o_.app (h:o_ w b mf mb o left ys):o_ w b mf mb o left (ys++[x]):=fun p hp=>(h p hp).imp id fun h u hu q e=>m1 _ (h u hu q e)
theorem o_.start:o_ w b mf mb o mf ys:=fun p hp=> .inl hp
theorem pd.start:pd w b mb o p mb ys:=fun p hp=> .inl hp
theorem pd.skip {t:aI} {v:Int} (hn:(left.map (·.1)).Nodup) (hm:(t,v)∈left) (h:pd w b mb o p left ys) (he:oe w b p (t,v) o=none):pd w b mb o p (cH left t) ys:=fun u hu=>by
 rcases h u hu with q|q
 ·rcases nK hn hm q with q|q
  ·exact .inl q
  ·right;intro z hz;rw [q,he] at hz;cases hz
 ·exact .inr q
theorem pd.aa6 {t:aI} {v:Int} (hn:(left.map (·.1)).Nodup) (hm:(t,v)∈left) (h:pd w b mb o p left ys) (he:oe w b p (t,v) o=some x):pd w b mb o p (cH left t) (ys++[x]):=fun u hu=>by
 rcases h u hu with q|q
 ·rcases nK hn hm q with q|q
  ·exact .inl q
  ·right;intro z hz;rw [q,he] at hz;cases hz;simp
 ·right;intro z hz;exact m1 _ (q z hz)
theorem o_.next {t:aI} {v:Int} {l2:List (aI×Int)} (hn:(left.map (·.1)).Nodup) (hm:(t,v)∈left) (h:o_ w b mf mb o left ys) (hq:pd w b mb o (t,v) l2 ys) (h0:l2=[]):o_ w b mf mb o (cH left t) ys:=fun p hp=>by
 rcases h p hp with q|q
 ·rcases nK hn hm q with q|q
  ·exact .inl q
  ·right;intro u hu z hz;subst q;rcases hq u hu with q|q
   ·rw [h0] at q;cases q
   ·exact q z hz
 ·exact .inr q
theorem nj.next (h:nj w b mf mb os ys) (hp:o_ w b mf mb o left ys) (h0:left=[]):nj w b mf mb (os++[o]) ys:=fun o' ho p hp' u hu q e=>by
 rcases dY.1 ho with ho|ho
 ·exact h o' ho p hp' u hu q e
 ·simp only [bT] at ho;subst ho;rcases hp p hp' with z|z
  ·rw [h0] at z;cases z
  ·exact z u hu q e
theorem nj.fin (h:nj w b mf mb os ys) (ho: ∀ o∈kX w b,o∈os): ∀ q∈sL w b mf mb,q∈ys:=fun q hq=>by
 obtain ⟨o,A,p,B,u,C,e⟩:=kj.1 hq;exact h o (ho o A) p B u C q e
theorem Kr (h:max (p.2+cU w b) o.2.Lo≤min u.2 o.2.Hi) (h2:oH w (dZ (dZ p.1 u.1) (gT o.1))=true):oe w b p u o=some (o.1,⟨max (p.2+cU w b) o.2.Lo,min u.2 o.2.Hi⟩):=by
 unfold oe mJ CT;rw [c0 ⟨h,h2⟩]
theorem MR (h: ¬ max (p.2+cU w b) o.2.Lo≤min u.2 o.2.Hi):oe w b p u o=none:=by
 unfold oe mJ;rw [c1 (fun q=>h q.1)]
theorem Km (h2:oH w (dZ (dZ p.1 u.1) (gT o.1))=false):oe w b p u o=none:=by
 unfold oe CT;rw [c1 (fun q=>by rw [h2] at q;exact absurd q.2 dc)]
theorem o9 {v:Int} (h:w.sH[b]? =some v):cU w b=v:=by unfold cU;rw [h];rfl
theorem F5 {t q:aI} {v z y:Int} (hy:w.sH[b]? =some y) (h:max (v+y) o.2.Lo≤min z o.2.Hi) (h2:oH w (dZ (dZ t q) (gT o.1))=true):oe w b (t,v) (q,z) o=some (o.1,⟨max (v+y) o.2.Lo,min z o.2.Hi⟩):=by
 have e:=o9 hy;subst e;exact Kr h h2
theorem Kp {t q:aI} {v z y:Int} (hy:w.sH[b]? =some y) (h: ¬ max (v+y) o.2.Lo≤min z o.2.Hi):oe w b (t,v) (q,z) o=none:=by
 have e:=o9 hy;subst e;exact MR h
theorem pR {k:aI} {y:Int} (h:(m.map (·.1)).Nodup):((d_ m k y).map (·.1)).Nodup:=by
 unfold d_;by_cases hx:(m.lookup k).isSome
 ·rw [c0 hx,map_map];have e:m.map ((fun p=>p.1)∘fun p=>if p.1=k then (k,y) else p)=m.map (·.1):=by
   apply AB0;intro p _;simp only [Function.comp];split
   ·rename_i e;exact e.symm
   ·rfl
  rw [e];exact h
 ·rw [c1 hx,AAF,ABs];refine ⟨h,sm,?_⟩;intro a ha c hc;simp only [m2,map_nil,bT] at hc;rw [hc];obtain ⟨p,hp,rfl⟩:=cu.1 ha;have hn:m.lookup k=none:=by cases h0:m.lookup k with
   |none=>rfl
   |some v=>exact absurd (by rw [h0];rfl) hx
  exact jg.1 hn p hp
theorem EG (h:(m.map (·.1)).Nodup):((ry m q).map (·.1)).Nodup:=by
 unfold ry;split
 ·exact pR h
 ·split
  ·exact pR h
  ·exact h
theorem Ej (h:(m.map (·.1)).Nodup):((qT m q).map (·.1)).Nodup:=by
 unfold qT;split
 ·exact pR h
 ·split
  ·exact pR h
  ·exact h
/-- a map of the first times, on its way -/
structure AY (w:cw) (b:Nat) (m:List (aI×Int)):Prop where
 snd:yz m (sE w (b+1))
 keys:(m.map (·.1)).Nodup
structure zc (w:cw) (b:Nat) (m:List (aI×Int)):Prop where
 snd:yz m (back w b)
 keys:(m.map (·.1)).Nodup
 zero: ∃ v,m.lookup ⟨0,0⟩=some v∧w.hU≤v
theorem N7 (h:max (p.2+cU w b) o.2.Lo≤min o.2.Hi w.hU):oE w b p o=some (dZ p.1 (gT o.1),max (p.2+cU w b) o.2.Lo):=by unfold oE;rw [c0 h]
theorem Sm (h: ¬ max (p.2+cU w b) o.2.Lo≤min o.2.Hi w.hU):oE w b p o=none:=by unfold oE;rw [c1 h]
theorem N2 (h:o.2.Lo≤min p.2 o.2.Hi):rr w b p o=some (dZ p.1 (gT o.1),min p.2 o.2.Hi-cU w b):=by unfold rr;rw [c0 h]
theorem Rz (h: ¬ o.2.Lo≤min p.2 o.2.Hi):rr w b p o=none:=by unfold rr;rw [c1 h]
theorem AY.start:AY w b []:=⟨fun t v h=>by simp at h,ABt⟩
theorem AY.add (h:AY w b m) (hp:p∈sE w b) (ho:o∈kX w b) (he:oE w b p o=some q):AY w b (ry m q):=⟨KO h.snd (lO.2 ⟨p,hp,o,ho,he⟩),EG h.keys⟩
theorem zc.start (hb:b<w.n):zc w b [(⟨0,0⟩,w.hU)]:=⟨fun t v h=>by
 obtain ⟨rfl,rfl⟩:=rn.1 h;exact (q6 hb).2 (.inl U),sm,w.hU,rn.2 ⟨U,U⟩,wt _⟩
theorem zc.add (hb:b<w.n) (h:zc w b m) (hp:p∈back w (b+1)) (ho:o∈kX w b) (he:rr w b p o=some q):zc w b (qT m q):=⟨KH h.snd ((q6 hb).2 (.inr ⟨p,hp,o,ho,he⟩)),Ej h.keys,by
 obtain ⟨v,A,C⟩:=h.zero;obtain ⟨v',B,D⟩:=sZ (q:=q) _ _ A;exact ⟨v',B,I⟩⟩
theorem kl.none_ (h:kl w b m p os) (he:oE w b p o=none):kl w b m p (os++[o]):=h.add (zM.refl _) fun q hq=>by rw [he] at hq;cases hq
theorem kl.Pn (h:kl w b m p os) (he:oE w b p o=some q):kl w b (ry m q) p (os++[o]):=h.add yC fun q' hq=>by rw [he] at hq;cases hq;exact Ky
theorem kf.none_ (h:kf w b m p os) (he:rr w b p o=none):kf w b m p (os++[o]):=h.add (Av.refl _) fun q hq=>by rw [he] at hq;cases hq
theorem kf.Pn (h:kf w b m p os) (he:rr w b p o=some q):kf w b (qT m q) p (os++[o]):=h.add sZ fun q' hq=>by rw [he] at hq;cases hq;exact Lx
/-- what of a map of the beam before is used already -/
def lv (w:cw) (b:Nat) (mb m left:List (aI×Int)):Prop:= ∀ p∈mb,p∈left∨kl w b m p (kX w b)
def kS (w:cw) (b:Nat) (mb m left:List (aI×Int)):Prop:= ∀ p∈mb,p∈left∨kf w b m p (kX w b)
theorem lv.start:lv w b mb m mb:=fun p hp=> .inl hp
theorem kS.start:kS w b mb m mb:=fun p hp=> .inl hp
theorem lv.lower (h:lv w b mb m left) (hl:zM m m'):lv w b mb m' left:=fun p hp=>(h p hp).imp id fun h=>h.lower hl
theorem kS.upper (h:kS w b mb m left) (hl:Av m m'):kS w b mb m' left:=fun p hp=>(h p hp).imp id fun h=>h.upper hl
theorem lv.next {t:aI} {v:Int} (hn:(left.map (·.1)).Nodup) (hm:(t,v)∈left) (h:lv w b mb m left) (hd:kl w b m (t,v) os) (ho:∀ o∈kX w b,o∈os):lv w b mb m (cH left t):=fun p hp=>by
 rcases h p hp with q|q
 ·rcases nK hn hm q with q|q
  ·exact .inl q
  ·right;rw [q];exact hd.sub ho
 ·exact .inr q
theorem kS.next {t:aI} {v:Int} (hn:(left.map (·.1)).Nodup) (hm:(t,v)∈left) (h:kS w b mb m left) (hd:kf w b m (t,v) os) (ho:∀ o∈kX w b,o∈os):kS w b mb m (cH left t):=fun p hp=>by
 rcases h p hp with q|q
 ·rcases nK hn hm q with q|q
  ·exact .inl q
  ·right;rw [q];exact hd.sub ho
 ·exact .inr q
theorem lv.fin (h:lv w b mb m left) (h0:left=[]): ∀ p∈mb,kl w b m p (kX w b):=fun p hp=>by
 rcases h p hp with q|q
 ·rw [h0] at q;cases q
 ·exact q
theorem kS.fin (h:kS w b mb m left) (h0:left=[]): ∀ p∈mb,kf w b m p (kX w b):=fun p hp=>by
 rcases h p hp with q|q
 ·rw [h0] at q;cases q
 ·exact q
end
section
def nk (sg:List aZ) (i:Nat):aZ:=if i=0 then ⟨-1,0⟩ else (sg[i-1]?).getD ⟨-1,0⟩
theorem lh {s:aZ} (h:sg[i]? =some s):nk sg (i+1)=s:=by unfold nk;rw [c1 I,AA_,h];rfl
def k8 (l:a_) (s:aZ):Prop:=(0≤s.fR∧s.fR≤(l.ag.length:Int)-1)∧0≤s.Read∧s.Read≤86400000
def j9 (l:a_) (sg:List aZ) (i:Nat) (s:aZ):Prop:=k8 l s∧ ¬ s.fR<(nk sg i).fR∧ ¬ (s.fR=(nk sg i).fR∧s.Read≤(nk sg i).Read)
def qq (l:a_) (sg:List aZ) (i:Nat):Prop:= ∀ (j:Nat) s,j<i→sg[j]? =some s→j9 l sg j s
structure gl (l:a_) (r:cW):Prop where
 time:0≤r.Start∧r.Start≤r.hU∧r.hU≤86400000
 len:r.ab.length≤10
 sig: ∀ (i:Nat) s,r.ab[i]? =some s→j9 l r.ab i s
noncomputable instance (l:a_) (r:cW):Decidable (gl l r):=Classical.propDecidable _
theorem xC:qq l sg 0:=fun j s hj=>absurd hj (s4 _)
theorem j5 {s:aZ} (h:qq l sg i) (hs:sg[i]? =some s) (ho:j9 l sg i s):qq l sg (i+1):=fun j z hj hz=>by
 rcases r4 j i with q|q
 ·exact h j z q hz
 ·obtain rfl:j=i:=by omega
  rw [hs] at hz;cases hz;exact ho
theorem Ba (h1:0≤r.Start∧r.Start≤r.hU∧r.hU≤86400000) (h2:r.ab.length≤10) (h:qq l r.ab i) (hi:r.ab.length≤i):gl l r:=
 ⟨h1,h2,fun j s hs=>h j s (by have:=(aR.1 hs).1;omega) hs⟩
noncomputable def v_ (l:a_) (sg:List aZ) (b k:Nat):Option (Int×aa):=(sg[k]?).bind fun s=>if s.fR=(b:Int)∧(du l s).Lo≤(du l s).Hi then some ((k:Int),du l s) else none
noncomputable def qw (l:a_) (sg:List aZ) (i b:Nat):TM:=(range i).filterMap (v_ l sg b)
noncomputable def cL (l:a_) (sg:List aZ) (i:Nat):List TM:=(range l.ag.length).map (qw l sg i)
noncomputable def cv (l:a_) (n:Nat):List Int:=(range n).map (ew l)
theorem th {n:Nat}:cv l (n+1)=cv l n++[ew l n]:=by simp [cv,AAV]
theorem dE {n:Nat}:(cv l n).length=n:=by simp [cv]
theorem hZ:(cL l sg i).length=l.ag.length:=by simp [cL]
theorem qG (h:b<l.ag.length):(cL l sg i)[b]? =some (qw l sg i b):=by simp [cL,h]
theorem sk {q:Int×aa}:v_ l sg b k=some q↔ ∃ s,sg[k]? =some s∧(s.fR=(b:Int)∧(du l s).Lo≤(du l s).Hi)∧q=((k:Int),du l s):=by
 unfold v_;cases h:sg[k]? with
 |none=>simp
 |some s=>
  simp only [r7,k4];by_cases e:s.fR=(b:Int)∧(du l s).Lo≤(du l s).Hi
  ·rw [c0 e];constructor
   ·intro h;cases h;exact ⟨s,rfl,e,rfl⟩
   ·rintro ⟨s',rfl,_,rfl⟩;rfl
  ·rw [c1 e];constructor
   ·intro h;cases h
   ·rintro ⟨s',rfl,e',_⟩;exact absurd e' e
theorem vj {q:Int×aa}:q∈qw l sg i b↔ ∃ k,k<i∧ ∃ s,sg[k]? =some s∧(s.fR=(b:Int)∧(du l s).Lo≤(du l s).Hi)∧q=((k:Int),du l s):=by
 unfold qw;simp only [AAD,AAd,sk]
theorem sX:qw l sg (i+1) b=qw l sg i b++(v_ l sg b i).toList:=by
 unfold qw;rw [AAV,AAh];congr 1
theorem Au:cL l sg 0=List.replicate l.ag.length []:=by
 unfold cL;rw [List.eq_replicate_iff];refine ⟨sm,fun t ht=>?_⟩;obtain ⟨b,_,rfl⟩:=cu.1 ht;rfl
theorem rR {s:aZ} (hs:sg[i]? =some s) (h:¬ (du l s).Lo≤(du l s).Hi):cL l sg (i+1)=cL l sg i:=by
 unfold cL;apply AB0;intro b _;rw [sX];have:v_ l sg b i=none:=by
  cases e:v_ l sg b i with
  |none=>rfl
  |some q=>obtain ⟨s',A,⟨_,B⟩,_⟩:=sk.1 e;rw [hs] at A;cases A;exact absurd B h
 rw [this];simp
theorem ui {s:aZ} (hs:sg[i]? =some s) (hb:0≤s.fR∧s.fR≤(l.ag.length:Int)-1) (h:(du l s).Lo≤(du l s).Hi) {x:TM} (hx:(cL l sg i)[s.fR.toNat]? =some x):
 (cL l sg i).set s.fR.toNat (d_ x (i:Int) (du l s))=cL l sg (i+1):=by
 have A:s.fR.toNat<l.ag.length:=by omega
 rw [qG A] at hx;cases hx;have B:d_ (qw l sg i s.fR.toNat) (i:Int) (du l s)=qw l sg (i+1) s.fR.toNat:=by
  have hn:(qw l sg i s.fR.toNat).lookup (i:Int)=none:=jg.2 fun p hp e=>by
   obtain ⟨k,hk,_,_,_,rfl⟩:=vj.1 hp;simp only at e;omega
  have ho:v_ l sg s.fR.toNat i=some ((i:Int),du l s):=sk.2 ⟨s,hs,⟨I,h⟩,rfl⟩;rw [sX,ho];unfold d_;rw [hn];rfl
 rw [B];apply ABF;intro b;rw [AAO];by_cases e:s.fR.toNat=b
 ·rw [c0 e,hZ,← e,c0 A,qG A]
 ·rw [c1 e];by_cases hb':b<l.ag.length
  ·rw [qG hb',qG hb',sX];have:v_ l sg b i=none:=by
    cases e2:v_ l sg b i with
    |none=>rfl
    |some q=>obtain ⟨s',C,⟨D,_⟩,_⟩:=sk.1 e2;rw [hs] at C;cases C;exact absurd I e
   rw [this];simp
  ·rw [AAo (by rw [hZ];omega),AAo (by rw [hZ];omega)]
noncomputable def dX (l:a_) (r:cW):cw:=⟨r.Start,r.hU,cv l l.ag.length,cL l r.ab r.ab.length,l.di,l.e_,(r.ab.length:Int)⟩
theorem PM (ht:cE l.bW=true) (h:nP l) (hi:i<l.ag.length):1≤ew l i∧ew l i≤500000000:=by
 have A:=CZ ht h.vt i;have B:=h.TZ i hi;have C:=h.head.1;unfold ew qB;refine ⟨(Int.le_ediv_iff_mul_le I).2 I,?_⟩;have:(1000*mL l i+l.g7-1)/l.g7≤1000*mL l i+l.g7-1:=ACF _ I;omega
theorem Rj (l:a_) (s:aZ):0≤(du l s).Lo∧(du l s).Hi≤86400000:=by
 have A:=jL (p:=iW (sD l s) s.Read) (n:=86400001);have B:=jL (p:=iU (sD l s) s.Read) (n:=86400001);unfold du EB;simp only;omega
theorem ow (ht:cE l.bW=true) (h:nP l) (hr:gl l r):Kk (dX l r):=by
 have hh:=h.head;unfold fj at hh;refine ⟨?_,by simp [dX,hZ,cw.n,dE],hr.time,fun x hx=>?_,fun t A p hp=>?_⟩
 ·show (cv l l.ag.length).length≤6
  rw [dE];omega
 ·obtain ⟨i,hi,rfl⟩:=cu.1 hx;exact PM ht h (AAd.1 hi)
 ·obtain ⟨b,hb,rfl⟩:=cu.1 A;obtain ⟨k,hk,s,hs,⟨_,B⟩,rfl⟩:=vj.1 hp;have C:=Rj l s;have D:=hr.len;simp only;omega
noncomputable def fO (l:a_) (r:cW) (me:Int):Int:=if dU l=0 then (if gl l r then (if me=0 then (if ou (dX l r)=[] then 8 else 0) else me) else 51) else dU l
theorem n_ (h:¬ dU l=0):fO l r me=dU l:=c1 h
theorem gd (h:dU l=0) (h2:¬ gl l r):fO l r me=51:=by unfold fO;rw [c0 h,c1 h2]
theorem Fk (h:dU l=0) (h2:gl l r) (h3:¬ me=0):fO l r me=me:=by unfold fO;rw [c0 h,c0 h2,c1 h3]
theorem vD (h:dU l=0) (h2:gl l r) (h3:me=0) (h4:ou (dX l r)=[]):fO l r me=8:=by unfold fO;rw [c0 h,c0 h2,c0 h3,c0 h4]
theorem yn (h:dU l=0) (h2:gl l r) (h3:me=0) (h4:¬ ou (dX l r)=[]):fO l r me=0:=by unfold fO;rw [c0 h,c0 h2,c0 h3,c1 h4]
theorem jT (h:fO l r me=0):dU l=0∧gl l r∧me=0∧ ¬ ou (dX l r)=[]:=by
 unfold fO at h;split at h
 ·split at h
  ·split at h
   ·split at h
    ·omega
    ·exact ⟨asm,asm,asm,asm⟩
   ·omega
  ·omega
 ·omega
end
section
def rY (l:List Int):Int:=(l.drop 1).foldl min (l.headD 0)
theorem QS {l:List Int} {x:Int} (h:l[i]? =some x) (hi:1≤i):rY (l.take (i+1))=min (rY (l.take i)) x:=by
 have e:l.take (i+1)=l.take i++[x]:=by rw [l1,h];rfl
 have hl:1≤(l.take i).length:=by have:=(aR.1 h).1;rw [k5];omega
 rw [e];cases ht:l.take i with
 |nil=>rw [ht] at hl;simp at hl
 |cons y ys=>simp [rY,List.foldl_append]
theorem Mw {l:List Int} {x:Int} (h:l[0]? =some x):rY (l.take 1)=x:=by
 cases l with
 |nil=>simp at h
 |cons y ys=>simp at h;subst h;simp [rY]
theorem FV: ∀ (l:List Int) (a:Int),(l.foldl min a=a∨l.foldl min a∈l)∧l.foldl min a≤a∧ ∀ x∈l,l.foldl min a≤x
 |[],a=>⟨.inl rfl,sm,sm⟩
 |y::l,a=>by
  obtain ⟨A,C,B⟩:=FV l (min a y);simp only [ACL];refine ⟨?_,I,?_⟩
  ·rcases A with A|A
   ·rw [A];rcases Int.le_total a y with q|q
    ·left;omega
    ·right;rw [show min a y=y by omega];simp
   ·right;exact dg _ A
  ·intro x hx;rcases bH.1 hx with rfl|hx
   ·omega
   ·exact B x hx
theorem TC {l:List Int} (h:l≠[]):rY l∈l∧ ∀ x∈l,rY l≤x:=by
 cases l with
 |nil=>exact absurd rfl h
 |cons y ys=>
  obtain ⟨A,B,C⟩:=FV ys y;refine ⟨?_,fun x hx=>?_⟩
  ·rcases A with A|A
   ·simp [rY,A]
   ·exact dg _ (by simpa [rY] using A)
  ·rcases bH.1 hx with rfl|hx
   ·simpa [rY] using B
   ·simpa [rY] using C x hx
noncomputable def lU (l:a_) (r:cW):List Int:=if fO l r 0=0 then ou (dX l r) else []
theorem Ch (h:fO l r 0=0):lU l r=ou (dX l r):=c0 h
theorem B_ (h:¬ fO l r 0=0):lU l r=[]:=c1 h
theorem BO (h:fO l r 0=0):lU l r≠[]:=by rw [Ch h];exact (jT h).2.2.2
theorem H_ (h:fO l r 0=0):1≤(lU l r).length:=ACS.2 (BO h)
theorem G6:(lU l r).length≤100:=by
 unfold lU;split
 ·rename_i h;obtain ⟨A,B,_⟩:=jT h;obtain ⟨ht,ho⟩:=ep A;have:=(ow ht ho B).n;have C:=vv (w:=dX l r) (k:=(dX l r).n+1);unfold ou;omega
 ·simp
noncomputable def lT (l:a_) (b:Int):Int:=if 0≤b∧b≤(l.ag.length:Int)-1 then 0 else 2
theorem zL {b:Int} (h:0≤b∧b≤(l.ag.length:Int)-1):lT l b=0:=c0 h
theorem Ie {b:Int} (h:lT l b=0):0≤b∧b≤(l.ag.length:Int)-1:=by
 unfold lT at h;split at h
 ·assumption
 ·omega
noncomputable def o5 (l:a_) (r:cW) (b:Nat):aa:=Ax (u3 (dX l r) b)
noncomputable def eT (l:a_) (r:cW) (b:Int):Int:=if fO l r (lT l b)=0 then (if o5 l r b.toNat=oN then 6 else 0) else fO l r (lT l b)
noncomputable def eL (l:a_) (r:cW) (b:Int):aa:=if eT l r b=0 then o5 l r b.toNat else gO
theorem nB {b:Int} (h:¬ fO l r (lT l b)=0):eT l r b=fO l r (lT l b)∧eL l r b=gO:=by
 have e:eT l r b=fO l r (lT l b):=c1 h;exact ⟨e,by unfold eL;rw [c1 (by rw [e];exact h)]⟩
theorem tw (h:fO l r (lT l b)=0) (h2:o5 l r b=oN):eT l r b=6∧eL l r b=gO:=by
 have e:eT l r b=6:=by unfold eT;rw [c0 h,AAP,c0 h2]
 exact ⟨e,by unfold eL;rw [c1 (by rw [e];omega)]⟩
theorem tQ (h:fO l r (lT l b)=0) (h2:¬ o5 l r b=oN):eT l r b=0∧eL l r b=o5 l r b:=by
 have e:eT l r b=0:=by unfold eT;rw [c0 h,AAP,c1 h2]
 exact ⟨e,by unfold eL;rw [c0 e,AAP]⟩
theorem NB (h:Kk w) {q:Int×aa} (hq:q∈u3 w b):0≤q.2.Lo∧q.2.Lo≤q.2.Hi∧q.2.Hi≤86400000:=by
 have A:=p8 hq;obtain ⟨o,ho,p,hp,u,hu,e⟩:=kj.1 hq;obtain ⟨_,_,rfl⟩:=mm.1 e;have B:=h.opt ho;simp only [mJ] at A ⊢;omega
theorem wi {b:Int} (h:eT l r b=0):0≤(eL l r b).Lo∧(eL l r b).Lo≤(eL l r b).Hi∧(eL l r b).Hi≤86400000:=by
 have ho:fO l r (lT l b)=0:=by
  by_cases e:fO l r (lT l b)=0
  ·exact e
  ·rw [(nB e).1] at h;exact absurd h e
 obtain ⟨B,C,_⟩:=jT ho;obtain ⟨ht,A⟩:=ep B;have hw:=ow ht A C;have hv:eL l r b=o5 l r b.toNat:=by unfold eL;rw [c0 h]
 have hn:o5 l r b.toNat≠oN:=fun e=>by unfold eT at h;rw [c0 ho,c0 e] at h;omega
 have hh:=xA (l:=u3 (dX l r) b.toNat) fun q hq=>p8 hq;rw [hv];unfold o5 at hn ⊢;rcases hh with ⟨_,e⟩|hh
 ·exact absurd e hn
 ·obtain ⟨x,hx,ex⟩:=hh.lo;obtain ⟨y,hy,ey⟩:=hh.hi;have:=NB hw hx;have:=NB hw hy;have:=hh.le;omega
noncomputable def Gg (l:a_) (r:cW):aa:=if eT l r l.b_=0 then ⟨(eL l r l.b_).Lo-r.Start,(eL l r l.b_).Hi-r.Start⟩ else gO
theorem G2 (h:eT l r l.b_=0):Gg l r=⟨(eL l r l.b_).Lo-r.Start,(eL l r l.b_).Hi-r.Start⟩:=c0 h
theorem HS (h:¬ eT l r l.b_=0):Gg l r=gO:=c1 h
theorem yD {b:Int} (h:eT l r b=0):gl l r:=by
 by_cases e:fO l r (lT l b)=0
 ·exact (jT e).2.1
 ·rw [(nB e).1] at h;exact absurd h e
theorem B5 {k:List (Int×aa)} {h:aa} {q:Int×aa} (hh:l0 k h) (hq:q.2.Lo≤q.2.Hi) (hz:oo h q.2=z):l0 (k++[q]) z:=by subst hz;exact xH hh hq
end
section
def nH (l:a_):Prop:=(20<(l.bW.length:Int)∨8<(l.aD.length:Int)∨10<(l.ag.length:Int))∨ ∃ c∈l.aD,10<(c.bo.length:Int)
noncomputable instance (l:a_):Decidable (nH l):=Classical.propDecidable _
/-- what is asked of a line that comes in -/
structure wa (l:a_) (az:List RA):Prop where
 sS:l.bW.length≤9223372036854775807
 side: ∀ x∈l.bW,0≤x.gp∧x.gp≤255
 sT:l.aD.length≤9223372036854775807
 mD:az.length=l.aD.length
 sU:l.ag.length≤9223372036854775807
 U8: ∀ (k:Nat) m (a:RA),l.aD[k]? =some m→az[k]? =some a→m.bo.length≤a.2∧m.bo.length≤9223372036854775807
def DV (l:a_) (i:Nat):Prop:= ∀ (j:Nat) c,j<i→l.aD[j]? =some c→(c.bo.length:Int)≤10
theorem O7 (h:¬ (20<(l.bW.length:Int))∧ ¬ (8<(l.aD.length:Int))∧ ¬ (10<(l.ag.length:Int))) (hi:l.aD.length≤i) (hs:DV l i): ¬ nH l:=by
 rintro (A|⟨c,hc,B⟩)
 ·omega
 ·obtain ⟨k,hk⟩:=s3 hc;have:=hs k c (by have:=(aR.1 hk).1;omega) hk;omega
theorem Ns (hc:l.aD[i]? =some c) (h:10<(c.bo.length:Int)):nH l:= .inr ⟨c,aF hc,h⟩
theorem nM {l:List α} {P:Nat→α→Prop} {x:α} (h:∀ (j:Nat) y,j<i→l[j]? =some y→P j y) (hx:l[i]? =some x) (hp:P i x): ∀ (j:Nat) y,j<i+1→l[j]? =some y→P j y:=fun j y hj hy=>by
 by_cases e:j=i
 ·subst e;rw [hx] at hy;cases hy;exact hp
 ·exact h j y I hy
theorem AV {l:List α} {P:Nat→α→Prop} (hi:l.length≤i) (h:∀ (j:Nat) y,j<i→l[j]? =some y→P j y): ∀ (j:Nat) y,l[j]? =some y→P j y:=fun j y hy=>h j y (by have:=(aR.1 hy).1;omega) hy
theorem Aw {l:List α} {P:α→Prop} (hi:l.length≤i) (h:∀ (j:Nat) y,j<i→l[j]? =some y→P y): ∀ y∈l,P y:=fun y hy=>by
 obtain ⟨k,hk⟩:=s3 hy;exact AV (P:=fun _ y=>P y) hi h k y hk
theorem AS (h:¬ nH l):(l.bW.length:Int)≤20∧(l.aD.length:Int)≤8∧(l.ag.length:Int)≤10∧ ∀ c∈l.aD,(c.bo.length:Int)≤10:=by
 unfold nH at h;rw [not_or] at h;refine ⟨I,I,I,fun c hc=>?_⟩;have:=h.2;rcases AAe 10 (c.bo.length:Int) with q|q
 ·exact absurd ⟨c,hc,q⟩ this
 ·exact q
theorem wa.small (h:wa l az) (hg:¬ nH l):dW l az:=by
 have A:=AS hg;exact ⟨I,h.side,I,h.mD,I,fun k m a hm ha=>⟨(h.U8 k m a hm ha).1,by have:=A.2.2.2 m (aF hm);omega⟩⟩
def IF (c:aX) (x:dj) (k:Nat):Prop:= ∀ (j:Nat) o,j<k→c.bo[j]? =some o→qs c x o
def wy (c:aX) (m:Nat):Prop:= ∀ (i:Nat) x,i<m→c.bo[i]? =some x→IF c x i
theorem MS {m:Nat} (h1:0≤c.dG∧c.dG≤1000) (h2:1≤c.bo.length∧c.bo.length≤5) (hs:∀ (i:Nat) x,c.bo[i]? =some x→gn c i x) (hm:c.bo.length≤m) (hp:wy c m):fF c:=
 ⟨h1,h2,hs,fun i k x o hx hk ho=>hp i x (by have:=(aR.1 hx).1;omega) hx k o hk ho⟩
theorem Ia {m:Nat} (h:wy c m) (hk:∀ y,c.bo[m]? =some y→IF c y k) (e:k=m):wy c (m+1):=by
 subst e;intro i x hi hx;by_cases e:i=k
 ·subst e;exact hk x hx
 ·exact h i x I hx
noncomputable def my (c:aX) (at_:Int) (i:Nat):aa:=if i=0 then gO else ib c at_ i
theorem H0 (h:fF c) (hi:c.bo.length≤i):my c at_ i=jo c at_:=by
 have:=h.len;unfold my;rw [c1 I,o7 hi]
theorem DR {x:dj} (h:fF c) (ha:0≤at_∧at_≤90000000) (hx:c.bo[i]? =some x) (hi:i=0):
 my c at_ (i+1)=⟨max (x.er.Lo-vh c at_ x) (x.er.Lo-vh c at_ x),min (x.er.Hi+vh c at_ x) (x.er.Hi+vh c at_ x)⟩:=by
 subst hi;have hb:=h.xZ hx;have ho:=xU h.uV ha hb.1;unfold my;rw [c1 I,lk hx];unfold nQ ib;simp only [List.take_zero,List.foldl_nil,aa.mk.injEq];omega
theorem FC {x:dj} (hx:c.bo[i]? =some x) (hi:¬ i=0):my c at_ (i+1)=⟨max (my c at_ i).Lo (x.er.Lo-vh c at_ x),min (my c at_ i).Hi (x.er.Hi+vh c at_ x)⟩:=by
 unfold my;rw [c1 I,c1 hi,lk hx];rfl
def jf (ts:List ai) (n:Nat):List aa:=(range n).map fun k=>eW ts 0 k
theorem Fp {n:Nat}:jf ts (n+1)=jf ts n++[eW ts 0 n]:=by simp [jf,AAV]
theorem qA {n:Nat}:(jf ts n).length=n:=by simp [jf]
theorem sv {n:Nat} {x:aa} (h:(jf ts n)[k]? =some x):x=eW ts 0 k:=by
 unfold jf at h;rw [gM] at h;cases hk:(range n)[k]? with
 |none=>simp [hk] at h
 |some v=>
  have:=aR.1 hk;simp at this;simp [hk] at h;rw [← h,← this.2]
theorem GL {a b:cY} (h:b.bk<a.bk):lu ts a b=pX (lu ts b a):=by
 unfold lu;rw [c0 h,c1 I];unfold zF;rw [Int.min_comm b.bk a.bk,Int.max_comm b.bk a.bk];unfold pX oy;simp only [aa.mk.injEq];omega
theorem tO {a b:cY} (h:¬ b.bk<a.bk):lu ts a b=oy (oy (eW ts a.bk.toNat (b.bk-a.bk).toNat) b.mM) (pX a.mM):=by
 unfold lu zF;rw [c1 h,Int.min_eq_left I,ACg I]
end
section
def nu (m:List ao) (a:cq):List ar:=rd a.1.1 m.length 7 (zipWith ao.cells m a.2)::bx ao.lG m a.2
structure VF (h:List ao) (a:cq):Prop where
 len:h.length≤1000000
 mD:a.2.length=h.length
 sig: ∀ d∈h,d.bp.ab.length≤1000000
structure gI (r:cN) (az:List RA) (ha:List cq):Prop where
 line:dW r.av az
 hO:r.bf.length≤1000000
 draw:r.dp.length≤12
 hE:r.ay.length≤1000000
 has:ha.length=r.ay.length
 fG: ∀ (k:Nat) h (a:cq),r.ay[k]? =some h→ha[k]? =some a→VF h a
structure wY (r:cN) (az:List RA) (ha:List cq):Prop where
 line:wa r.av az
 hO:r.bf.length≤9223372036854775807
 draw:r.dp.length≤9223372036854775807
 hE:r.ay.length≤9223372036854775807
 has:ha.length=r.ay.length
 fG: ∀ (k:Nat) h (a:cq),r.ay[k]? =some h→ha[k]? =some a→h.length≤9223372036854775807∧a.2.length=h.length∧ ∀ d∈h,d.bp.ab.length≤9223372036854775807
def qY (h:List ao):Prop:=8<(h.length:Int)∨ ∃ d∈h,15<(d.bp.ab.length:Int)
def lZ (r:cN):Prop:=(nH r.av∨8<(r.bf.length:Int)∨8<(r.dp.length:Int)∨5<(r.ay.length:Int))∨ ∃ h∈r.ay,qY h
noncomputable instance (r:cN):Decidable (lZ r):=Classical.propDecidable _
theorem zo {r:cN} (h: ¬ lZ r): ¬ nH r.av∧(r.bf.length:Int)≤8∧(r.dp.length:Int)≤8∧(r.ay.length:Int)≤5∧ ∀ h∈r.ay,(h.length:Int)≤8∧ ∀ d∈h,(d.bp.ab.length:Int)≤15:=by
 unfold lZ at h;obtain ⟨A,B⟩:=not_or.1 h;obtain ⟨C,E⟩:=not_or.1 A;refine ⟨C,I,I,I,fun x hx=>?_⟩;have hn: ¬ qY x:=fun q=>B ⟨x,hx,q⟩;obtain ⟨F,D⟩:=not_or.1 hn;refine ⟨I,fun d hd=>?_⟩;rcases AAe 15 (d.bp.ab.length:Int) with q|q
 ·exact absurd ⟨d,hd,q⟩ D
 ·exact q
theorem wY.small {r:cN} {ha:List cq} (h:wY r az ha) (hg:¬ lZ r):gI r az ha:=by
 have B:=zo hg;refine ⟨h.line.small B.1,I,I,I,h.has,fun k x a hx A=>?_⟩;have C:=B.2.2.2.2 x (aF hx);have D:=h.fG k x a hx A;exact ⟨I,D.2.1,fun d hd=>by have:=C.2 d hd;omega⟩
def oh (r:cW):Prop:=r.Start=0∧r.hU=0∧(r.ab.length:Int)=0
instance (r:cW):Decidable (oh r):=by unfold oh;infer_instance
def iv (s:aa):Prop:=1≤s.Lo∧s.Lo≤s.Hi∧s.Hi≤600000
instance (s:aa):Decidable (iv s):=by unfold iv;infer_instance
def jt (l:a_) (d:ao):Prop:=if d.Out=true then d.cV=false∧d.Time=gO∧oh d.bp else if d.cV=true then iv d.Time∧oh d.bp else eT l d.bp l.b_=0∧d.Time=gO
noncomputable instance (l:a_) (d:ao):Decidable (jt l d):=Classical.propDecidable _
noncomputable def fZ (l:a_) (d:ao):aa:=if d.Out=true∨d.cV=true then d.Time else Gg l d.bp
/-- which kind a descent is of -/
def qn (d:ao):Int:=if d.Out=true then 0 else if d.cV=true then 1 else 2
theorem S7 (h:Kk w): ∀ (b:Nat) (p:aI×Int),p∈sE w b→w.Start≤p.2:=by
 have hl: ∀ b,0≤cU w b:=fun b=>by
  unfold cU;cases e:w.sH[b]? with
  |none=>simp
  |some x=>have:=h.least x (aF e);simp;omega
 intro b
 induction b with
 |zero=>intro p hp;simp only [sE,bT] at hp;subst hp;exact wt _
 |succ b ih=>
  intro q hq;obtain ⟨p,hp,o,ho,e⟩:=lO.1 hq;unfold oE at e;split at e
  ·simp only [k4] at e;subst e;have:=ih p hp;have:=hl b;simp only;omega
  ·cases e
theorem Ru {b:Int} (h:eT l r b=0):r.Start≤(eL l r b).Lo:=by
 have ho:fO l r (lT l b)=0:=by
  by_cases e:fO l r (lT l b)=0
  ·exact e
  ·rw [(nB e).1] at h;exact absurd h e
 obtain ⟨B,C,_⟩:=jT ho;obtain ⟨ht,A⟩:=ep B;have hw:=ow ht A C;have hv:eL l r b=o5 l r b.toNat:=by unfold eL;rw [c0 h]
 have hn:o5 l r b.toNat≠oN:=fun e=>by unfold eT at h;rw [c0 ho,c0 e] at h;omega
 have hh:=xA (l:=u3 (dX l r) b.toNat) fun q hq=>p8 hq;rw [hv];unfold o5 at hn ⊢;rcases hh with ⟨_,e⟩|hh
 ·exact absurd e hn
 ·obtain ⟨x,hx,ex⟩:=hh.lo;obtain ⟨o,ho,p,hp,u,hu,e⟩:=kj.1 hx;obtain ⟨_,_,rfl⟩:=mm.1 e;have D:r.Start≤p.2:=S7 hw _ p hp;have E:0≤cU (dX l r) b.toNat:=by
   unfold cU;cases e:(dX l r).sH[b.toNat]? with
   |none=>simp
   |some x=>have:=hw.least x (aF e);simp;omega
  simp only [mJ] at ex;omega
theorem Jh {d:ao} (h:jt l d):0≤(fZ l d).Lo∧(fZ l d).Lo≤(fZ l d).Hi∧(fZ l d).Hi≤86400000:=by
 unfold jt at h;unfold fZ;split at h
 ·rename_i q;rw [c0 (Or.inl q),h.2.1];simp [gO]
 ·rename_i q;split at h
  ·rename_i A;rw [c0 (Or.inr A)];obtain ⟨⟨B,C,D⟩,_⟩:=h;omega
  ·rename_i A;rw [c1 (fun z=>z.elim q A),G2 h.1];have B:=wi h.1;have C:=(yD h.1).time;have D:=Ru h.1;simp only;omega
theorem JY {d:ao} (h:d.Out=true):fZ l d=d.Time:=c0 (Or.inl h)
theorem Dt {d:ao} (h:d.Out=false∧d.cV=true):fZ l d=d.Time:=c0 (Or.inr h.2)
theorem JM {d:ao} (h:d.Out=false∧d.cV=false):fZ l d=Gg l d.bp:=c1 (by simp [h])
theorem s_ {d:ao} (h:d.Out=true):jt l d=(d.cV=false∧d.Time=gO∧oh d.bp):=c0 h
theorem tU {d:ao} (h:d.Out=false∧d.cV=true):jt l d=(iv d.Time∧oh d.bp):=by unfold jt;rw [c1 (by simp [h]),c0 h.2]
theorem Ac {d:ao} (h:d.Out=false∧d.cV=false):jt l d=(eT l d.bp l.b_=0∧d.Time=gO):=by unfold jt;rw [c1 (by simp [h]),c1 (by simp [h])]
structure fr (r:cN):Prop where
 num:1≤(r.bf.length:Int)∧(r.bf.length:Int)≤5
 Bx:0≤r.jB∧r.jB≤5
 nh:1≤(r.ay.length:Int)∧(r.ay.length:Int)≤3
 ids: ∀ (i:Nat) x,r.bf[i]? =some x→(0≤x∧x≤9999)∧ ∀ y,0<i→r.bf[i-1]? =some y→y<x
 draw:r.dp.Perm ((range r.bf.length).map fun (k:Nat)=>(k:Int))
 fG: ∀ h∈r.ay,h.length=r.bf.length∧ ∀ d∈h,jt r.av d
noncomputable instance (r:cN):Decidable (fr r):=Classical.propDecidable _
noncomputable def eK (r:cN):Int:=if dU r.av=0 then (if fr r then 0 else 60) else dU r.av
abbrev Dp (r:cN) (kA:Option Addr) (az:List RA) (cA bA:Option Addr) (slA drA:Option Addr) (ha:List cq) (heA:Option Addr):List ar:=[(rd kA r.av.bW.length 9 (r.av.bW.map ai.cells)),(rd cA r.av.aD.length 2 (zipWith aX.cells r.av.aD az)),(iX (bx aX.lG r.av.aD az)),(rd bA r.av.ag.length 4 (r.av.ag.map dT.cells)),(rd slA r.bf.length 1 (r.bf.map iC)),(rd drA r.dp.length 1 (r.dp.map iC)),(rd heA r.ay.length 1 (zipWith dQ r.ay ha)),(iX (bx nu r.ay ha))]
end
end Go.Proofs.YtgnlmfdknlbkkaaGreatDoor
