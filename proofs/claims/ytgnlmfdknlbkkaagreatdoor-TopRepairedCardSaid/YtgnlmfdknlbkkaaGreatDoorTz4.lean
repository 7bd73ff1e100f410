/-
 The statement topRepaired_said, part 4 of 9: Short, Grow, Global, RunA, Tab, Run, Comp, Ret, LoopK, Go, Drop, Spot, First, Line, Wrap, Nest, Goes, Plain, TopX, MapK, Watch, Passes, Keys, MapR, RangeG, WMaps, WBounds, PassG, OpenW, Wheres, LineR, Race.
 Conditions: none.
-/
import Derived.Test.YtgnlmfdknlbkkaaGreatDoorTz1
import Derived.Test.YtgnlmfdknlbkkaaGreatDoorTz2
import Derived.Test.YtgnlmfdknlbkkaaGreatDoorTz3
import Derived.Test.YtgnlmfdknlbkkaaGreatDoorProg
import Derived.KernelRfl
import Derived.WideKeyRuns
open List (lookup map_map map_nil range zipWith)
open Option (isSome_map)
open Nat (beq ble blt)
namespace Go.Proofs.YtgnlmfdknlbkkaaGreatDoor
set_option maxRecDepth 100000
set_option maxHeartbeats 4000000
set_option linter.unusedVariables false
variable {E:fJ} {ops:Array Oper} {Q:du} {o d b i t e k f sz k0 tt nn:Nat} {rest:List Oper} {D:iF} {L:dJ} {C C' C1 Cp X X':List au} {v u v0:Value} {F:dJ→List au→Prop} {bs:List Bool} {l:bf} {g:Option (Nat×Bool)} {x y fop xm xk xv xi:Operand} {xt kt et:TypeId} {c:aS} {A:OA} {r:c_} {ts:List ag} {a j at_ h me:Int} {s:dx} {es:List (List Value)} {ad:Addr} {cs args vs cs' fi ca:List Value} {m m' mb mf left:List (aI×Int)} {xs:Array Operand} {fn:Func} {α β γ σ:Type} {A0 A1 A2 A3 A4 A5 A6 A7 A8 A9 A10 B:au} {K:Act→World→Prop} {p q:aI×Int} {tb rem:List Nat} {P:Program} {M:List (Nat×List Value)} {S:BS} {w0:World} {z:aa} {best:Bool} {os':List (Int×aa)} {Z:au→Prop} {fs:List (List (aI×Int))} {sg:List aR}
abbrev h_:= @List.not_mem_nil
abbrev s4:= @Nat.not_lt_zero
abbrev wt:= @Int.le_refl
abbrev AAF:= @List.map_append
abbrev AAK:= @List.pairwise_map
abbrev AAP:= @Int.toNat_natCast
abbrev AAV:= @List.range_succ
abbrev AAc:= @Go.MapKept.run_getObj_map
abbrev AAd:= @List.mem_range
abbrev AAe:= @Int.lt_or_le
abbrev AAi:= @List.filter_cons_of_pos
abbrev AAj:= @List.filter_cons_of_neg
abbrev AAl:= @List.map_set
abbrev AAq:= @List.filter_append
abbrev AAr:= @or_false
abbrev AAx:= @List.mem_flatMap
abbrev AA1:= @List.length_range
abbrev AA3:= @List.filter_sublist
abbrev AA4:= @Array.toList_filter
abbrev AA6:= @Go.MapKept.run_setObj_map
abbrev AA_:= @Nat.add_sub_cancel
abbrev ABG:= @List.getElem?_range
abbrev ABQ:= @List.length_singleton
abbrev ABU:= @Function.comp_def
abbrev ABb:= @Nat.lt_succ_self
abbrev ABh:= @List.map_eq_nil_iff
abbrev ABi:= @List.filter_eq_self
abbrev ABp:= @Int.mul_le_mul_of_nonneg_right
abbrev ABs:= @List.nodup_append
abbrev ABu:= @List.getElem?_zipWith
abbrev AB1:= @List.map_congr_left
abbrev ACL:= @List.mem_of_mem_take
abbrev ACT:= @List.length_pos_iff
abbrev ACh:= @Int.max_eq_right
section
open Go.RowKit
/-- an operation that hands v to its slot d -/
structure SE (E:fJ) (ops:Array Oper) (o:Oper) (D:iF) (L:dJ) (C:List au) (v:Value) (d:Nat):Prop where
 h:SD E ops o D L C v
 o:o.dst=some d
 n:blt d E.n=true
theorem rS {o:Oper} (h:SE E ops o D L C v d) (k:RJ E ops Q rest D ((d,v)::L) C):RJ E ops Q (o::rest) D L C:=XK h.h h.o h.n k
theorem dS {F:dJ→Prop} {o:Oper} (h:SE E ops o D L C v d) (k:DJ E ops D C F rest ((d,v)::L)):DJ E ops D C F (o::rest) L:=Zv h.h h.o h.n k
theorem eS {F:dJ→Prop} {o:Oper} {l:List Oper} (hl:l=o::rest) (h:SE E ops o D L C' v d) (k:uN E ops D C' C1 F bs rest ((d,v)::L)):uN E ops D C' C1 F (false::bs) l L:=Y1 h.h hl h.o h.n k
theorem fS {F:dJ→Prop} {o:Oper} {l:List Oper} (hl:l=o::rest) (h:SE E ops o D L C1 v d) (k:uN E ops D C' C1 F bs rest ((d,v)::L)):uN E ops D C' C1 F (true::bs) l L:=XI h.h hl h.o h.n k
def gB (n:Nat) (ops:Array Oper) (L:dJ) (d:Nat) (g:Option (Nat×Bool)):Bool:=kz ops L g&&blt d n
theorem Tv {n:Nat} (h:gB n ops L d g=true):kz ops L g=true:=by
 unfold gB at h;rw [dq] at h;exact h.1
theorem TH {n:Nat} (h:gB n ops L d g=true):blt d n=true:=by
 unfold gB at h;rw [dq] at h;exact h.2
def vF (n:Nat) (ops:Array Oper) (L:dJ) (d:Nat) (g:Option (Nat×Bool)) (x:Operand):Option Value:=match gB n ops L d g with
 |true=>ev L x
 |false=>none
def bF (n:Nat) (ops:Array Oper) (L:dJ) (d:Nat) (g:Option (Nat×Bool)) (x y:Operand):Option (Value×Value):=match gB n ops L d g with
 |true=>match ev L x,ev L y with
  |some u,some v=>some (u,v)
  |_,_=>none
 |false=>none
def pF (n:Nat) (ops:Array Oper) (L:dJ) (d:Nat) (g:Option (Nat×Bool)) (c x y:Operand):Option Value:=match gB n ops L d g with
 |true=>match ev L c with
  |some (.bool true)=>ev L x
  |some (.bool false)=>ev L y
  |_=>none
 |false=>none
def xF (n:Nat) (ops:Array Oper) (L:dJ) (d:Nat) (g:Option (Nat×Bool)) (x:Operand) (i:Nat):Option Value:=match vF n ops L d g x with
 |some (.tuple vs)=>vs.toList[i]?
 |_=>none
def uF (n:Nat) (ops:Array Oper) (L:dJ) (d:Nat) (g:Option (Nat×Bool)) (xs ys:List Operand):Option (List Value×List Value):=match gB n ops L d g with
 |true=>match evs L xs,evs L ys with
  |some u,some v=>some (u,v)
  |_,_=>none
 |false=>none
def cF (n:Nat) (ops:Array Oper) (L:dJ) (d:Nat) (g:Option (Nat×Bool)) (fop:Operand) (xs:List Operand):Option (FuncId×List Value):=match gB n ops L d g with
 |true=>match ev L fop,evs L xs with
  |some (.func (.func f) fi ca),some vs=>some (f,fi.toList++vs++ca.toList)
  |_,_=>none
 |false=>none
theorem j5 {n:Nat} (h:vF n ops L d g x=some v):kz ops L g=true∧blt d n=true∧ev L x=some v:=by
 unfold vF at h;split at h
 ·rename_i hb;exact ⟨Tv hb,TH hb,h⟩
 ·cases h
theorem vy {n:Nat} (h:bF n ops L d g x y=some (u,v)):kz ops L g=true∧blt d n=true∧ev L x=some u∧ev L y=some v:=by
 unfold bF at h;split at h
 ·rename_i hb;split at h
  ·rename_i hx hy;cases h;exact ⟨Tv hb,TH hb,hx,hy⟩
  ·cases h
 ·cases h
theorem Wr {n:Nat} {x y:List Operand} {u v:List Value} (h:uF n ops L d g x y=some (u,v)):kz ops L g=true∧blt d n=true∧evs L x=some u∧evs L y=some v:=by
 unfold uF at h;split at h
 ·rename_i hb;split at h
  ·rename_i hx hy;cases h;exact ⟨Tv hb,TH hb,hx,hy⟩
  ·cases h
 ·cases h
section
variable {E:fJ} {ops:Array Oper} {Q:du} {rest:List Oper} {D:List Deferred} {L:List (Nat×Value)} {C:List au}
variable {d:Nat} {ty:TypeId} {ps:String} {af:Array Edge} {g:Option (Nat×Bool)}
theorem SX {o:Oper} (h:SD E ops o D L C v) (ho:o.dst=some d) (hd:blt d E.n=true):SE E ops o D L C v d:=⟨h,ho,hd⟩
theorem MV (h:vF E.n ops L d g x=some v):SE E ops ⟨some d,.move x,ty,ps,af,g⟩ D L C v d:=by
 obtain ⟨A,B,F⟩:=j5 h;exact ⟨IN A F,rfl,B⟩
theorem AG (h:vF E.n ops L d g x=some v):SE E ops ⟨some d,.assign x,ty,ps,af,g⟩ D L C v d:=by
 obtain ⟨A,B,F⟩:=j5 h;exact ⟨Bw A F,rfl,B⟩
theorem OX {op:Op} (h:(Gt ops L g&&blt d E.n)=true):SE E ops ⟨some d,op,ty,ps,af,g⟩ D L C undef d:=by
 rw [dq] at h;exact ⟨PH h.1,rfl,h.2⟩
theorem NT {b:Bool} (h:vF E.n ops L d g x=some (.bool b)):SE E ops ⟨some d,.unOp .not xt x,ty,ps,af,g⟩ D L C (.bool !b) d:=by
 obtain ⟨A,B,F⟩:=j5 h;exact ⟨Of A F,rfl,B⟩
theorem NG {n:Int} (h:vF E.n ops L d g x=some (.int .i64 n)) (hb:tP (-n)):SE E ops ⟨some d,.unOp .neg xt x,ty,ps,af,g⟩ D L C (.int .i64 (-n)) d:=by
 obtain ⟨A,B,F⟩:=j5 h;exact ⟨Wk A F hb,rfl,B⟩
theorem PK {c:Operand} (h:pF E.n ops L d g c x y=some v):SE E ops ⟨some d,.pick c x y,ty,ps,af,g⟩ D L C v d:=by
 unfold pF at h;split at h
 ·rename_i hb;split at h
  ·rename_i hc;exact ⟨CJ (Tv hb) hc h,rfl,TH hb⟩
  ·rename_i hc;exact ⟨BX (Tv hb) hc h,rfl,TH hb⟩
  ·cases h
 ·cases h
theorem EX (h:xF E.n ops L d g x i=some v):SE E ops ⟨some d,.extract x i,ty,ps,af,g⟩ D L C v d:=by
 unfold xF at h;split at h
 ·rename_i vs hv;obtain ⟨A,B,F⟩:=j5 hv;exact ⟨Be (vs:=vs.toList) A (by simpa using F) h,U,B⟩
 ·cases h
theorem LN {t e:TypeId} {n c:Nat} (h:vF E.n ops L d g x=some (.slice A n c)) (ht:E.P.underlying t=some (.slice e)):
 SE E ops ⟨some d,.call {callee:= .builtin .len,args:= #[x],argTypes:= #[t]},ty,ps,af,g⟩ D L C (.int .i64 n) d:=by
 obtain ⟨B,F,G⟩:=j5 h;exact ⟨NM B G ht,rfl,F⟩
theorem BI {op:BinOp} {yt:TypeId} {r:Value} (h:bF E.n ops L d g x y=some (u,v)) (hb:g8 E.P op xt x y u v r):SE E ops ⟨some d,.binOp op xt x y yt,ty,ps,af,g⟩ D L C r d:=by
 obtain ⟨A,B,F,G⟩:=vy h;exact ⟨cm A F G hb,rfl,B⟩
theorem MN {ts:Array TypeId} {b:Int} {k:IntKind} (h:bF E.n ops L d g x y=some (.int k a,.int k b)):
 SE E ops ⟨some d,.call {callee:= .builtin .min,args:= #[x,y],argTypes:=ts},ty,ps,af,g⟩ D L C (.int k (min a b)) d:=by
 obtain ⟨A,B,F,G⟩:=vy h;exact ⟨Vu A F G,rfl,B⟩
theorem MX {ts:Array TypeId} {b:Int} {k:IntKind} (h:bF E.n ops L d g x y=some (.int k a,.int k b)):
 SE E ops ⟨some d,.call {callee:= .builtin .max,args:= #[x,y],argTypes:=ts},ty,ps,af,g⟩ D L C (.int k (max a b)) d:=by
 obtain ⟨A,B,F,G⟩:=vy h;exact ⟨Va A F G,rfl,B⟩
theorem FA (o':Nat) {s:Nat} (h:vF E.n ops L d g x=some (.pointer (some ⟨b,o,none⟩))) (hf:vL E.P s f=some k) (ho:o+k=o'):
 SE E ops ⟨some d,.fieldAddr s x f,ty,ps,af,g⟩ D L C (.pointer (some ⟨b,o',none⟩)) d:=by
 obtain ⟨A,B,F⟩:=j5 h;exact ⟨TZ A F hf ho,rfl,B⟩
theorem p9 (k':Nat) {n:Nat} {s:Nat} (h:vF E.n ops L d g x=some (.pointer (nD A k0))) (hR:ig C (rd A n sz es).holds) (hn:0<n*sz) (hf:vL E.P s f=some k) (ho:k0+k=k'):SE E ops ⟨some d,.fieldAddr s x f,ty,ps,af,g⟩ D L C (.pointer (nD A k')) d:=by
 obtain ⟨B,F,G⟩:=j5 h;exact ⟨On B G hR hn hf ho,rfl,F⟩
theorem W_ (k':Nat) {s:Nat} (h:vF E.n ops L d g x=some (.pointer (nD A k0))) (hA:A=some ad) (hf:vL E.P s f=some k) (ho:k0+k=k'):SE E ops ⟨some d,.fieldAddr s x f,ty,ps,af,g⟩ D L C (.pointer (nD A k')) d:=by
 obtain ⟨B,F,G⟩:=j5 h;exact ⟨OR B G hA hf ho,rfl,F⟩
theorem IA (k:Nat) {ix:Operand} {n c:Nat} (h:bF E.n ops L d g x ix=some (.slice A n c,.int .i64 j)) (hR:ig C (rd A n sz es).holds) (ht:tE E.P t=some (e,sz)) (hz:0<sz) (hj:j=(k:Int)) (hk:k<n):SE E ops ⟨some d,.indexAddr t x ix,ty,ps,af,g⟩ D L C (.pointer (nD A (k*sz))) d:=by
 obtain ⟨B,F,G,H⟩:=vy h;exact ⟨Xs B G H hR ht hz hj hk,rfl,F⟩
theorem IAB (k o':Nat) {ix:Operand} {n c:Nat} (h:bF E.n ops L d g x ix=some (.slice (some ⟨b,o,none⟩) n c,.int .i64 j)) (ht:tE E.P t=some (e,sz)) (hj:j=(k:Int)) (hk:k<n) (ho:o+k*sz=o'):SE E ops ⟨some d,.indexAddr t x ix,ty,ps,af,g⟩ D L C (.pointer (some ⟨b,o',none⟩)) d:=by
 obtain ⟨A,B,F,G⟩:=vy h;exact ⟨RO A F G ht hj hk ho,rfl,B⟩
/-- the whole of a block, a part of it, one cell -/
theorem LW (i:Nat) {n:Nat} (h:vF E.n ops L d g x=some (.pointer (some ⟨b,0,none⟩))) (ht:tK E.P t=some (true,n)) (hC:C[i]? =some (cb b tt cs)) (hn:cs.length=n):
 SE E ops ⟨some d,.load t x,ty,ps,af,g⟩ D L C (.agg cs.toArray) d:=by
 obtain ⟨A,B,F⟩:=j5 h;exact ⟨Bh A F ht (rG i hC sm) hn,rfl,B⟩
theorem LP (vs:List Value) (i:Nat) {n:Nat} (h:vF E.n ops L d g x=some (.pointer (some ⟨b,o,none⟩))) (ht:tK E.P t=some (true,n)) (hC:C[i]? =some (cb b tt cs)) (hv:(cs.drop o).take vs.length=vs) (hn:vs.length=n):
 SE E ops ⟨some d,.load t x,ty,ps,af,g⟩ D L C (.agg vs.toArray) d:=by
 obtain ⟨A,B,F⟩:=j5 h;exact ⟨Bh A F ht (rG i hC hv) hn,rfl,B⟩
theorem LPR (vs:List Value) (i:Nat) {n:Nat} (h:vF E.n ops L d g x=some (.pointer (some ⟨b,o,none⟩))) (ht:tK E.P t=some (true,n)) (hC:C[i]? =some (cb b tt cs).ro) (hv:(cs.drop o).take vs.length=vs) (hn:vs.length=n):
 SE E ops ⟨some d,.load t x,ty,ps,af,g⟩ D L C (.agg vs.toArray) d:=by
 obtain ⟨A,B,F⟩:=j5 h;exact ⟨Bh A F ht (yY i hC hv) hn,rfl,B⟩
theorem L1 (v:Value) (i:Nat) {n:Nat} (h:vF E.n ops L d g x=some (.pointer (some ⟨b,o,none⟩))) (ht:tK E.P t=some (false,n)) (hC:C[i]? =some (cb b tt cs)) (hv:(cs.drop o).take 1=[v]):
 SE E ops ⟨some d,.load t x,ty,ps,af,g⟩ D L C v d:=by
 obtain ⟨A,B,F⟩:=j5 h;exact ⟨x_ A F ht (rG i hC hv),rfl,B⟩
theorem Mz (v:Value) (i:Nat) {n:Nat} (h:vF E.n ops L d g x=some (.pointer (some ⟨b,o,none⟩))) (ht:tK E.P t=some (false,n)) (hC:C[i]? =some (cb b tt cs).ro) (hv:(cs.drop o).take 1=[v]):
 SE E ops ⟨some d,.load t x,ty,ps,af,g⟩ D L C v d:=by
 obtain ⟨A,B,F⟩:=j5 h;exact ⟨x_ A F ht (yY i hC hv),rfl,B⟩
theorem Fk (i:Nat) {n:Nat} (h:vF E.n ops L d g x=some (.pointer (some ⟨b,0,none⟩))) (ht:tK E.P t=some (false,n)) (hC:C[i]? =some (cb b tt [v])):
 SE E ops ⟨some d,.load t x,ty,ps,af,g⟩ D L C v d:=by
 obtain ⟨A,B,F⟩:=j5 h;exact ⟨x_ A F ht (rG i hC rfl),rfl,B⟩
theorem ZI (i:Nat) {n:Nat} (h:vF E.n ops L d g x=some (.pointer (some ⟨b,0,none⟩))) (ht:tK E.P t=some (false,n)) (hC:C[i]? =some (cb b tt [v]).ro):
 SE E ops ⟨some d,.load t x,ty,ps,af,g⟩ D L C v d:=by
 obtain ⟨A,B,F⟩:=j5 h;exact ⟨x_ A F ht (yY i hC rfl),rfl,B⟩
/-- what is read of a row -/
theorem gF (k o:Nat) (v:Value) {m n:Nat} {e:List Value} (h:vF E.n ops L d g x=some (.pointer (nD A m))) (ht:tK E.P t=some (false,nn)) (hR:ig C (rd A n sz es).holds) (he:es[k]? =some e) (hm:m=k*sz+o) (hz:0<sz) (hv:(e.drop o).take 1=[v]):
 SE E ops ⟨some d,.load t x,ty,ps,af,g⟩ D L C v d:=by
 obtain ⟨B,F,G⟩:=j5 h;exact ⟨x_ B G ht (UI hR he hm hz hv),rfl,F⟩
theorem k8 (k o:Nat) (vs:List Value) {m n:Nat} {e:List Value} (h:vF E.n ops L d g x=some (.pointer (nD A m))) (ht:tK E.P t=some (true,nn)) (hR:ig C (rd A n sz es).holds) (he:es[k]? =some e) (hm:m=k*sz+o) (hz:0<sz) (hv:(e.drop o).take vs.length=vs) (hn:vs.length=nn):
 SE E ops ⟨some d,.load t x,ty,ps,af,g⟩ D L C (.agg vs.toArray) d:=by
 obtain ⟨B,F,G⟩:=j5 h;exact ⟨Bh B G ht (UI hR he hm hz hv) hn,rfl,F⟩
theorem CL {ts:Array TypeId} {f:FuncId} (c:dh E.P f args Cp v) (hC:l3 C Cp) (h:cF E.n ops L d g fop xs.toList=some (f,args)):
 SE E ops ⟨some d,.call {callee:= .value fop,args:=xs,argTypes:=ts},ty,ps,af,g⟩ D L C v d:=by
 unfold cF at h;split at h
 ·rename_i hb;split at h
  ·rename_i hf hx;cases h;exact ⟨JO (Tv hb) hf hx rfl c hC,rfl,TH hb⟩
  ·cases h
 ·cases h
theorem FU {fn:Fn} {ys:Array Operand} {us:List Value} (h:uF E.n ops L d g xs.toList ys.toList=some (us,vs)):SE E ops ⟨some d,.makeFunc fn xs ys,ty,ps,af,g⟩ D L C (.func fn us.toArray vs.toArray) d:=by
 obtain ⟨A,B,F,G⟩:=Wr h;exact ⟨QY A F G,rfl,B⟩
theorem cX {ts:Array TypeId} {f:FuncId} {V:α→Value} {p:α→Prop} {N:α→List au} (c:ld E.P f args Cp V p N) (hC:l3 C Cp) (h:cF E.n ops L d g fop xs.toList=some (f,args)) (k:∀ x,p x→RJ E ops Q rest D ((d,V x)::L) (N x++C)):
 RJ E ops Q (⟨some d,.call {callee:= .value fop,args:=xs,argTypes:=ts},ty,ps,af,g⟩::rest) D L C:=by
 unfold cF at h;split at h
 ·rename_i hb;split at h
  ·rename_i hf hx;cases h;exact VS (Tv hb) hf hx rfl c hC (TH hb) k
  ·cases h
 ·cases h
/-- a box of a struct, of one cell -/
theorem dV {t:TypeId} (h:vF E.n ops L d g x=some (.agg cs.toArray)) (k:∀ b,RJ E ops Q rest D ((d,.pointer (some ⟨b,0,none⟩))::L) (cb b t cs::C)):
 RJ E ops Q (⟨some d,.box t x,ty,ps,af,g⟩::rest) D L C:=by
 obtain ⟨A,B,F⟩:=j5 h;exact Ty A F rfl B k
theorem sK {t:TypeId} (h:vF E.n ops L d g x=some v) (hv:v.cells.toList=[v]) (k:∀ b,RJ E ops Q rest D ((d,.pointer (some ⟨b,0,none⟩))::L) (cb b t [v]::C)):
 RJ E ops Q (⟨some d,.box t x,ty,ps,af,g⟩::rest) D L C:=by
 obtain ⟨A,B,F⟩:=j5 h;exact Ty A F hv B k
theorem AL {t:TypeId} (h:gB E.n ops L d g=true) (hz:tZ E.P t=some cs) (k:∀ b,RJ E ops Q rest D ((d,.pointer (some ⟨b,0,none⟩))::L) (cb b t cs::C)):
 RJ E ops Q (⟨some d,.alloc t,ty,ps,af,g⟩::rest) D L C:=Jh (Tv h) hz (TH h) k
/-- a store into the block at the place i of the state -/
def sF (ops:Array Oper) (L:dJ) (g:Option (Nat×Bool)) (x y:Operand):Option (Value×Value):=match kz ops L g with
 |true=>match ev L x,ev L y with
  |some u,some v=>some (u,v)
  |_,_=>none
 |false=>none
theorem Gz {ops:Array Oper} {L:dJ} {g:Option (Nat×Bool)} (h:sF ops L g x y=some (u,v)):kz ops L g=true∧ev L x=some u∧ev L y=some v:=by
 unfold sF at h;split at h
 ·rename_i hb;split at h
  ·rename_i hx hy;cases h;exact ⟨hb,hx,hy⟩
  ·cases h
 ·cases h
theorem TO {n:Nat} (i:Nat) (h:sF ops L g x y=some (.pointer (some ⟨b,o,none⟩),v)) (ht:(tK E.P t).map (·.2)=some n) (hC:C[i]? =some (cb b tt cs)) (hk:(v.cells.toList.length==n&&v.cells.toList.all Value.oneCell'&&ble (o+n) cs.length)=true) (hcs:cs.take o++v.cells.toList++cs.drop (o+n)=cs') (hC':C.set i (cb b tt cs')=C') (k:RJ E ops Q rest D L C'):
 RJ E ops Q (⟨none,.store t x y,ty,ps,af,g⟩::rest) D L C:=by
 obtain ⟨A,B,F⟩:=Gz h;simp only [dq,ACc] at hk;exact im i A B F ht U hk.1.1 hk.1.2 hC hk.2 hcs hC' k
/-- a store of a whole block, by a struct, by one cell -/
theorem UG {n:Nat} (i:Nat) (h:sF ops L g x y=some (.pointer (some ⟨b,0,none⟩),.agg cs'.toArray)) (ht:(tK E.P t).map (·.2)=some n) (hC:C[i]? =some (cb b tt cs)) (hk:(beq cs'.length n&&cs'.all Value.oneCell'&&beq n cs.length)=true) (hC':C.set i (cb b tt cs')=C') (k:RJ E ops Q rest D L C'):
 RJ E ops Q (⟨none,.store t x y,ty,ps,af,g⟩::rest) D L C:=by
 obtain ⟨AA,J,K⟩:=Gz h;simp only [dq] at hk;obtain ⟨⟨A,B⟩,F⟩:=hk;have H:=AAL A;have G:=AAL F;exact im i AA J K ht U H B hC (by rw [AAk,G];exact Nat.ble_self_eq_true _) (by rw [AAk,G,List.take_zero,List.drop_length];show []++cs'++[]=cs';simp) hC' k
theorem W4 {n:Nat} (i:Nat) (h:sF ops L g x y=some (.pointer (some ⟨b,0,none⟩),v)) (ht:(tK E.P t).map (·.2)=some n) (hC:C[i]? =some (cb b tt [u])) (hv:v.cells.toList=[v]) (hk:(beq n 1&&v.oneCell')=true) (hC':C.set i (cb b tt [v])=C') (k:RJ E ops Q rest D L C'):
 RJ E ops Q (⟨none,.store t x y,ty,ps,af,g⟩::rest) D L C:=by
 obtain ⟨G,H,AA⟩:=Gz h;rw [dq] at hk;obtain ⟨A,B⟩:=hk;have F:=AAL A;subst F;exact im i G H AA ht hv U (by simp [B]) hC U U hC' k
theorem eM {n:Nat} (h:sF ops L g x y=some (.pointer (some ⟨b,0,none⟩),.agg cs'.toArray)) (ht:(tK E.P t).map (·.2)=some n) (hk:(beq cs'.length n&&cs'.all Value.oneCell'&&beq n cs.length)=true) (k:RJ E ops Q rest D L (cb b tt cs'::C)):RJ E ops Q (⟨none,.store t x y,ty,ps,af,g⟩::rest) D L (cb b tt cs::C):=UG 0 h ht rfl hk rfl k
theorem IV {n:Nat} (h:sF ops L g x y=some (.pointer (some ⟨b,0,none⟩),v)) (ht:(tK E.P t).map (·.2)=some n) (hv:v.cells.toList=[v]) (hk:(beq n 1&&v.oneCell')=true) (k:RJ E ops Q rest D L (cb b tt [v]::C)):RJ E ops Q (⟨none,.store t x y,ty,ps,af,g⟩::rest) D L (cb b tt [u]::C):=W4 0 h ht rfl hv hk rfl k
theorem o_ {n:Nat} (h:sF ops L g x y=some (.pointer (some ⟨b,0,none⟩),.agg cs'.toArray)) (ht:(tK E.P t).map (·.2)=some n) (hk:(beq cs'.length n&&cs'.all Value.oneCell'&&beq n cs.length)=true) (k:RJ E ops Q rest D L (A0::cb b tt cs'::C)):RJ E ops Q (⟨none,.store t x y,ty,ps,af,g⟩::rest) D L (A0::cb b tt cs::C):=UG 1 h ht rfl hk rfl k
variable (cs':List Value)
theorem ST1 {t n b o tt:Nat} {x y:Operand} {v:Value} {cs:List Value} {A0:au} (h:sF ops L g x y=some (.pointer (some ⟨b,o,none⟩),v)) (ht:(tK E.P t).map (·.2)=some n) (hk:(v.cells.toList.length==n&&v.cells.toList.all Value.oneCell'&&ble (o+n) cs.length)=true) (hcs:cs.take o++v.cells.toList++cs.drop (o+n)=cs') (k:RJ E ops Q rest D L (A0::cb b tt cs'::C)):RJ E ops Q (⟨none,.store t x y,ty,ps,af,g⟩::rest) D L (A0::cb b tt cs::C):=TO 1 h ht rfl hk hcs rfl k
theorem D2 {n:Nat} {cs':List Value} (h:sF ops L g x y=some (.pointer (some ⟨b,0,none⟩),.agg cs'.toArray)) (ht:(tK E.P t).map (·.2)=some n) (hk:(beq cs'.length n&&cs'.all Value.oneCell'&&beq n cs.length)=true) (k:RJ E ops Q rest D L (A0::A1::cb b tt cs'::C)):RJ E ops Q (⟨none,.store t x y,ty,ps,af,g⟩::rest) D L (A0::A1::cb b tt cs::C):=UG 2 h ht rfl hk rfl k
theorem ST2 {n:Nat} (h:sF ops L g x y=some (.pointer (some ⟨b,o,none⟩),v)) (ht:(tK E.P t).map (·.2)=some n) (hk:(v.cells.toList.length==n&&v.cells.toList.all Value.oneCell'&&ble (o+n) cs.length)=true) (hcs:cs.take o++v.cells.toList++cs.drop (o+n)=cs') (k:RJ E ops Q rest D L (A0::A1::cb b tt cs'::C)):RJ E ops Q (⟨none,.store t x y,ty,ps,af,g⟩::rest) D L (A0::A1::cb b tt cs::C):=TO 2 h ht rfl hk hcs rfl k
theorem Xo {n:Nat} {cs':List Value} (h:sF ops L g x y=some (.pointer (some ⟨b,0,none⟩),.agg cs'.toArray)) (ht:(tK E.P t).map (·.2)=some n) (hk:(beq cs'.length n&&cs'.all Value.oneCell'&&beq n cs.length)=true) (k:RJ E ops Q rest D L (A0::A1::A2::cb b tt cs'::C)):RJ E ops Q (⟨none,.store t x y,ty,ps,af,g⟩::rest) D L (A0::A1::A2::cb b tt cs::C):=UG 3 h ht rfl hk rfl k
theorem ZJ {n:Nat} (h:sF ops L g x y=some (.pointer (some ⟨b,0,none⟩),v)) (ht:(tK E.P t).map (·.2)=some n) (hv:v.cells.toList=[v]) (hk:(beq n 1&&v.oneCell')=true) (k:RJ E ops Q rest D L (A0::A1::A2::cb b tt [v]::C)):RJ E ops Q (⟨none,.store t x y,ty,ps,af,g⟩::rest) D L (A0::A1::A2::cb b tt [u]::C):=W4 3 h ht rfl hv hk rfl k
theorem Yj {n:Nat} (h:sF ops L g x y=some (.pointer (some ⟨b,o,none⟩),v)) (ht:(tK E.P t).map (·.2)=some n) (hk:(v.cells.toList.length==n&&v.cells.toList.all Value.oneCell'&&ble (o+n) cs.length)=true) (hcs:cs.take o++v.cells.toList++cs.drop (o+n)=cs') (k:RJ E ops Q rest D L (A0::A1::A2::cb b tt cs'::C)):RJ E ops Q (⟨none,.store t x y,ty,ps,af,g⟩::rest) D L (A0::A1::A2::cb b tt cs::C):=TO 3 h ht rfl hk hcs rfl k
theorem UB {n:Nat} {cs':List Value} (h:sF ops L g x y=some (.pointer (some ⟨b,0,none⟩),.agg cs'.toArray)) (ht:(tK E.P t).map (·.2)=some n) (hk:(beq cs'.length n&&cs'.all Value.oneCell'&&beq n cs.length)=true) (k:RJ E ops Q rest D L (A0::A1::A2::A3::cb b tt cs'::C)):RJ E ops Q (⟨none,.store t x y,ty,ps,af,g⟩::rest) D L (A0::A1::A2::A3::cb b tt cs::C):=UG 4 h ht rfl hk rfl k
theorem SO4 {n:Nat} (h:sF ops L g x y=some (.pointer (some ⟨b,0,none⟩),v)) (ht:(tK E.P t).map (·.2)=some n) (hv:v.cells.toList=[v]) (hk:(beq n 1&&v.oneCell')=true) (k:RJ E ops Q rest D L (A0::A1::A2::A3::cb b tt [v]::C)):RJ E ops Q (⟨none,.store t x y,ty,ps,af,g⟩::rest) D L (A0::A1::A2::A3::cb b tt [u]::C):=W4 4 h ht rfl hv hk rfl k
theorem WD {n:Nat} (h:sF ops L g x y=some (.pointer (some ⟨b,o,none⟩),v)) (ht:(tK E.P t).map (·.2)=some n) (hk:(v.cells.toList.length==n&&v.cells.toList.all Value.oneCell'&&ble (o+n) cs.length)=true) (hcs:cs.take o++v.cells.toList++cs.drop (o+n)=cs') (k:RJ E ops Q rest D L (A0::A1::A2::A3::cb b tt cs'::C)):RJ E ops Q (⟨none,.store t x y,ty,ps,af,g⟩::rest) D L (A0::A1::A2::A3::cb b tt cs::C):=TO 4 h ht rfl hk hcs rfl k
theorem MA {n:Nat} {cs':List Value} (h:sF ops L g x y=some (.pointer (some ⟨b,0,none⟩),.agg cs'.toArray)) (ht:(tK E.P t).map (·.2)=some n) (hk:(beq cs'.length n&&cs'.all Value.oneCell'&&beq n cs.length)=true) (k:RJ E ops Q rest D L (A0::A1::A2::A3::A4::cb b tt cs'::C)):RJ E ops Q (⟨none,.store t x y,ty,ps,af,g⟩::rest) D L (A0::A1::A2::A3::A4::cb b tt cs::C):=UG 5 h ht rfl hk rfl k
theorem SO5 {n:Nat} (h:sF ops L g x y=some (.pointer (some ⟨b,0,none⟩),v)) (ht:(tK E.P t).map (·.2)=some n) (hv:v.cells.toList=[v]) (hk:(beq n 1&&v.oneCell')=true) (k:RJ E ops Q rest D L (A0::A1::A2::A3::A4::cb b tt [v]::C)):RJ E ops Q (⟨none,.store t x y,ty,ps,af,g⟩::rest) D L (A0::A1::A2::A3::A4::cb b tt [u]::C):=W4 5 h ht rfl hv hk rfl k
theorem XM {n:Nat} {cs':List Value} (h:sF ops L g x y=some (.pointer (some ⟨b,0,none⟩),.agg cs'.toArray)) (ht:(tK E.P t).map (·.2)=some n) (hk:(beq cs'.length n&&cs'.all Value.oneCell'&&beq n cs.length)=true) (k:RJ E ops Q rest D L (A0::A1::A2::A3::A4::A5::cb b tt cs'::C)):RJ E ops Q (⟨none,.store t x y,ty,ps,af,g⟩::rest) D L (A0::A1::A2::A3::A4::A5::cb b tt cs::C):=UG 6 h ht rfl hk rfl k
theorem SO6 {n:Nat} (h:sF ops L g x y=some (.pointer (some ⟨b,0,none⟩),v)) (ht:(tK E.P t).map (·.2)=some n) (hv:v.cells.toList=[v]) (hk:(beq n 1&&v.oneCell')=true) (k:RJ E ops Q rest D L (A0::A1::A2::A3::A4::A5::cb b tt [v]::C)):RJ E ops Q (⟨none,.store t x y,ty,ps,af,g⟩::rest) D L (A0::A1::A2::A3::A4::A5::cb b tt [u]::C):=W4 6 h ht rfl hv hk rfl k
theorem WG {n:Nat} (h:sF ops L g x y=some (.pointer (some ⟨b,o,none⟩),v)) (ht:(tK E.P t).map (·.2)=some n) (hk:(v.cells.toList.length==n&&v.cells.toList.all Value.oneCell'&&ble (o+n) cs.length)=true) (hcs:cs.take o++v.cells.toList++cs.drop (o+n)=cs') (k:RJ E ops Q rest D L (A0::A1::A2::A3::A4::A5::cb b tt cs'::C)):RJ E ops Q (⟨none,.store t x y,ty,ps,af,g⟩::rest) D L (A0::A1::A2::A3::A4::A5::cb b tt cs::C):=TO 6 h ht rfl hk hcs rfl k
theorem ST7 {n:Nat} (h:sF ops L g x y=some (.pointer (some ⟨b,o,none⟩),v)) (ht:(tK E.P t).map (·.2)=some n) (hk:(v.cells.toList.length==n&&v.cells.toList.all Value.oneCell'&&ble (o+n) cs.length)=true) (hcs:cs.take o++v.cells.toList++cs.drop (o+n)=cs') (k:RJ E ops Q rest D L (A0::A1::A2::A3::A4::A5::A6::cb b tt cs'::C)):RJ E ops Q (⟨none,.store t x y,ty,ps,af,g⟩::rest) D L (A0::A1::A2::A3::A4::A5::A6::cb b tt cs::C):=TO 7 h ht rfl hk hcs rfl k
theorem aaf {n:Nat} (h:sF ops L g x y=some (.pointer (some ⟨b,o,none⟩),v)) (ht:(tK E.P t).map (·.2)=some n) (hk:(v.cells.toList.length==n&&v.cells.toList.all Value.oneCell'&&ble (o+n) cs.length)=true) (hcs:cs.take o++v.cells.toList++cs.drop (o+n)=cs') (k:RJ E ops Q rest D L (A0::A1::A2::A3::A4::A5::A6::A7::A8::A9::cb b tt cs'::C)):RJ E ops Q (⟨none,.store t x y,ty,ps,af,g⟩::rest) D L (A0::A1::A2::A3::A4::A5::A6::A7::A8::A9::cb b tt cs::C):=TO 10 h ht rfl hk hcs rfl k
theorem aax {n:Nat} {cs':List Value} (h:sF ops L g x y=some (.pointer (some ⟨b,0,none⟩),.agg cs'.toArray)) (ht:(tK E.P t).map (·.2)=some n) (hk:(beq cs'.length n&&cs'.all Value.oneCell'&&beq n cs.length)=true) (k:RJ E ops Q rest D L (A0::A1::A2::A3::A4::A5::A6::A7::A8::A9::A10::cb b tt cs'::C)):RJ E ops Q (⟨none,.store t x y,ty,ps,af,g⟩::rest) D L (A0::A1::A2::A3::A4::A5::A6::A7::A8::A9::A10::cb b tt cs::C):=UG 11 h ht rfl hk rfl k
theorem aah {n:Nat} (h:sF ops L g x y=some (.pointer (some ⟨b,o,none⟩),v)) (ht:(tK E.P t).map (·.2)=some n) (hk:(v.cells.toList.length==n&&v.cells.toList.all Value.oneCell'&&ble (o+n) cs.length)=true) (hcs:cs.take o++v.cells.toList++cs.drop (o+n)=cs') (k:RJ E ops Q rest D L (A0::A1::A2::A3::A4::A5::A6::A7::A8::A9::A10::cb b tt cs'::C)):RJ E ops Q (⟨none,.store t x y,ty,ps,af,g⟩::rest) D L (A0::A1::A2::A3::A4::A5::A6::A7::A8::A9::A10::cb b tt cs::C):=TO 11 h ht rfl hk hcs rfl k
end
section
variable {E:fJ} {y:Code} {Q:du} {D:List Deferred} {L:List (Nat×Value)} {C:List au}
theorem KK {Q':du} (hK:∀ D L C,WJ E y Q D L C→KJ E K D L C) (k:WJ E y Q D L C):KJ E (Exit.then K Q' .normal) D L C:=aL (hK _ _ _ k)
end
theorem DT {p:Prop} [Decidable p] (h:decide p=true):p:=s6 h
theorem DF {p:Prop} [Decidable p] (h:decide p=false): ¬ p:=AB6 h
theorem XT {p:Prop} [Decidable p] (h:(!decide p)=true): ¬ p:=by simpa using h
theorem XF {p:Prop} [Decidable p] (h:(!decide p)=false):p:=by simpa using h
/-- what a function hands back: one result, two, three, that lie in slots -/
theorem Q1 (hQ:∀ D L C,LJ E fn (AA E.w0 v) D L C→KJ E K D L C) (hS:E.S=sf) (hr:fn.results.toList=[.tmp t]) (hl:L.lookup t=some u) (e:u=v):KJ E K [] L C:=
 hQ _ _ _ (g4 (vs:=[u]) (by rw [hr];exact ⟨hl,trivial⟩) fun w hs=>H3 e (by rw [hS] at hs;exact hs))
theorem Q2 {s:Nat} {x:Value} (hQ:∀ D L C,LJ E fn (AA E.w0 v) D L C→KJ E K D L C) (hS:E.S=sf) (hr:fn.results.toList=[.tmp t,.tmp s]) (hl:L.lookup t=some u) (hm:L.lookup s=some x) (e:vT [u,x]=v):KJ E K [] L C:=
 hQ _ _ _ (g4 (vs:=[u,x]) (by rw [hr];exact ⟨hl,hm,trivial⟩) fun w hs=>H3 e (by rw [hS] at hs;exact hs))
theorem N1 {n:Nat} (i:Nat) (h:F6 E ops D C' C1 F tb n (rem.filter (· != i)) i L C) (hm:rem.filter (fun i=>rem.all fun j=> !jA (sO ops) j i)=[i]:=by kernel_rfl):TN E ops D C' C1 F tb (n+1) rem L C:=nJ [i] hm (iR h rf)
theorem NO {n:Nat} {o:Oper} (ho:ops[i]? =some o) (ht:tb.contains i=false) (rem':List Nat) (h:∀ K:Act→World→Prop,(∀ L' C'',(∀ w,St E.S E.w0 C'' w→St E.S E.w0 C' w)→TN E ops D C' C1 F tb n rem' L' C''→KJ E K D L' C'')→RJ E ops (NQ K) [o] D L C) (hr:rem=rem':=by kernel_rfl):F6 E ops D C' C1 F tb n rem i L C:=aap ho hr ht h
theorem RD {X:dJ→List au→Prop} (hT:∀ L' C'',(∀ w,St E.S E.w0 C'' w→St E.S E.w0 C' w)→X L' C''→KJ E K D L' C'') (k:Nat) (h2:C.drop k=C') (h:X L C):RJ E ops (NQ K) [] D L C:=bG (hT _ _ (fun w hs=>h2▸hs.take (List.drop_sublist k C)) h)
theorem aN {L':dJ} (h:L'.map (fun p=>L.lookup p.1)=L'.map (fun p=>some p.2)):cV L L':=by
 induction L' with
 |nil=>exact cV.nil _
 |cons p t ih=>
  simp only [m2,ABo] at h;exact cV.cons h.1 (ih h.2)
theorem Sf {A A' B' D D':au} (i j k:Nat) (h1:C[i]? =some A') (e1:A'.holds=A.holds) (h2:C[j]? =some B') (e2:B'.holds=B.holds) (h3:C[k]? =some D') (e3:D'.holds=D.holds):l3 C [A,B,D]:=gM i h1 e1 (gM j h2 e2 (gM k h3 e3 aA))
theorem bE {c:Operand} {x y:Code} {b:Bool} {D:List Deferred} {L:List (Nat×Value)} (hc:ev L c=some (.bool b)) (h2:b=false→WJ E y Q D L C) (h1:b=true→WJ E x Q D L C):WJ E (.cond c x y) Q D L C:=bY hc h1 h2
theorem cz {D:List Deferred} {L:List (Nat×Value)} {b:Bool} (h:L.lookup t=some (.bool b)) (h2:b=false→RJ E ops Q rest D ((t,.bool false)::L) C) (h1:b=true→RJ E ops Q rest D ((t,.bool true)::L) C):RJ E ops Q rest D L C:=bK h h1 h2
theorem iM {D:List Deferred} {L:List (Nat×Value)} {b:Bool} {os:List Oper} (h:L.lookup t=some (.bool b)) (h2:b=false→DJ E ops D C (fun L2=>RJ E ops Q rest D L2 C) os ((t,.bool false)::L)) (h1:b=true→DJ E ops D C (fun L2=>RJ E ops Q rest D L2 C) os ((t,.bool true)::L)):DJ E ops D C (fun L2=>RJ E ops Q rest D L2 C) os L:=iI h h1 h2
theorem cx {L:List (Nat×Value)}: ∀ (k:Nat) {L2:List (Nat×Value)} (q:cV L (L2.drop k)) (h:(L2.take k).map (fun p=>L.lookup p.1)=(L2.take k).map (fun p=>some p.2):=by rfl),cV L L2
 |0,_,q,_=>q
 |_+1,[],_,_=>cV.nil _
 |k+1,p::L2,q,h=>by
  obtain ⟨A,B⟩:=List.cons.inj (show L.lookup p.1::(L2.take k).map (fun p=>L.lookup p.1)=some p.2::(L2.take k).map (fun p=>some p.2) from h);exact cV.cons (t:=p.1) (v:=p.2) A (cx k q B)
end
section
open Go.RowKit
section
variable {E:fJ} {ops:Array Oper} {Q:du} {rest:List Oper} {D:List Deferred} {L:List (Nat×Value)} {C:List au}
variable {d:Nat} {ty:TypeId} {ps:String} {af:Array Edge} {g:Option (Nat×Bool)}
theorem Td (h:tE P t=some (e,sz)) (w:World):P.underlying t=some (.slice e)∧(sizeOf e).run P w= .ok sz w:=by
 unfold tE at h;split at h
 ·rename_i e' hu;split at h
  ·rename_i i hi;cases h;exact ⟨hu,by simp [sizeOf,typeInfo,hi]⟩
  ·cases h
 ·cases h
theorem IH (h:P.underlying t=some (.slice e)):P.underlying t=some (.slice (P.elem t)):=by
 rw [h];simp [Program.elem,h]
theorem Q5 (h:P.underlying t=some (.slice e)):P.elem t=e:=by simp [Program.elem,h]
/-- s[:k] -/
theorem SHI (k:Nat) {hi:Operand} {n c:Nat} (h:bF E.n ops L d g x hi=some (.slice A n c,.int .i64 j)) (ht:tE E.P t=some (e,sz)) (hj:j=(k:Int)) (hk:k≤c):
 SE E ops ⟨some d,.slice t x none (some hi) none,ty,ps,af,g⟩ D L C (.slice A k c) d:=by
 obtain ⟨H,AA,J,K⟩:=vy h;subst hj;refine ⟨eo H sm fun a w B hs=>?_,U,AA⟩;obtain ⟨hu,hz⟩:=Td ht w;have hr:=run_slice_h (P:=E.P) w t A n c (IH hu) .i64 (k:Int) I I;rw [Q5 hu,hz] at hr;have G:(if c=0 then A else A.map (·.add (0*sz)))=A:=by
  split
  ·rfl
  ·cases A with
   |none=>rfl
   |some ad=>simp [Addr.add]
 simp only [Result.andThen,AAP,sliced,G,Nat.sub_zero] at hr;have F:=run_sliceAt_slice (P:=E.P) w t (.slice A n c) none (some (.int .i64 (k:Int))) none (IH hu);simp [execOp,B.ev J,B.ev K,F,hr]
/-- an element of a row whose place is known -/
theorem IAP (k:Nat) {ix:Operand} {n c:Nat} (h:bF E.n ops L d g x ix=some (.slice A n c,.int .i64 j)) (hA:A=some ad) (ht:tE E.P t=some (e,sz)) (hj:j=(k:Int)) (hk:k<n):
 SE E ops ⟨some d,.indexAddr t x ix,ty,ps,af,g⟩ D L C (.pointer (nD A (k*sz))) d:=by
 obtain ⟨F,G,H,AA⟩:=vy h;refine ⟨eo F sm fun a w B hs=>?_,U,G⟩;subst hA hj;simp [execOp,B.ev H,B.ev AA,nD,tR ht hk]
end
theorem S_ {w:World} {a:OA} {c:Nat} (h:(own a c e sz es).holds w):es.length≤c:=by
 rcases h.2.2 with ⟨A,B⟩|⟨g,cap,cur,hv,_,_,C,_⟩
 ·omega
 ·injection hv with _ _ hc;omega
end
section
open Go.RowKit
/-- an array's length, its elements' type and their size -/
def aE (P:Program) (t:TypeId):Option (Nat×TypeId×Nat):=
 match P.underlying t with
 |some (.array n e)=>match P.info? e with
  |some i=>some (n,e,i.size)
  |none=>none
 |_=>none
theorem I5 {n:Nat} (h:aE P t=some (n,e,sz)) (w:World):P.underlying t=some (.array n e)∧(sizeOf e).run P w= .ok sz w:=by
 unfold aE at h;split at h
 ·rename_i n' e' hu;split at h
  ·rename_i i hi;cases h;exact ⟨hu,by simp [sizeOf,typeInfo,hi]⟩
  ·cases h
 ·cases h
theorem yQ {n:Nat} (h:aE P t=some (n,e,sz)) (a:Addr) (w:World):
 (Instr.sliceAt t (.pointer (some a)) none none none).run P w= .ok (.slice (some a) n n) w:=by
 obtain ⟨hu,hz⟩:=I5 h w;have A:a.add 0=a:=by simp [Addr.add]
 simp [Instr.sliceAt,underlying,hu,Instr.sureAddr,Instr.sliceBounds,hz,A]
theorem yO {n:Nat} (h:aE P t=some (n,e,sz)) (a:Addr) (hk:k<n) (w:World):
 (Instr.indexAt t (.pointer (some a)) (.int .i64 (k:Int))).run P w= .ok (.pointer (some (a.add (k*sz)))) w:=by
 obtain ⟨hu,hz⟩:=I5 h w;have A: ¬ n≤k:=by omega
 simp [Instr.indexAt,underlying,hu,Instr.sureAddr,asIntOf,hz,A]
 try exact fun h=>absurd h A
 try omega
section
variable {E:fJ} {ops:Array Oper} {Q:du} {rest:List Oper} {D:List Deferred} {L:List (Nat×Value)} {C:List au}
variable {dst:Option Nat} {ty:TypeId} {ps:String} {af:Array Edge} {g:Option (Nat×Bool)}
theorem GZ {a:Addr} {n:Nat} (hg:kz ops L g=true) (hx:ev L x=some (.pointer (some a))) (ht:aE E.P t=some (n,e,sz)):
 SD E ops ⟨dst,.slice t x none none none,ty,ps,af,g⟩ D L C (.slice (some a) n n):=
 eo hg sm fun b w A hs=>by
  simp [execOp,A.ev hx,yQ ht]
theorem GP {ix:Operand} {a:Addr} {n:Nat} (hg:kz ops L g=true) (hx:ev L x=some (.pointer (some a))) (hi:ev L ix=some (.int .i64 j)) (ht:aE E.P t=some (n,e,sz)) (hj:j=(k:Int)) (hk:k<n):
 SD E ops ⟨dst,.indexAddr t x ix,ty,ps,af,g⟩ D L C (.pointer (nD (some a) (k*sz))):=
 eo hg sm fun b w A hs=>by
  subst hj;simp [execOp,A.ev hx,A.ev hi,nD,yO ht a hk]
end
end
section
open Go.RowKit
/-- a table of facts on the program's types -/
structure CW where
 tk:List (Nat×Bool×Nat)
 fo:List (Nat×List (Option Nat))
 sl:List Nat
def WK {α:Type}:List (Nat×α)→Nat→Option α
 |[],_=>none
 |(k,v)::l,t=>match beq k t with
  |true=>some v
  |false=>WK l t
theorem DN {α:Type}: ∀ {l:List (Nat×α)} {t:Nat} {v:α},WK l t=some v→(t,v)∈l
 |[],t,v,h=>by simp [WK] at h
 |(k,u)::l,t,v,h=>by
  unfold WK at h;split at h
  ·rename_i hb;cases h;rw [AAL hb];exact bZ
  ·exact dk _ (DN h)
def QO:List Nat→Nat→Bool
 |[],_=>false
 |k::l,t=>match beq k t with
  |true=>true
  |false=>QO l t
theorem Eu: ∀ {l:List Nat} {t:Nat},QO l t=true→t∈l
 |[],t,h=>by simp [QO] at h
 |k::l,t,h=>by
  unfold QO at h;split at h
  ·rename_i hb;rw [AAL hb];exact bZ
  ·exact dk _ (Eu h)
def CW.M8 (T:CW) (t:Nat):Option (Bool×Nat):=WK T.tk t
def CW.foF (T:CW) (s f:Nat):Option Nat:=match WK T.fo s with
 |some l=>match l[f]? with
  |some (some k)=>some k
  |_=>none
 |none=>none
structure kX (P:Program) (T:CW):Prop where
 tk: ∀ p∈T.tk,tK P p.1=some p.2
 fo: ∀ p∈T.fo,∀ f k,p.2[f]? =some (some k)→vL P p.1 f=some k
 sl: ∀ t∈T.sl,∃ e,P.underlying t=some (.slice e)
theorem kX.M8 {T:CW} (h:kX P T) {r:Bool×Nat} (e:T.M8 t=some r):tK P t=some r:=h.tk _ (DN e)
theorem kX.foF {T:CW} (h:kX P T) {s:Nat} (e:T.foF s f=some k):vL P s f=some k:=by
 unfold CW.foF at e;split at e
 ·rename_i l hl;split at e
  ·rename_i k' hk;cases e;exact h.fo _ (DN hl) f k hk
  ·cases e
 ·cases e
def ZD (P:Program) (T:CW):Bool:=(T.tk.all fun p=>decide (tK P p.1=some p.2))&&(T.fo.all fun p=>(range p.2.length).all fun f=>match p.2[f]? with
 |some (some k)=>decide (vL P p.1 f=some k)
 |_=>true)&&T.sl.all fun t=>match P.underlying t with
 |some (.slice _)=>true
 |_=>false
theorem VH {T:CW} (h:ZD P T=true):kX P T:=by
 unfold ZD at h;rw [dq,dq] at h;obtain ⟨⟨B,C⟩,D⟩:=h;refine ⟨fun p hp=>by simpa using dg.1 B p hp,fun p hp f k hk=>?_,fun t ht=>?_⟩
 ·have A:=dg.1 (dg.1 C p hp) f (AAd.2 (aT.1 hk).1);rw [hk] at A;simpa using A
 ·have A:=dg.1 D t ht;split at A
  ·rename_i e he;exact ⟨e,he⟩
  ·cases A
end
section
theorem vM:tK Tryz.prog 3=some (false,1):=by kernel_rfl
theorem tk4:tK Tryz.prog 4=some (false,1):=by kernel_rfl
theorem ZM:tK Tryz.prog 5=some (false,1):=by kernel_rfl
theorem aad:tK Tryz.prog 22=some (false,1):=by kernel_rfl
theorem ZU:tK Tryz.prog 24=some (true,1):=by kernel_rfl
theorem abb:tK Tryz.prog 25=some (false,1):=by kernel_rfl
theorem aan:tK Tryz.prog 26=some (false,1):=by kernel_rfl
theorem aa6:tK Tryz.prog 28=some (true,7):=by kernel_rfl
theorem WV:tK Tryz.prog 29=some (false,1):=by kernel_rfl
theorem Z5:tK Tryz.prog 30=some (false,1):=by kernel_rfl
theorem Xn:tK Tryz.prog 32=some (true,11):=by kernel_rfl
theorem zL:tK Tryz.prog 38=some (true,2):=by kernel_rfl
theorem aak:tK Tryz.prog 42=some (false,1):=by kernel_rfl
theorem aay:tK Tryz.prog 48=some (false,1):=by kernel_rfl
theorem aat:tK Tryz.prog 52=some (true,7):=by kernel_rfl
theorem aa3:tK Tryz.prog 65=some (true,9):=by kernel_rfl
theorem Wc:tK Tryz.prog 68=some (false,1):=by kernel_rfl
theorem aas:tK Tryz.prog 76=some (true,15):=by kernel_rfl
theorem aaF:tK Tryz.prog 85=some (true,2):=by kernel_rfl
theorem Z4:tK Tryz.prog 87=some (false,1):=by kernel_rfl
theorem aaj:tK Tryz.prog 95=some (false,1):=by kernel_rfl
theorem aaz:tK Tryz.prog 96=some (false,1):=by kernel_rfl
theorem TE:tK Tryz.prog 102=some (false,1):=by kernel_rfl
theorem W3:tK Tryz.prog 106=some (true,3):=by kernel_rfl
theorem X8:tK Tryz.prog 107=some (false,1):=by kernel_rfl
theorem ZB:tK Tryz.prog 109=some (true,2):=by kernel_rfl
theorem Np:tK Tryz.prog 111=some (true,3):=by kernel_rfl
theorem Yi:tK Tryz.prog 120=some (true,5):=by kernel_rfl
theorem WT:tK Tryz.prog 131=some (true,4):=by kernel_rfl
theorem Y2:tK Tryz.prog 134=some (false,1):=by kernel_rfl
theorem Y7:tK Tryz.prog 180=some (true,8):=by kernel_rfl
theorem Zi:tK Tryz.prog 192=some (true,1):=by kernel_rfl
theorem YK:tK Tryz.prog 193=some (true,4):=by kernel_rfl
theorem Yq:tK Tryz.prog 224=some (true,4):=by kernel_rfl
theorem W6:tK Tryz.prog 229=some (true,2):=by kernel_rfl
theorem Yv:tK Tryz.prog 230=some (true,8):=by kernel_rfl
theorem Zu:tK Tryz.prog 234=some (true,13):=by kernel_rfl
theorem Yk:tK Tryz.prog 268=some (true,1):=by kernel_rfl
theorem X1:tK Tryz.prog 269=some (true,2):=by kernel_rfl
theorem YH:tK Tryz.prog 273=some (true,1):=by kernel_rfl
theorem Yr:tK Tryz.prog 341=some (false,1):=by kernel_rfl
theorem Xd:tK Tryz.prog 346=some (false,1):=by kernel_rfl
theorem YD:tK Tryz.prog 348=some (true,2):=by kernel_rfl
theorem XH:tK Tryz.prog 363=some (false,1):=by kernel_rfl
theorem Xu:tK Tryz.prog 365=some (true,3):=by kernel_rfl
theorem Gy:(tK Tryz.prog 3).map (·.2)=some 1:=by rw [vM];rfl
theorem Xw:(tK Tryz.prog 22).map (·.2)=some 1:=by rw [aad];rfl
theorem V3:(tK Tryz.prog 24).map (·.2)=some 1:=by rw [ZU];rfl
theorem Xb:(tK Tryz.prog 25).map (·.2)=some 1:=by rw [abb];rfl
theorem U5:(tK Tryz.prog 26).map (·.2)=some 1:=by rw [aan];rfl
theorem NF:(tK Tryz.prog 28).map (·.2)=some 7:=by rw [aa6];rfl
theorem wk:(tK Tryz.prog 29).map (·.2)=some 1:=by rw [WV];rfl
theorem WZ:(tK Tryz.prog 30).map (·.2)=some 1:=by rw [Z5];rfl
theorem oa:(tK Tryz.prog 32).map (·.2)=some 11:=by rw [Xn];rfl
theorem cK:(tK Tryz.prog 38).map (·.2)=some 2:=by rw [zL];rfl
theorem aaK:(tK Tryz.prog 42).map (·.2)=some 1:=by rw [aak];rfl
theorem Vj:(tK Tryz.prog 48).map (·.2)=some 1:=by rw [aay];rfl
theorem GD:(tK Tryz.prog 52).map (·.2)=some 7:=by rw [aat];rfl
theorem Tc:(tK Tryz.prog 65).map (·.2)=some 9:=by rw [aa3];rfl
theorem XQ:(tK Tryz.prog 68).map (·.2)=some 1:=by rw [Wc];rfl
theorem SI:(tK Tryz.prog 76).map (·.2)=some 15:=by rw [aas];rfl
theorem xG:(tK Tryz.prog 85).map (·.2)=some 2:=by rw [aaF];rfl
theorem Yf:(tK Tryz.prog 87).map (·.2)=some 1:=by rw [Z4];rfl
theorem Su:(tK Tryz.prog 95).map (·.2)=some 1:=by rw [aaj];rfl
theorem aaE:(tK Tryz.prog 96).map (·.2)=some 1:=by rw [aaz];rfl
theorem Pa:(tK Tryz.prog 102).map (·.2)=some 1:=by rw [TE];rfl
theorem wu:(tK Tryz.prog 106).map (·.2)=some 3:=by rw [W3];rfl
theorem TW:(tK Tryz.prog 107).map (·.2)=some 1:=by rw [X8];rfl
theorem CQ:(tK Tryz.prog 109).map (·.2)=some 2:=by rw [ZB];rfl
theorem Uu:(tK Tryz.prog 111).map (·.2)=some 3:=by rw [Np];rfl
theorem Ok:(tK Tryz.prog 120).map (·.2)=some 5:=by rw [Yi];rfl
theorem Tz:(tK Tryz.prog 131).map (·.2)=some 4:=by rw [WT];rfl
theorem XV:(tK Tryz.prog 134).map (·.2)=some 1:=by rw [Y2];rfl
theorem WQ:(tK Tryz.prog 180).map (·.2)=some 8:=by rw [Y7];rfl
theorem IW:(tK Tryz.prog 192).map (·.2)=some 1:=by rw [Zi];rfl
theorem Xk:(tK Tryz.prog 193).map (·.2)=some 4:=by rw [YK];rfl
theorem ox:(tK Tryz.prog 224).map (·.2)=some 4:=by rw [Yq];rfl
theorem O7:(tK Tryz.prog 229).map (·.2)=some 2:=by rw [W6];rfl
theorem X9:(tK Tryz.prog 230).map (·.2)=some 8:=by rw [Yv];rfl
theorem uR:(tK Tryz.prog 234).map (·.2)=some 13:=by rw [Zu];rfl
theorem Uz:(tK Tryz.prog 268).map (·.2)=some 1:=by rw [Yk];rfl
theorem Uy:(tK Tryz.prog 269).map (·.2)=some 2:=by rw [X1];rfl
theorem Qp:(tK Tryz.prog 273).map (·.2)=some 1:=by rw [YH];rfl
theorem CN:(tK Tryz.prog 341).map (·.2)=some 1:=by rw [Yr];rfl
theorem Nl:(tK Tryz.prog 346).map (·.2)=some 1:=by rw [Xd];rfl
theorem u3:(tK Tryz.prog 348).map (·.2)=some 2:=by rw [YD];rfl
theorem YA:(tK Tryz.prog 363).map (·.2)=some 1:=by rw [XH];rfl
theorem Zc:(tK Tryz.prog 365).map (·.2)=some 3:=by rw [Xu];rfl
theorem Cd:aE Tryz.prog 199=some (3,198,2):=by kernel_rfl
theorem UW:vL Tryz.prog 52 0=some 0:=by kernel_rfl
theorem aaR:sN Tryz.prog 33=true:=by kernel_rfl
theorem aa0:sN Tryz.prog 80=true:=by kernel_rfl
theorem Vw:sN Tryz.prog 93=true:=by kernel_rfl
theorem jE (l:List aa): ∀ v∈(l.map aa.cells).flatten,v.oneCell'=true:=oj (fun _=>rfl) l
theorem vC (l:List ag): ∀ v∈(l.map ag.cells).flatten,v.oneCell'=true:=oj (fun _=>rfl) l
theorem wW (l:List aR): ∀ v∈(l.map aR.cells).flatten,v.oneCell'=true:=oj (fun _=>rfl) l
theorem yU (l:List cP): ∀ v∈(l.map cP.cells).flatten,v.oneCell'=true:=oj (fun _=>rfl) l
theorem sD (l:List df): ∀ v∈(l.map df.cells).flatten,v.oneCell'=true:=oj (fun _=>rfl) l
theorem aaC:tA Tryz.prog 22=some (65,9,72,(Value.agg [(vI 0),(vI 0),(vI 0),(vI 0),(vI 0),(vI 0),(vI 0),(Value.int .u8 0),(vI 0)].toArray)):=by kernel_rfl
theorem aao:tA Tryz.prog 25=some (109,2,32,(Value.agg [(vI 0),(vS none 0 0)].toArray)):=by kernel_rfl
theorem W2:tA Tryz.prog 26=some (113,4,32,(Value.agg [(vI 0),(vI 0),(vI 0),(vI 0)].toArray)):=by kernel_rfl
theorem pG:tA Tryz.prog 29=some (3,1,8,(vI 0)):=by kernel_rfl
theorem aaL:tA Tryz.prog 30=some (68,1,24,(vS none 0 0)):=by kernel_rfl
theorem Zg:tA Tryz.prog 42=some (29,1,24,(vS none 0 0)):=by kernel_rfl
theorem aa5:tA Tryz.prog 48=some (85,2,16,(Value.agg [(vI 0),(vI 0)].toArray)):=by kernel_rfl
theorem ZP:tA Tryz.prog 68=some (52,7,64,(Value.agg [(vB false),(vB false),(vI 0),(vI 0),(vI 0),(vI 0),(vS none 0 0)].toArray)):=by kernel_rfl
theorem YZ:tA Tryz.prog 96=some (102,1,24,(vS none 0 0)):=by kernel_rfl
theorem CB:tA Tryz.prog 102=some (38,2,16,(Value.agg [(vI 0),(vI 0)].toArray)):=by kernel_rfl
theorem XG:tA Tryz.prog 107=some (106,3,24,(Value.agg [(vI 0),(vI 0),(vI 0)].toArray)):=by kernel_rfl
theorem Ua:tA Tryz.prog 335=some (368,3,72,(Value.agg [(vS none 0 0),(vS none 0 0),(vS none 0 0)].toArray)):=by kernel_rfl
theorem TU:tA Tryz.prog 340=some (95,1,8,(Value.map none)):=by kernel_rfl
theorem E1:tA Tryz.prog 341=some (346,1,8,(Value.map none)):=by kernel_rfl
theorem Zm:tA Tryz.prog 363=some (4,1,1,(vB false)):=by kernel_rfl
theorem US:tB Tryz.prog 24=some ([(vS none 0 0)],[(0,1)]):=by kernel_rfl
theorem aaP:tB Tryz.prog 28=some ([(vS none 0 0),(vI 0),(vS none 0 0),(vS none 0 0),(vI 0),(vI 0),(vI 0)],[(0,1),(1,1),(2,1),(3,1),(4,1),(5,1),(6,1)]):=by kernel_rfl
theorem Ar:tB Tryz.prog 32=some ([(vS none 0 0),(vI 0),(vS none 0 0),(vS none 0 0),(vI 0),(vI 0),(vI 0),(vS none 0 0),(vS none 0 0),(vI 0),(vS none 0 0)],[(0,7),(7,1),(8,1),(9,1),(10,1)]):=by kernel_rfl
theorem Z9:tB Tryz.prog 36=some ([(vS none 0 0),(vI 0),(vS none 0 0),(vS none 0 0),(vI 0),(vI 0),(vI 0),(vS none 0 0),(vS none 0 0),(vI 0),(vS none 0 0),(vS none 0 0),(vS none 0 0),(vI 0),(vI 0)],[(0,11),(11,1),(12,1),(13,1),(14,1)]):=by kernel_rfl
theorem gQ:tB Tryz.prog 38=some ([(vI 0),(vI 0)],[(0,1),(1,1)]):=by kernel_rfl
theorem Kl:tB Tryz.prog 52=some ([(vB false),(vB false),(vI 0),(vI 0),(vI 0),(vI 0),(vS none 0 0)],[(0,1),(1,1),(2,2),(4,3)]):=by kernel_rfl
theorem MO:tB Tryz.prog 65=some ([(vI 0),(vI 0),(vI 0),(vI 0),(vI 0),(vI 0),(vI 0),(Value.int .u8 0),(vI 0)],[(0,1),(1,2),(3,2),(5,2),(7,1),(8,1)]):=by kernel_rfl
theorem Z0:tB Tryz.prog 76=some ([(vS none 0 0),(vI 0),(vS none 0 0),(vS none 0 0),(vI 0),(vI 0),(vI 0),(vS none 0 0),(vS none 0 0),(vI 0),(vS none 0 0),(vS none 0 0),(vS none 0 0),(vI 0),(vI 0)],[(0,15)]):=by kernel_rfl
theorem WM:tB Tryz.prog 85=some ([(vI 0),(vI 0)],[(0,1),(1,1)]):=by kernel_rfl
theorem ZV:tB Tryz.prog 98=some ([(vS none 0 0),(vI 0),(vS none 0 0),(vS none 0 0),(vI 0),(vI 0),(vI 0),(vS none 0 0),(vS none 0 0),(vI 0),(vS none 0 0),(vS none 0 0),(Value.map none)],[(0,11),(11,1),(12,1)]):=by kernel_rfl
theorem Yo:tB Tryz.prog 106=some ([(vI 0),(vI 0),(vI 0)],[(0,1),(1,2)]):=by kernel_rfl
theorem W0:tB Tryz.prog 109=some ([(vI 0),(vS none 0 0)],[(0,1),(1,1)]):=by kernel_rfl
theorem YC:tB Tryz.prog 111=some ([(vI 0),(vI 0),(vI 0)],[(0,1),(1,2)]):=by kernel_rfl
theorem YY:tB Tryz.prog 113=some ([(vI 0),(vI 0),(vI 0),(vI 0)],[(0,3),(3,1)]):=by kernel_rfl
theorem TK:tB Tryz.prog 124=some ([(Value.int .u8 0),(vI 0),(vI 0),(vI 0),(vI 0),(vI 0),(vI 0),(vI 0),(vI 0),(vI 0),(vI 0)],[(0,1),(1,2),(3,2),(5,2),(7,2),(9,2)]):=by kernel_rfl
theorem Ys:tB Tryz.prog 177=some ([(vS none 0 0)],[(0,1)]):=by kernel_rfl
theorem YS:tB Tryz.prog 180=some ([(vS none 0 0),(vI 0),(vI 0),(vI 0),(vS none 0 0),(vS none 0 0),(vI 0),(vB false)],[(0,1),(1,1),(2,1),(3,1),(4,1),(5,1),(6,1),(7,1)]):=by kernel_rfl
theorem Jq:tB Tryz.prog 192=some ([Value.nilFunc],[(0,1)]):=by kernel_rfl
theorem Yx:tB Tryz.prog 193=some ([Value.nilFunc,Value.nilFunc,Value.nilFunc,Value.nilFunc],[(0,1),(1,1),(2,1),(3,1)]):=by kernel_rfl
theorem XX:tB Tryz.prog 205=some ([(vI 0),(vI 0)],[(0,1),(1,1)]):=by kernel_rfl
theorem Iy:tB Tryz.prog 224=some ([(vI 0),(vI 0),(vB false),(vB false)],[(0,2),(2,1),(3,1)]):=by kernel_rfl
theorem MR:tB Tryz.prog 229=some ([Value.nilFunc,Value.nilFunc],[(0,1),(1,1)]):=by kernel_rfl
theorem Yb:tB Tryz.prog 230=some ([Value.nilFunc,Value.nilFunc,Value.nilFunc,Value.nilFunc,Value.nilFunc,Value.nilFunc,Value.nilFunc,Value.nilFunc],[(0,2),(2,2),(4,2),(6,2)]):=by kernel_rfl
theorem Us:tB Tryz.prog 234=some ([(Value.int .u8 0),(vI 0),(vI 0),(vI 0),(vI 0),(vI 0),(vI 0),(vI 0),(vI 0),(vI 0),(vI 0),(vS none 0 0),(vB false)],[(0,11),(11,1),(12,1)]):=by kernel_rfl
theorem Uq:tB Tryz.prog 268=some ([Value.nilFunc],[(0,1)]):=by kernel_rfl
theorem X6:tB Tryz.prog 269=some ([Value.nilFunc,Value.nilFunc],[(0,1),(1,1)]):=by kernel_rfl
theorem YN:tB Tryz.prog 273=some ([(vS none 0 0)],[(0,1)]):=by kernel_rfl
theorem X5:tB Tryz.prog 317=some ([(vS none 0 0),(Value.map none)],[(0,1),(1,1)]):=by kernel_rfl
theorem UE:tB Tryz.prog 343=some ([(vS none 0 0),(vI 0),(vS none 0 0),(vS none 0 0),(vI 0),(vI 0),(vI 0),(vI 0),(vI 0),(vS none 0 0),(vS none 0 0),(vS none 0 0),(vS none 0 0),(vS none 0 0)],[(0,7),(7,3),(10,1),(11,1),(12,1),(13,1)]):=by kernel_rfl
theorem EY:tB Tryz.prog 348=some ([(vI 0),(vI 0)],[(0,1),(1,1)]):=by kernel_rfl
theorem Zz:tB Tryz.prog 368=some ([(vS none 0 0),(vS none 0 0),(vS none 0 0)],[(0,1),(1,1),(2,1)]):=by kernel_rfl
theorem vD:tE Tryz.prog 22=some (65,9):=by kernel_rfl
theorem xq:tE Tryz.prog 25=some (109,2):=by kernel_rfl
theorem wx:tE Tryz.prog 26=some (113,4):=by kernel_rfl
theorem cO:tE Tryz.prog 29=some (3,1):=by kernel_rfl
theorem my:tE Tryz.prog 30=some (68,1):=by kernel_rfl
theorem Ld:tE Tryz.prog 33=some (131,4):=by kernel_rfl
theorem N4:tE Tryz.prog 34=some (120,5):=by kernel_rfl
theorem wv:tE Tryz.prog 42=some (29,1):=by kernel_rfl
theorem zE:tE Tryz.prog 48=some (85,2):=by kernel_rfl
theorem rK:tE Tryz.prog 68=some (52,7):=by kernel_rfl
theorem Wl:tE Tryz.prog 96=some (102,1):=by kernel_rfl
theorem iv:tE Tryz.prog 102=some (38,2):=by kernel_rfl
theorem pK:tE Tryz.prog 107=some (106,3):=by kernel_rfl
theorem Oo:tE Tryz.prog 196=some (198,2):=by kernel_rfl
theorem TR:tE Tryz.prog 281=some (180,8):=by kernel_rfl
theorem Ol:tE Tryz.prog 309=some (111,3):=by kernel_rfl
theorem IK:tE Tryz.prog 335=some (368,3):=by kernel_rfl
theorem TD:tE Tryz.prog 339=some (304,1):=by kernel_rfl
theorem zN:tE Tryz.prog 340=some (95,1):=by kernel_rfl
theorem pQ:tE Tryz.prog 341=some (346,1):=by kernel_rfl
theorem Uv:tE Tryz.prog 363=some (4,1):=by kernel_rfl
theorem Dk:(match Tryz.prog.underlying 38 with |some (.struct fs)=>(fs[0]?).map (fun fl=>tK Tryz.prog fl.type)|_=>none)=some (some (false,1)):=by kernel_rfl
theorem PS:(match Tryz.prog.underlying 38 with |some (.struct fs)=>(fs[1]?).map (fun fl=>tK Tryz.prog fl.type)|_=>none)=some (some (false,1)):=by kernel_rfl
theorem tv3:tV Tryz.prog 3=some (vI 0):=by kernel_rfl
theorem tv4:tV Tryz.prog 4=some (vB false):=by kernel_rfl
theorem Lw:tV Tryz.prog 38=some (Value.agg [(vI 0),(vI 0)].toArray):=by kernel_rfl
theorem Jw:tX Tryz.prog 193=some (4,192):=by kernel_rfl
theorem Il:tX Tryz.prog 205=some (2,3):=by kernel_rfl
theorem P7:tX Tryz.prog 230=some (4,229):=by kernel_rfl
theorem UC:tX Tryz.prog 269=some (2,268):=by kernel_rfl
theorem jU:tZ Tryz.prog 3=some [(vI 0)]:=by kernel_rfl
theorem tz4:tZ Tryz.prog 4=some [(vB false)]:=by kernel_rfl
theorem Wj:tZ Tryz.prog 24=some [(vS none 0 0)]:=by kernel_rfl
theorem Ri:tZ Tryz.prog 28=some [(vS none 0 0),(vI 0),(vS none 0 0),(vS none 0 0),(vI 0),(vI 0),(vI 0)]:=by kernel_rfl
theorem Pw:tZ Tryz.prog 29=some [(vS none 0 0)]:=by kernel_rfl
theorem vm:tZ Tryz.prog 32=some [(vS none 0 0),(vI 0),(vS none 0 0),(vS none 0 0),(vI 0),(vI 0),(vI 0),(vS none 0 0),(vS none 0 0),(vI 0),(vS none 0 0)]:=by kernel_rfl
theorem dD:tZ Tryz.prog 38=some [(vI 0),(vI 0)]:=by kernel_rfl
theorem Mq:tZ Tryz.prog 52=some [(vB false),(vB false),(vI 0),(vI 0),(vI 0),(vI 0),(vS none 0 0)]:=by kernel_rfl
theorem HY:tZ Tryz.prog 65=some [(vI 0),(vI 0),(vI 0),(vI 0),(vI 0),(vI 0),(vI 0),(Value.int .u8 0),(vI 0)]:=by kernel_rfl
theorem aar:tZ Tryz.prog 68=some [(vS none 0 0)]:=by kernel_rfl
theorem RQ:tZ Tryz.prog 76=some [(vS none 0 0),(vI 0),(vS none 0 0),(vS none 0 0),(vI 0),(vI 0),(vI 0),(vS none 0 0),(vS none 0 0),(vI 0),(vS none 0 0),(vS none 0 0),(vS none 0 0),(vI 0),(vI 0)]:=by kernel_rfl
theorem Nt:tZ Tryz.prog 85=some [(vI 0),(vI 0)]:=by kernel_rfl
theorem Xj:tZ Tryz.prog 87=some [(Value.pointer none)]:=by kernel_rfl
theorem aaZ:tZ Tryz.prog 95=some [(Value.map none)]:=by kernel_rfl
theorem I9:tZ Tryz.prog 102=some [(vS none 0 0)]:=by kernel_rfl
theorem uX:tZ Tryz.prog 106=some [(vI 0),(vI 0),(vI 0)]:=by kernel_rfl
theorem zJ:tZ Tryz.prog 109=some [(vI 0),(vS none 0 0)]:=by kernel_rfl
theorem Io:tZ Tryz.prog 111=some [(vI 0),(vI 0),(vI 0)]:=by kernel_rfl
theorem Y9:tZ Tryz.prog 113=some [(vI 0),(vI 0),(vI 0),(vI 0)]:=by kernel_rfl
theorem MJ:tZ Tryz.prog 120=some [(vI 0),(vI 0),(vI 0),(vI 0),(vI 0)]:=by kernel_rfl
theorem TI:tZ Tryz.prog 131=some [(Value.int .u8 0),(vI 0),(vI 0),(vI 0)]:=by kernel_rfl
theorem X0:tZ Tryz.prog 134=some [(Value.map none)]:=by kernel_rfl
theorem Uh:tZ Tryz.prog 180=some [(vS none 0 0),(vI 0),(vI 0),(vI 0),(vS none 0 0),(vS none 0 0),(vI 0),(vB false)]:=by kernel_rfl
theorem JB:tZ Tryz.prog 192=some [Value.nilFunc]:=by kernel_rfl
theorem Yg:tZ Tryz.prog 193=some [Value.nilFunc,Value.nilFunc,Value.nilFunc,Value.nilFunc]:=by kernel_rfl
theorem pS:tZ Tryz.prog 224=some [(vI 0),(vI 0),(vB false),(vB false)]:=by kernel_rfl
theorem Nc:tZ Tryz.prog 229=some [Value.nilFunc,Value.nilFunc]:=by kernel_rfl
theorem YQ:tZ Tryz.prog 230=some [Value.nilFunc,Value.nilFunc,Value.nilFunc,Value.nilFunc,Value.nilFunc,Value.nilFunc,Value.nilFunc,Value.nilFunc]:=by kernel_rfl
theorem uS:tZ Tryz.prog 234=some [(Value.int .u8 0),(vI 0),(vI 0),(vI 0),(vI 0),(vI 0),(vI 0),(vI 0),(vI 0),(vI 0),(vI 0),(vS none 0 0),(vB false)]:=by kernel_rfl
theorem TB:tZ Tryz.prog 268=some [Value.nilFunc]:=by kernel_rfl
theorem Uw:tZ Tryz.prog 269=some [Value.nilFunc,Value.nilFunc]:=by kernel_rfl
theorem MZ:tZ Tryz.prog 273=some [(vS none 0 0)]:=by kernel_rfl
theorem ZA:tZ Tryz.prog 304=some [Value.nilFunc]:=by kernel_rfl
theorem wV:tZ Tryz.prog 348=some [(vI 0),(vI 0)]:=by kernel_rfl
theorem Uo:tZ Tryz.prog 365=some [(vS none 0 0),(vS none 0 0),(vS none 0 0)]:=by kernel_rfl
theorem WR:tZ Tryz.prog 368=some [(vS none 0 0),(vS none 0 0),(vS none 0 0)]:=by kernel_rfl
theorem nZ:Tryz.prog.underlying 3=some (.int .i64):=by kernel_rfl
theorem Wt:Tryz.prog.underlying 4=some .bool:=by kernel_rfl
theorem My:Tryz.prog.underlying 5=some (.int .u8):=by kernel_rfl
theorem ut9:Tryz.prog.underlying 9=some .string:=by kernel_rfl
theorem UL:Tryz.prog.underlying 22=some (.slice 65):=by kernel_rfl
theorem Ye:Tryz.prog.underlying 25=some (.slice 109):=by kernel_rfl
theorem RY:Tryz.prog.underlying 26=some (.slice 113):=by kernel_rfl
theorem Zt:Tryz.prog.underlying 29=some (.slice 3):=by kernel_rfl
theorem XZ:Tryz.prog.underlying 30=some (.slice 68):=by kernel_rfl
theorem aaq:Tryz.prog.underlying 33=some (.slice 131):=by kernel_rfl
theorem Z2:Tryz.prog.underlying 34=some (.slice 120):=by kernel_rfl
theorem XN:Tryz.prog.underlying 48=some (.slice 85):=by kernel_rfl
theorem XU:Tryz.prog.underlying 68=some (.slice 52):=by kernel_rfl
theorem rY:Tryz.prog.underlying 95=some (.map 3 38):=by kernel_rfl
theorem UF:Tryz.prog.underlying 107=some (.slice 106):=by kernel_rfl
theorem pV:Tryz.prog.underlying 134=some (.map 3 4):=by kernel_rfl
theorem X_:Tryz.prog.underlying 167=some (.int .u64):=by kernel_rfl
theorem Xf:Tryz.prog.underlying 222=some (.int .u64):=by kernel_rfl
theorem YU:Tryz.prog.underlying 315=some (.map 3 286):=by kernel_rfl
theorem qP:Tryz.prog.underlying 346=some (.map 348 3):=by kernel_rfl
theorem Vz:fL Tryz.prog 38=some [(3,0),(3,1)]:=by kernel_rfl
theorem zX (d:Nat) (s z:aa) (w:World):(Op.equalIn (d+2) 38 (.agg s.cells.toArray) (.agg z.cells.toArray)).run Tryz.prog w= .ok (decide (s=z)) w:=by
 have hc:(decide (s.Lo=z.Lo)&&(decide (s.Hi=z.Hi)&&true))=decide (s=z):=by rw [AAB];simp [aa.ext_iff]
 rw [← hc];exact lh (d+1) Vz w (gG w (dR vM U w) (dR vM U w) (j0 _ nZ w) (gG w (dR vM U w) (dR vM U w) (j0 _ nZ w) (qe w)))
variable (x y:Operand) (s z:aa)
theorem wN:g8 Tryz.prog .eql 38 x y (.agg s.cells.toArray) (.agg z.cells.toArray) (.bool (decide (s=z))):=CC x y (po Vz) fun w=>zX 9998 s z w
theorem E3:g8 Tryz.prog .neq 38 x y (.agg s.cells.toArray) (.agg z.cells.toArray) (.bool (!decide (s=z))):=qA x y (po Vz) fun w=>zX 9998 s z w
theorem Ur:fL Tryz.prog 106=some [(3,0),(38,1)]:=by kernel_rfl
theorem Wp (d:Nat) (s z:cP) (w:World):(Op.equalIn (d+3) 106 (.agg s.cells.toArray) (.agg z.cells.toArray)).run Tryz.prog w= .ok (decide (s=z)) w:=by
 have hc:(decide (s.At=z.At)&&(decide (s.eA=z.eA)&&true))=decide (s=z):=by rw [AAB];simp [cP.ext_iff]
 rw [← hc];exact lh (d+2) Ur w (gG w (dR vM U w) (dR vM U w) (j0 _ nZ w) (gG w (jI (vs:=aa.cells s.eA) zL U w) (jI (vs:=aa.cells z.eA) zL U w) (zX (d+0) s.eA z.eA w) (qe w)))
theorem QB (s z:cP):g8 Tryz.prog .neq 106 x y (.agg s.cells.toArray) (.agg z.cells.toArray) (.bool (!decide (s=z))):=qA x y (po Ur) fun w=>Wp 9997 s z w
theorem YM:fL Tryz.prog 111=some [(3,0),(38,1)]:=by kernel_rfl
theorem VX (d:Nat) (s z:cY) (w:World):(Op.equalIn (d+3) 111 (.agg s.cells.toArray) (.agg z.cells.toArray)).run Tryz.prog w= .ok (decide (s=z)) w:=by
 have hc:(decide (s.bk=z.bk)&&(decide (s.mO=z.mO)&&true))=decide (s=z):=by rw [AAB];simp [cY.ext_iff]
 rw [← hc];exact lh (d+2) YM w (gG w (dR vM U w) (dR vM U w) (j0 _ nZ w) (gG w (jI (vs:=aa.cells s.mO) zL U w) (jI (vs:=aa.cells z.mO) zL U w) (zX (d+0) s.mO z.mO w) (qe w)))
theorem Ui:fL Tryz.prog 113=some [(111,0),(3,3)]:=by kernel_rfl
theorem V4 (d:Nat) (s z:df) (w:World):(Op.equalIn (d+4) 113 (.agg s.cells.toArray) (.agg z.cells.toArray)).run Tryz.prog w= .ok (decide (s=z)) w:=by
 have hc:(decide (s.mz=z.mz)&&(decide (s.kD=z.kD)&&true))=decide (s=z):=by rw [AAB];simp [df.ext_iff]
 rw [← hc];exact lh (d+3) Ui w (gG w (jI (vs:=cY.cells s.mz) Np U w) (jI (vs:=cY.cells z.mz) Np U w) (VX (d+0) s.mz z.mz w) (gG w (dR vM U w) (dR vM U w) (j0 _ nZ w) (qe w)))
theorem Wo (s z:df):g8 Tryz.prog .neq 113 x y (.agg s.cells.toArray) (.agg z.cells.toArray) (.bool (!decide (s=z))):=qA x y (po Ui) fun w=>V4 9996 s z w
theorem TV:fL Tryz.prog 131=some [(5,0),(3,1),(3,2),(3,3)]:=by kernel_rfl
theorem VL (d:Nat) (s z:bL) (w:World):(Op.equalIn (d+2) 131 (.agg s.cells.toArray) (.agg z.cells.toArray)).run Tryz.prog w= .ok (decide (s=z)) w:=by
 have hc:(decide (s.Kind=z.Kind)&&(decide (s.jf=z.jf)&&(decide (s.ou=z.ou)&&(decide (s.To=z.To)&&true))))=decide (s=z):=by rw [AAB];simp [bL.ext_iff]
 rw [← hc];exact lh (d+1) TV w (gG w (dR ZM U w) (dR ZM U w) (j0 _ My w) (gG w (dR vM U w) (dR vM U w) (j0 _ nZ w) (gG w (dR vM U w) (dR vM U w) (j0 _ nZ w) (gG w (dR vM U w) (dR vM U w) (j0 _ nZ w) (qe w)))))
theorem Vp (s z:bL):g8 Tryz.prog .eql 131 x y (.agg s.cells.toArray) (.agg z.cells.toArray) (.bool (decide (s=z))):=CC x y (po TV) fun w=>VL 9998 s z w
theorem Ut:fL Tryz.prog 348=some [(3,0),(3,1)]:=by kernel_rfl
theorem U4 (d:Nat) (s z:aI) (w:World):(Op.equalIn (d+2) 348 (.agg s.cells.toArray) (.agg z.cells.toArray)).run Tryz.prog w= .ok (decide (s=z)) w:=by
 have hc:(decide (s.right=z.right)&&(decide (s.fH=z.fH)&&true))=decide (s=z):=by rw [AAB];simp [aI.ext_iff]
 rw [← hc];exact lh (d+1) Ut w (gG w (dR vM U w) (dR vM U w) (j0 _ nZ w) (gG w (dR vM U w) (dR vM U w) (j0 _ nZ w) (qe w)))
theorem Zq:fL Tryz.prog 65=some [(3,0),(38,1),(38,3),(38,5),(5,7),(3,8)]:=by kernel_rfl
theorem XP (d:Nat) (s z:ag) (w:World):(Op.equalIn (d+3) 65 (.agg s.cells.toArray) (.agg z.cells.toArray)).run Tryz.prog w= .ok (decide (s=z)) w:=by
 have hc:(decide (s.Id=z.Id)&&(decide (s.jd=z.jd)&&(decide (s.kU=z.kU)&&(decide (s.eu=z.eu)&&(decide (s.gu=z.gu)&&(decide (s.zZ=z.zZ)&&true))))))=decide (s=z):=by rw [AAB];simp [ag.ext_iff]
 rw [← hc];exact lh (d+2) Zq w (gG w (dR vM U w) (dR vM U w) (j0 _ nZ w) (gG w (jI (vs:=aa.cells s.jd) zL U w) (jI (vs:=aa.cells z.jd) zL U w) (zX (d+0) s.jd z.jd w) (gG w (jI (vs:=aa.cells s.kU) zL U w) (jI (vs:=aa.cells z.kU) zL U w) (zX (d+0) s.kU z.kU w) (gG w (jI (vs:=aa.cells s.eu) zL U w) (jI (vs:=aa.cells z.eu) zL U w) (zX (d+0) s.eu z.eu w) (gG w (dR ZM U w) (dR ZM U w) (j0 _ My w) (gG w (dR vM U w) (dR vM U w) (j0 _ nZ w) (qe w)))))))
theorem Yn (s z:ag):g8 Tryz.prog .neq 65 x y (.agg s.cells.toArray) (.agg z.cells.toArray) (.bool (!decide (s=z))):=qA x y (po Zq) fun w=>XP 9997 s z w
theorem X7:fL Tryz.prog 85=some [(3,0),(3,1)]:=by kernel_rfl
theorem Xp (d:Nat) (s z:aR) (w:World):(Op.equalIn (d+2) 85 (.agg s.cells.toArray) (.agg z.cells.toArray)).run Tryz.prog w= .ok (decide (s=z)) w:=by
 have hc:(decide (s.fR=z.fR)&&(decide (s.Read=z.Read)&&true))=decide (s=z):=by rw [AAB];simp [aR.ext_iff]
 rw [← hc];exact lh (d+1) X7 w (gG w (dR vM U w) (dR vM U w) (j0 _ nZ w) (gG w (dR vM U w) (dR vM U w) (j0 _ nZ w) (qe w)))
theorem YF (s z:aR):g8 Tryz.prog .neq 85 x y (.agg s.cells.toArray) (.agg z.cells.toArray) (.bool (!decide (s=z))):=qA x y (po X7) fun w=>Xp 9998 s z w
theorem bX:Tryz.prog.follows .mixedOrders=true:=by kernel_rfl
def TT:CW:=⟨[(1,false,1),(2,false,1),(3,false,1),(4,false,1),(5,false,1),(6,false,1),(7,true,4),(8,true,4),(12,false,1),(13,true,2),(14,true,2),(15,false,1),(16,false,1),(17,false,1),(18,true,1),(19,true,1),(21,false,1),(22,false,1),(23,true,1),(24,true,1),(25,false,1),(26,false,1),(27,true,7),(28,true,7),(29,false,1),(30,false,1),(31,true,11),(32,true,11),(33,false,1),(34,false,1),(35,true,15),(36,true,15),(37,true,2),(38,true,2),(39,false,1),(40,false,1),(41,false,1),(42,false,1),(43,false,1),(45,false,1),(47,false,1),(48,false,1),(49,true,3),(50,true,3),(51,true,7),(52,true,7),(53,false,1),(54,false,1),(56,false,1),(57,false,1),(58,false,1),(59,false,1),(61,false,1),(62,false,1),(63,false,1),(64,true,9),(65,true,9),(67,false,1),(68,false,1),(69,false,1),(71,false,1),(72,false,1),(73,false,1),(74,false,1),(75,true,15),(76,true,15),(78,false,1),(79,false,1),(80,false,1),(81,false,1),(82,false,1),(83,false,1),(84,true,2),(85,true,2),(86,false,1),(87,false,1),(89,false,1),(90,false,1),(91,false,1),(92,false,1),(93,false,1),(94,false,1),(95,false,1),(96,false,1),(97,true,13),(98,true,13),(99,false,1),(100,false,1),(101,false,1),(102,false,1),(104,false,1),(105,true,3),(106,true,3),(107,false,1),(108,true,2),(109,true,2),(110,true,3),(111,true,3),(112,true,4),(113,true,4),(114,false,1),(115,false,1),(116,false,1),(117,false,1),(118,false,1),(119,true,5),(120,true,5),(121,false,1),(122,false,1),(123,true,11),(124,true,11),(125,false,1),(126,false,1),(128,false,1),(129,false,1),(130,true,4),(131,true,4),(132,false,1),(133,false,1),(134,false,1),(135,false,1),(136,false,1),(137,false,1),(138,false,1),(139,false,1),(140,false,1),(141,false,1),(142,false,1),(143,false,1),(144,false,1),(145,false,1),(146,false,1),(147,false,1),(148,false,1),(149,false,1),(150,false,1),(151,false,1),(152,false,1),(153,false,1),(155,false,1),(156,false,1),(157,false,1),(158,false,1),(159,false,1),(160,false,1),(161,false,1),(162,false,1),(163,false,1),(164,false,1),(165,false,1),(166,false,1),(167,false,1),(168,false,1),(169,false,1),(171,false,1),(172,false,1),(173,false,1),(174,false,1),(175,false,1),(176,true,1),(177,true,1),(178,false,1),(179,true,8),(180,true,8),(181,false,1),(183,false,1),(184,false,1),(185,false,1),(186,false,1),(187,false,1),(188,false,1),(189,false,1),(190,false,1),(191,false,1),(192,true,1),(193,true,4),(194,false,1),(195,false,1),(196,false,1),(197,true,2),(198,true,2),(199,true,6),(200,false,1),(201,false,1),(202,false,1),(203,false,1),(204,false,1),(205,true,2),(206,false,1),(207,false,1),(208,false,1),(209,false,1),(210,false,1),(211,false,1),(213,false,1),(214,false,1),(215,false,1),(216,false,1),(218,false,1),(219,false,1),(220,false,1),(221,false,1),(222,false,1),(223,true,4),(224,true,4),(225,false,1),(226,false,1),(227,false,1),(228,true,2),(229,true,2),(230,true,8),(231,false,1),(233,true,13),(234,true,13),(236,false,1),(237,false,1),(238,false,1),(239,false,1),(240,false,1),(241,false,1),(242,false,1),(243,false,1),(244,false,1),(246,false,1),(247,false,1),(248,false,1),(249,false,1),(250,false,1),(251,false,1),(253,false,1),(254,false,1),(255,false,1),(256,false,1),(257,false,1),(258,false,1),(259,false,1),(260,false,1),(261,false,1),(262,false,1),(263,false,1),(264,false,1),(265,false,1),(266,false,1),(267,false,1),(268,true,1),(269,true,2),(270,false,1),(271,false,1),(272,true,1),(273,true,1),(275,false,1),(276,false,1),(278,false,1),(279,false,1),(280,false,1),(281,false,1),(282,false,1),(283,false,1),(284,false,1),(285,true,7),(286,true,7),(287,false,1),(288,false,1),(289,false,1),(290,false,1),(291,false,1),(292,false,1),(293,false,1),(294,false,1),(295,false,1),(296,false,1),(297,false,1),(298,false,1),(299,false,1),(300,false,1),(301,false,1),(303,false,1),(304,false,1),(305,false,1),(306,false,1),(307,false,1),(308,false,1),(309,false,1),(310,false,1),(311,false,1),(312,false,1),(313,false,1),(314,false,1),(315,false,1),(316,true,2),(317,true,2),(318,false,1),(319,true,2),(320,true,2),(322,false,1),(323,false,1),(324,false,1),(325,false,1),(326,true,4),(327,true,4),(328,false,1),(329,false,1),(330,false,1),(331,false,1),(332,true,3),(333,true,3),(334,false,1),(335,false,1),(337,false,1),(338,false,1),(339,false,1),(340,false,1),(341,false,1),(342,true,14),(343,true,14),(344,false,1),(345,false,1),(346,false,1),(347,true,2),(348,true,2),(349,false,1),(350,false,1),(351,false,1),(352,false,1),(353,true,2),(354,true,2),(355,false,1),(356,false,1),(357,false,1),(358,false,1),(359,false,1),(360,false,1),(361,false,1),(362,false,1),(363,false,1),(364,true,3),(365,true,3),(366,false,1),(367,true,3),(368,true,3),(369,false,1),(370,false,1),(371,false,1),(372,false,1),(373,false,1),(374,false,1),(375,false,1),(376,false,1),(377,false,1),(378,false,1),(379,false,1),(380,false,1),(381,false,1),(382,false,1),(383,true,4),(384,true,4),(385,true,0),(386,true,0),(387,true,0),(388,false,1),(389,false,1),(390,false,1),(391,false,1),(392,false,1),(393,false,1),(394,false,1),(395,true,11),(396,true,11),(398,false,1)],[(7,[some 0,some 1,some 2,some 3]),(8,[some 0,some 1,some 2,some 3]),(13,[some 0,some 1]),(14,[some 0,some 1]),(18,[some 0]),(19,[some 0]),(23,[some 0]),(24,[some 0]),(27,[some 0,some 1,some 2,some 3,some 4,some 5,some 6]),(28,[some 0,some 1,some 2,some 3,some 4,some 5,some 6]),(31,[some 0,some 7,some 8,some 9,some 10]),(32,[some 0,some 7,some 8,some 9,some 10]),(35,[some 0,some 11,some 12,some 13,some 14]),(36,[some 0,some 11,some 12,some 13,some 14]),(37,[some 0,some 1]),(38,[some 0,some 1]),(49,[some 0,some 1,some 2]),(50,[some 0,some 1,some 2]),(51,[some 0,some 1,some 2,some 4]),(52,[some 0,some 1,some 2,some 4]),(64,[some 0,some 1,some 3,some 5,some 7,some 8]),(65,[some 0,some 1,some 3,some 5,some 7,some 8]),(75,[some 0]),(76,[some 0]),(84,[some 0,some 1]),(85,[some 0,some 1]),(97,[some 0,some 11,some 12]),(98,[some 0,some 11,some 12]),(105,[some 0,some 1]),(106,[some 0,some 1]),(108,[some 0,some 1]),(109,[some 0,some 1]),(110,[some 0,some 1]),(111,[some 0,some 1]),(112,[some 0,some 3]),(113,[some 0,some 3]),(119,[some 0,some 1,some 2,some 3,some 4]),(120,[some 0,some 1,some 2,some 3,some 4]),(123,[some 0,some 1,some 3,some 5,some 7,some 9]),(124,[some 0,some 1,some 3,some 5,some 7,some 9]),(130,[some 0,some 1,some 2,some 3]),(131,[some 0,some 1,some 2,some 3]),(176,[some 0]),(177,[some 0]),(179,[some 0,some 1,some 2,some 3,some 4,some 5,some 6,some 7]),(180,[some 0,some 1,some 2,some 3,some 4,some 5,some 6,some 7]),(192,[some 0]),(197,[some 0,some 1]),(198,[some 0,some 1]),(223,[some 0,some 2,some 3]),(224,[some 0,some 2,some 3]),(228,[some 0,some 1]),(229,[some 0,some 1]),(233,[some 0,some 11,some 12]),(234,[some 0,some 11,some 12]),(268,[some 0]),(272,[some 0]),(273,[some 0]),(285,[some 0,some 1,some 2,some 4,some 6]),(286,[some 0,some 1,some 2,some 4,some 6]),(316,[some 0,some 1]),(317,[some 0,some 1]),(319,[some 0,some 1]),(320,[some 0,some 1]),(326,[some 0,some 2]),(327,[some 0,some 2]),(332,[some 0,some 1]),(333,[some 0,some 1]),(342,[some 0,some 7,some 10,some 11,some 12,some 13]),(343,[some 0,some 7,some 10,some 11,some 12,some 13]),(347,[some 0,some 1]),(348,[some 0,some 1]),(353,[some 0,some 1]),(354,[some 0,some 1]),(364,[some 0,some 1,some 2]),(365,[some 0,some 1,some 2]),(367,[some 0,some 1,some 2]),(368,[some 0,some 1,some 2]),(383,[some 0,some 1,some 2,some 3]),(384,[some 0,some 1,some 2,some 3]),(395,[some 0,some 1,some 2,some 3,some 4,some 5,some 6,some 7,some 8,some 9,some 10]),(396,[some 0,some 1,some 2,some 3,some 4,some 5,some 6,some 7,some 8,some 9,some 10])],[22,25,26,29,30,33,34,42,48,68,96,102,107,175,178,196,281,284,289,309,335,339,340,341,363]⟩
theorem pd:kX Tryz.prog TT:=VH kr
theorem bP {t:TypeId} {x:Bool×Nat} (h:TT.M8 t=some x:=by rfl):tK Tryz.prog t=some x:=pd.M8 h
theorem eB {s:Nat} (h:TT.foF s f=some k:=by rfl):vL Tryz.prog s f=some k:=pd.foF h
end
section
open Go.RowKit
/-- blocks that are read -/
def MM (C:List au) (M:List (Nat×List Value)):Prop:= ∀ p∈M,∀ o vs,(p.2.drop o).take vs.length=vs→At C (some ⟨p.1,o,none⟩) vs
theorem mn:MM C []:=fun p h=>by cases h
theorem mc (i:Nat) (hC:C[i]? =some (cb b t cs)) (h:MM C M):MM C ((b,cs)::M):=fun p hp o vs hv=>by
 rcases bI.1 hp with rfl|hp
 ·exact rG i hC hv
 ·exact h p hp o vs hv
theorem mr (i:Nat) (hC:C[i]? =some (cb b t cs).ro) (h:MM C M):MM C ((b,cs)::M):=fun p hp o vs hv=>by
 rcases bI.1 hp with rfl|hp
 ·exact yY i hC hv
 ·exact h p hp o vs hv
def oT:List Prop→Prop
 |[]=>True
 |p::l=>p∧oT l
theorem jD {p:Prop} {l:List Prop} (h:p) (h2:oT l):oT (p::l):=⟨h,h2⟩
/-- the value of an operation, what it asks for, and what is left of the list of places -/
def pv (T:CW) (ops:Array Oper) (M:List (Nat×List Value)) (L:dJ) (hs:List Nat) (g:Option (Nat×Bool)) (op:Op):Option (Value×List Prop×List Nat):=
 match Gt ops L g with
 |true=>some (undef,[],hs)
 |false=>match kz ops L g with
  |false=>none
  |true=>match op with
   | .move x=>match ev L x with
    |some v=>some (v,[],hs)
    |none=>none
   | .assign x=>match ev L x with
    |some v=>some (v,[],hs)
    |none=>none
   | .pick c x y=>match ev L c with
    |some (.bool true)=>match ev L x with
     |some v=>some (v,[],hs)
     |none=>none
    |some (.bool false)=>match ev L y with
     |some v=>some (v,[],hs)
     |none=>none
    |_=>none
   | .unOp .not _ x=>match ev L x with
    |some (.bool b)=>some (.bool !b,[],hs)
    |_=>none
   | .extract x i=>match ev L x with
    |some (.tuple vs)=>match vs.toList[i]? with
     |some v=>some (v,[],hs)
     |none=>none
    |_=>none
   | .fieldAddr s x f=>match ev L x with
    |some (.pointer (some ⟨b,o,none⟩))=>match T.foF s f with
     |some k=>some (.pointer (some ⟨b,o+k,none⟩),[],hs)
     |none=>none
    |_=>none
   | .binOp op _ x y _=>match ev L x with
    |some (.int .i64 a)=>match ev L y with
     |some (.int .i64 b)=>match op with
      | .lss=>some (.bool (decide (a<b)),[],hs)
      | .leq=>some (.bool (decide (a≤b)),[],hs)
      | .gtr=>some (.bool (decide (b<a)),[],hs)
      | .geq=>some (.bool (decide (b≤a)),[],hs)
      | .eql=>some (.bool (decide (a=b)),[],hs)
      | .neq=>some (.bool (!decide (a=b)),[],hs)
      | .add=>some (.int .i64 (a+b),[-9223372036854775808≤a+b,a+b≤9223372036854775807],hs)
      | .sub=>some (.int .i64 (a-b),[-9223372036854775808≤a-b,a-b≤9223372036854775807],hs)
      |_=>none
     |_=>none
    |_=>none
   | .load t x=>match ev L x with
    |some (.pointer (some ⟨b,o,none⟩))=>match M[hs.headD 0]? with
     |some (b',cs)=>match T.M8 t with
      |some (false,_)=>match cs[o]? with
       |some v=>some (v,[b'=b],hs.tail)
       |none=>none
      |some (true,n)=>match beq o 0 with
       |true=>match beq cs.length n with
        |true=>some (.agg cs.toArray,[b'=b],hs.tail)
        |false=>none
       |false=>none
      |none=>none
     |none=>none
    |_=>none
   | .call c=>match c with
    |{callee:= .builtin .len,args:=xs,argTypes:=ts}=>match xs.toList with
     |[x]=>match ts.toList with
      |[t]=>match ev L x with
       |some (.slice A n c)=>match QO T.sl t with
        |true=>some (.int .i64 n,[],hs)
        |false=>none
       |_=>none
      |_=>none
     |_=>none
    |_=>none
   |_=>none
section
variable {E:fJ} {T:CW} {ops:Array Oper} {M:List (Nat×List Value)} {D:List Deferred} {L:List (Nat×Value)} {C:List au} {hs hs':List Nat}
theorem yz (h:cs[o]? =some v):(cs.drop o).take [v].length=[v]:=by
 obtain ⟨hl,rfl⟩:=aT.1 h;rw [u1 hl];rfl
theorem TC {o:Oper} {S:List Prop} (hT:kX E.P T) (hM:MM C M) (h:pv T ops M L hs o.guard o.op=some (v,S,hs')) (hS:oT S):SD E ops o D L C v:=by
 obtain ⟨dst,op,ty,ps,af,g⟩:=o;unfold pv at h;simp only at h;split at h
 ·rename_i hg;cases h;exact PH hg
 ·split at h
  ·cases h
  ·rename_i hg;split at h
   ·split at h
    ·rename_i hx;cases h;exact IN hg hx
    ·cases h
   ·split at h
    ·rename_i hx;cases h;exact Bw hg hx
    ·cases h
   ·split at h
    ·rename_i hc;split at h
     ·rename_i hx;cases h;exact CJ hg hc hx
     ·cases h
    ·rename_i hc;split at h
     ·rename_i hx;cases h;exact BX hg hc hx
     ·cases h
    ·cases h
   ·split at h
    ·rename_i hx;cases h;exact Of hg hx
    ·cases h
   ·split at h
    ·rename_i vs hx;split at h
     ·rename_i v' hv;cases h;exact Be (vs:=vs.toList) hg (by simpa using hx) hv
     ·cases h
    ·cases h
   ·split at h
    ·rename_i hx;split at h
     ·rename_i hk;cases h;exact TZ hg hx (hT.foF hk) rfl
     ·cases h
    ·cases h
   ·split at h
    ·rename_i hx;split at h
     ·rename_i hy;split at h
      ·cases h;exact cm hg hx hy hH
      ·cases h;exact cm hg hx hy JN
      ·cases h;exact cm hg hx hy OT
      ·cases h;exact cm hg hx hy Gq
      ·cases h;exact cm hg hx hy ny
      ·cases h;exact cm hg hx hy nx
      ·cases h;exact cm hg hx hy (jq ⟨hS.1,hS.2.1⟩)
      ·cases h;exact cm hg hx hy (vZ ⟨hS.1,hS.2.1⟩)
      ·cases h
     ·cases h
    ·cases h
   ·split at h
    ·rename_i hx;split at h
     ·rename_i b' cs hm;have A:=aF hm;split at h
      ·rename_i hk;split at h
       ·rename_i hv;cases h;obtain rfl:=hS.1;exact x_ hg hx (hT.M8 hk) (hM _ A _ _ (yz hv))
       ·cases h
      ·rename_i n hk;split at h
       ·rename_i ho;split at h
        ·rename_i hn;cases h;obtain rfl:=hS.1;have H:=AAL ho;subst H;exact Bh hg hx (hT.M8 hk) (hM _ A 0 cs sm) (AAL hn)
        ·cases h
       ·cases h
      ·cases h
     ·cases h
    ·cases h
   ·split at h
    ·rename_i xs ts;split at h
     ·rename_i x G;split at h
      ·rename_i t F;split at h
       ·rename_i hx;split at h
        ·rename_i B;cases h;obtain ⟨e,he⟩:=hT.sl t (Eu B);have AA:xs= #[x]:=by apply ABX;simpa using G
         have J:ts= #[t]:=by apply ABX;simpa using F
         subst AA J;exact NM hg hx he
        ·cases h
       ·cases h
      ·cases h
     ·cases h
    ·cases h
   ·cases h
def pr (T:CW) (n:Nat) (ops:Array Oper) (M:List (Nat×List Value)):Nat→List Nat→dJ→List Oper→Option (dJ×List Oper×List Prop)
 |0,_,L,rest=>some (L,rest,[])
 |k+1,hs,L,[]=>none
 |k+1,hs,L,o::rest=>match o.dst with
  |none=>none
  |some d=>match blt d n with
   |false=>none
   |true=>match pv T ops M L hs o.guard o.op with
    |none=>none
    |some (v,S,hs')=>match pr T n ops M k hs' ((d,v)::L) rest with
     |none=>none
     |some (L',rest',S')=>some (L',rest',S++S')
theorem wh: ∀ {S S':List Prop},oT (S++S')→oT S∧oT S'
 |[],S',h=>⟨trivial,h⟩
 |p::S,S',h=>⟨⟨h.1,(wh h.2).1⟩,(wh h.2).2⟩
/-- whatever is closed under single steps -/
theorem Uk {J:List Oper→dJ→Prop} (hT:kX E.P T) (hM:MM C M) (hJ: ∀ o rest L d v,SD E ops o D L C v→o.dst=some d→blt d E.n=true→J rest ((d,v)::L)→J (o::rest) L):
 ∀ (k:Nat) (hs:List Nat) (L:dJ) (rest:List Oper) {L':dJ} {rest':List Oper} {S:List Prop},pr T E.n ops M k hs L rest=some (L',rest',S)→oT S→J rest' L'→J rest L
 |0,hs,L,rest,L',rest',S,h,hS,hj=>by
  unfold pr at h;cases h;exact hj
 |k+1,hs,L,[],L',rest',S,h,hS,hj=>by unfold pr at h;cases h
 |k+1,hs,L,o::rest,L',rest',S,h,hS,hj=>by
  unfold pr at h;split at h
  ·cases h
  ·rename_i d hd;split at h
   ·cases h
   ·rename_i hn;split at h
    ·cases h
    ·rename_i v S1 A hv;split at h
     ·cases h
     ·rename_i L1 G S2 hr;cases h;obtain ⟨B,F⟩:=wh hS;exact hJ o rest L d v (TC hT hM hv B) hd hn (Uk hT hM hJ k A _ rest hr F hj)
variable {Q:du} {rest rest':List Oper} {L0 L':List (Nat×Value)} {S:List Prop} {F:List (Nat×Value)→Prop}
theorem dP (k:Nat) (hs:List Nat) (hM:MM C M) (j:DJ E ops D C F rest' L') (hT:kX E.P T:=by exact pd) (h:pr T E.n ops M k hs L rest=some (L0,rest',S):=by rfl) (hL:L0=L':=by (try dsimp only)<;>rfl) (hS:oT S:=by repeat' first|exact True.intro |refine jD ?_ ?_ |exact rfl|omega|(dsimp only;omega)):DJ E ops D C F rest L:=by
 subst hL;exact Uk (J:=fun r L=>DJ E ops D C F r L) hT hM (fun o rest L d v A B G H=>Zv A B G H) k hs L rest h hS j
end
section
variable {P:Program} {r:Option Nat} {n:Nat} {B:BS} {w0:World} {ops:Array Oper} {M:List (Nat×List Value)} {D:List Deferred} {L L':List (Nat×Value)} {C:List au} {Q:du} {rest rest':List Oper} {S:List Prop} {F:List (Nat×Value)→Prop}
theorem jY (k:Nat) (hs:List Nat) (hM:MM C M) (h:pr TT n ops M k hs L rest=some (L',rest',S)) (j:DJ ⟨P,r,n,B,w0⟩ ops D C F rest' L') (hS:oT S:=by repeat' first|exact True.intro |refine jD ?_ ?_ |exact rfl|omega|(dsimp only;omega)) (hT:kX P TT:=by exact pd):DJ ⟨P,r,n,B,w0⟩ ops D C F rest L:=dP k hs hM j hT h rfl hS
theorem iQ (k:Nat) (h:pr TT n ops [] k [] L rest=some (L',rest',S)) (j:DJ ⟨P,r,n,B,w0⟩ ops D C F rest' L') (hS:oT S:=by repeat' first|exact True.intro |refine jD ?_ ?_ |exact rfl|omega|(dsimp only;omega)) (hT:kX P TT:=by exact pd):DJ ⟨P,r,n,B,w0⟩ ops D C F rest L:=dP k [] mn j hT h rfl hS
end
end
section
open Go.RowKit
/-- parts of a context, reckoned to the end -/
def ni (C:List au):List Nat→Option (List au)
 |[]=>some []
 |i::is=>match C[i]? with
  |some A=>match ni C is with
   |some l=>some (A::l)
   |none=>none
  |none=>none
theorem jX {C:List au}: ∀ {is:List Nat} {C':List au},ni C is=some C'→kQ C is=C'
 |[],C',h=>by cases h;rfl
 |i::is,C',h=>by
  unfold ni at h;split at h
  ·rename_i A hA;split at h
   ·rename_i l hl;cases h;show List.filterMap (C[·]?) (i::is)=A::l
    rw [List.filterMap_cons_some hA];exact c7 _ (jX hl)
   ·cases h
  ·cases h
/-- a part of a context in place of the whole -/
theorem aB (is:List Nat) (hn:decide is.Nodup=true:=by rfl) (hC:kQ C is=C':=by rfl): ∀ w,St S w0 C w→St S w0 C' w:=fun w h=>St.kQ is hn hC h
theorem YP (is:List Nat) (hC:ni C is=some C') (hn:decide is.Nodup=true:=by rfl): ∀ w,St S w0 C w→St S w0 C' w:=fun w h=>St.kQ is hn (jX hC) h
def Tt (C:List au) (i:Nat) (B:au):Option (List au):=match i,C with
 |0,_::C=>some (B::C)
 |i+1,A::C=>match Tt C i B with
  |some l=>some (A::l)
  |none=>none
 |_,[]=>none
theorem Js: ∀ {C:List au} {i:Nat} {B:au} {C':List au},Tt C i B=some C'→C.set i B=C'
 |[],0,B,C',h=>by cases h
 |[],i+1,B,C',h=>by cases h
 |A::C,0,B,C',h=>by cases h;rfl
 |A::C,i+1,B,C',h=>by
  unfold Tt at h;split at h
  ·rename_i l hl;cases h;exact c7 _ (Js hl)
  ·cases h
theorem iH {A:au} (i:Nat) (hC:C[i]? =some A) (hh:(∀ w,A.holds w→B.holds w)∧(∀ b,B.fP b→A.fP b)∧ ∀ b,B.wf b→A.wf b) (hC':Tt C i B=some C') (h:KJ E K D L C'):KJ E K D L C:=OS i hC hh (Js hC') h
/-- the operations of a region but these; marks of some places -/
def aaT (n:Nat) (T:List Nat):List Nat:=(range n).filter fun i=> !T.contains i
def mkO (k:Nat) (t:List Nat):List Bool:=(range k).map fun i=>t.contains i
theorem cT {id:Nat} (hm:E.P.follows .mixedOrders=true) (T fe tb i1 i2:List Nat) {free:List Nat} {feb tbb:List Bool} (h1:ni C i1=some C') (h2:ni C i2=some C1) (hf:free=aaT ops.size T) (hfe:feb=mkO free.length fe) (htb:tbb=mkO T.length tb) (h:uN E ops D C' C1 (fun L'=>TJ E ops D C' C1 (fun L C=>KJ E (Q .normal) D L C) tbb (fy ops T) L' C) feb (fy ops free) L) (hc:So ops free T feb tbb=true:=by kernel_rfl) (n1:decide i1.Nodup=true:=by rfl) (n2:decide i2.Nodup=true:=by rfl):WJ E (.region id ops true) Q D L C:=
 Se hm free T feb tbb C' C1 hc (YP i1 h1 n1) (YP i2 h2 n2) h
end
section
open Go.RowKit
def yV (T:CW) (M:List (Nat×List Value)) (L:dJ):List ResultVar→List Nat→Option (List Value×List Prop)
 |[],_=>some ([],[])
 | .tmp t::rs,hs=>match L.lookup t with
  |some v=>match yV T M L rs hs with
   |some (vs,S)=>some (v::vs,S)
   |none=>none
  |none=>none
 | .cell a t::rs,hs=>match L.lookup a with
  |some (.pointer (some ⟨b,o,none⟩))=>match M[hs.headD 0]? with
   |some (b',cs)=>match T.M8 t with
    |some (false,_)=>match cs[o]? with
     |some v=>match yV T M L rs hs.tail with
      |some (vs,S)=>some (v::vs,(b'=b)::S)
      |none=>none
     |none=>none
    |some (true,n)=>match beq o 0 with
     |true=>match beq cs.length n with
      |true=>match yV T M L rs hs.tail with
       |some (vs,S)=>some (.agg cs.toArray::vs,(b'=b)::S)
       |none=>none
      |false=>none
     |false=>match yV T M L rs hs.tail with
      |some (vs,S)=>some (.agg ((cs.drop o).take n).toArray::vs,(b'=b)::(((cs.drop o).take n).length=n)::S)
      |none=>none
    |none=>none
   |none=>none
  |_=>none
theorem qf {P:Program} {T:CW} {M:List (Nat×List Value)} {L:dJ} {C:List au} (hT:kX P T) (hM:MM C M): ∀ (rs:List ResultVar) (hs:List Nat) {vs:List Value} {S:List Prop},yV T M L rs hs=some (vs,S)→oT S→Lt P L C rs vs
 |[],_,vs,S,h,hS=>by unfold yV at h;cases h;exact trivial
 | .tmp t::rs,hs,vs,S,h,hS=>by
  unfold yV at h;split at h
  ·rename_i v hv;split at h
   ·rename_i vs' S' hr;cases h;exact ⟨hv,qf hT hM rs hs hr hS⟩
   ·cases h
  ·cases h
 | .cell a t::rs,hs,vs,S,h,hS=>by
  unfold yV at h;split at h
  ·rename_i b o hl;split at h
   ·rename_i b' cs hm;have A:=aF hm;split at h
    ·rename_i hk;split at h
     ·rename_i v hv;split at h
      ·rename_i vs' S' hr;cases h;obtain ⟨rfl,hS⟩:=hS;exact ⟨⟨_,hl,.inr ⟨_,hT.M8 hk,hM _ A _ _ (yz hv)⟩⟩,qf hT hM rs _ hr hS⟩
      ·cases h
     ·cases h
    ·rename_i n hk;split at h
     ·rename_i ho;split at h
      ·rename_i hn;split at h
       ·rename_i vs' S' hr;cases h;obtain ⟨rfl,hS⟩:=hS;have D:=AAL ho;subst D;exact ⟨⟨_,hl,.inl ⟨_,cs,hT.M8 hk,hM _ A 0 cs sm,AAL hn,U⟩⟩,qf hT hM rs _ hr hS⟩
       ·cases h
      ·cases h
     ·split at h
      ·rename_i vs' S' hr;cases h;obtain ⟨rfl,B,hS⟩:=hS;exact ⟨⟨_,hl,.inl ⟨_,_,hT.M8 hk,hM _ A o _ (by rw [B]),B,U⟩⟩,qf hT hM rs _ hr hS⟩
      ·cases h
    ·cases h
   ·cases h
  ·cases h
section
variable {P:Program} {n:Nat} {fn:Func} {w0:World} {K:Act→World→Prop} {L:List (Nat×Value)} {C:List au} {M:List (Nat×List Value)} {vs:List Value} {S:List Prop} {u x v:Value}
theorem Gx (hQ: ∀ D L C,LJ ⟨P,none,n,sf,w0⟩ fn (AA w0 v) D L C→KJ ⟨P,none,n,sf,w0⟩ K D L C) (hs:List Nat) (hM:MM C M) (h:yV TT M L fn.results.toList hs=some ([u],S)) (e:u=v) (hS:oT S:=by repeat' first|exact True.intro |refine jD rfl ?_) (hT:kX P TT:=by exact pd):KJ ⟨P,none,n,sf,w0⟩ K [] L C:=
 hQ _ _ _ (g4 (qf hT hM _ _ h hS) fun w hs=>H3 e hs)
theorem mP (hQ: ∀ D L C,LJ ⟨P,none,n,sf,w0⟩ fn (AA w0 v) D L C→KJ ⟨P,none,n,sf,w0⟩ K D L C) (hs:List Nat) (hM:MM C M) (h:yV TT M L fn.results.toList hs=some (u::x::vs,S)) (e:Value.tuple (u::x::vs).toArray=v) (hS:oT S:=by repeat' first|exact True.intro |refine jD rfl ?_) (hT:kX P TT:=by exact pd):KJ ⟨P,none,n,sf,w0⟩ K [] L C:=
 hQ _ _ _ (g4 (qf hT hM _ _ h hS) fun w hs=>H3 e hs)
theorem LX {V:α→Value} {p:α→Prop} {N:α→List au} (hQ:∀ D L C,LJ ⟨P,none,n,sf,w0⟩ fn (Pb w0 V p N) D L C→KJ ⟨P,none,n,sf,w0⟩ K D L C) (x:α) (is hs:List Nat) (hM:MM C M) (h:yV TT M L fn.results.toList hs=some (vs,S)) (hw:(N x).all (·.wr)=true) (hN:kQ C is=N x) (hV:WB vs=V x) (hp:p x) (hn:decide is.Nodup=true:=by rfl) (hS:oT S:=by repeat' first|exact True.intro |refine jD rfl ?_) (hT:kX P TT:=by exact pd):KJ ⟨P,none,n,sf,w0⟩ K [] L C:=
 hQ _ _ _ (g4 (qf hT hM _ _ h hS) fun w hs=>EM x is hV hp hn hN hw hs)
theorem LM {A:au} {V:α→Value} {p:α→Prop} {A':α→au} (hQ:∀ D L C,LJ ⟨P,none,n,⟨A.wf,fun _=>True⟩,w0⟩ fn (Te w0 A V p A') D L C→KJ ⟨P,none,n,⟨A.wf,fun _=>True⟩,w0⟩ K D L C) (x:α) (i:Nat) (hs:List Nat) (hM:MM C M) (h:yV TT M L fn.results.toList hs=some (vs,S)) (hw:(A' x).wr=true) (hC:C[i]? =some (A' x)) (hV:WB vs=V x) (hp:p x) (hS:oT S:=by repeat' exact True.intro) (hT:kX P TT:=by exact pd):KJ ⟨P,none,n,⟨A.wf,fun _=>True⟩,w0⟩ K [] L C:=
 hQ _ _ _ (g4 (qf hT hM _ _ h hS) fun w hs=>Yt x i hV hp hC hw hs)
end
end
section
open Go.RowKit
def Ie {α:Type _}:List α→List α→Option (List α)
 |[],m=>some m
 |a::l,m=>match Ie l m with
  |some r=>some (a::r)
  |none=>none
theorem Ip {α:Type _}: ∀ {l m r:List α},Ie l m=some r→l++m=r
 |[],m,r,h=>by cases h;rfl
 |a::l,m,r,h=>by
  unfold Ie at h;split at h
  ·rename_i r' hr;cases h;exact c7 (a:: ·) (Ip hr)
  ·cases h
def ZF (L:dJ):List Nat→Option (dJ)
 |[]=>some []
 |t::ts=>match L.lookup t with
  |some v=>match ZF L ts with
   |some r=>some ((t,v)::r)
   |none=>none
  |none=>none
theorem IB {L M:dJ} (k:cV L M): ∀ {ts:List Nat} {r:dJ},ZF L ts=some r→cV L (r++M)
 |[],r,h=>by cases h;exact k
 |t::ts,r,h=>by
  unfold ZF at h;split at h
  ·rename_i v hv;split at h
   ·rename_i r' hr;cases h;exact cV.cons hv (IB k hr)
   ·cases h
  ·cases h
section
variable {E:fJ} {Q:du} {D:List Deferred} {L L0:List (Nat×Value)} {C C0:List au} {ι:Type} {Li:ι→List (Nat×Value)} {Ci:ι→List au}
theorem bw {c:Code} (kL kC:List Nat) (hL:ZF L kL=some L0) (hC0:ni C kC=some C0) (S:ι→dJ) (G:ι→List au) (hLi: ∀ x,Ie L0 (S x)=some (Li x)) (hCi: ∀ x,Ie C0 (G x)=some (Ci x)) (μ:ι→Nat) (x0:ι)
 (h0:cV L (S x0)) (hC: ∀ w,St E.S E.w0 C w→St E.S E.w0 (Ci x0) w)
 (round: ∀ x (J:Act→World→Prop),(∀ y D' L' C',D'=D→μ y<μ x→cV L' (Li y)→(∀ w,St E.S E.w0 C' w→St E.S E.w0 (Ci y) w)→KJ E J D' L' C')→WJ E c (Exit.then J Q) D (Li x) (Ci x)):WJ E (.loop c) Q D L C:=
 V2 Li Ci μ x0 (Ip (hLi x0)▸IB h0 hL) hC round
theorem nV {x y:Code} (kL kC:List Nat) (hL:ZF L kL=some L0) (hC0:ni C kC=some C0) (S:ι→dJ) (G:ι→List au) (hLi: ∀ x,Ie L0 (S x)=some (Li x)) (hCi: ∀ x,Ie C0 (G x)=some (Ci x))
 (hy: ∀ z,WJ E y Q D (Li z) (Ci z)) (h: ∀ K:Act→World→Prop,(∀ z,KJ E K D (Li z) (Ci z))→WJ E x (Exit.then K Q) D L C):WJ E (.seq x y) Q D L C:=Ww Li Ci hy h
end
end
section
open Go.RowKit
/-- a way out that is not the plain one -/
def noN:Exit→Bool
 | .normal=>false
 |_=>true
/-- what is still to be run: code, or a block's end -/
abbrev D5:=List (Code ⊕ Nat)
/-- what runs now: code, the rest of a region, or a way out -/
abbrev K6:=Code ⊕ (Array Oper×List Oper) ⊕ Exit
def K3 (P:Program) (r:Option Nat):D5→du→du
 |[],Q=>Q
 | .inl y::s,Q=>Exit.then (y.wpIn (Fw r) 0 P (K3 P r s Q)) (K3 P r s Q)
 | .inr id::s,Q=>Exit.inBlock id (K3 P r s Q)
def FJ (E:fJ) (Q:du) (D:iF) (C:List au):K6→D5→dJ→Prop
 | .inl c,s,L=>WJ E c (K3 E.P E.r s Q) D L C
 | .inr (.inl (ops,rest)),s,L=>RJ E ops (K3 E.P E.r s Q) rest D L C
 | .inr (.inr e),s,L=>KJ E (K3 E.P E.r s Q e) D L C
def WA (id:Nat):D5→K6×D5
 |[]=>(.inr (.inr (.exit id)),[])
 | .inl _::s=>WA id s
 | .inr i::s=>match beq id i with
  |true=>(.inr (.inr .normal),s)
  |false=>WA id s
def g1 (T:CW) (n:Nat) (M:List (Nat×List Value)) (hs:List Nat) (L:dJ):K6→D5→Option (K6×D5×dJ×List Prop×List Nat)
 | .inl c,s=>match c with
  | .seq x y=>some (.inl x,.inl y::s,L,[],hs)
  | .block id x=>some (.inl x,.inr id::s,L,[],hs)
  | .skip=>some (.inr (.inr .normal),s,L,[],hs)
  | .label _=>some (.inr (.inr .normal),s,L,[],hs)
  | .ret=>some (.inr (.inr .ret),[],L,[],hs)
  | .exit id=>match WA id s with
   |(f,s)=>some (f,s,L,[],hs)
  | .region _ ops d=>match d with
   |false=>some (.inr (.inl (ops,ops.toList)),s,L,[],hs)
   |true=>none
  | .cond x y z=>match ev L x with
   |some (.bool true)=>some (.inl y,s,L,[],hs)
   |some (.bool false)=>some (.inl z,s,L,[],hs)
   |_=>none
  |_=>none
 | .inr (.inl (ops,[])),s=>some (.inr (.inr .normal),s,L,[],hs)
 | .inr (.inl (ops,o::rest)),s=>match o.dst with
  |none=>match Gt ops L o.guard with
   |true=>some (.inr (.inl (ops,rest)),s,L,[],hs)
   |false=>none
  |some d=>match blt d n with
   |false=>none
   |true=>match pv T ops M L hs o.guard o.op with
    |none=>none
    |some (v,S,hs')=>some (.inr (.inl (ops,rest)),s,(d,v)::L,S,hs')
 | .inr (.inr e),s=>match e with
  | .normal=>match s with
   | .inl y::s=>some (.inl y,s,L,[],hs)
   | .inr _::s=>some (.inr (.inr .normal),s,L,[],hs)
   |[]=>none
  | .exit id=>match WA id s with
   |(f,s)=>some (f,s,L,[],hs)
  | .ret=>some (.inr (.inr .ret),[],L,[],hs)
  |_=>none
section
variable {E:fJ} {T:CW} {Q:du} {M:List (Nat×List Value)} {D:List Deferred} {L L' L0:List (Nat×Value)} {C:List au} {hs hs':List Nat} {f f':K6} {s s':D5} {S:List Prop}
theorem zb: ∀ (s:D5),K3 E.P E.r s Q .ret=Q .ret
 |[]=>rfl
 | .inl _::s=>zb s
 | .inr _::s=>zb s
theorem Da (id:Nat): ∀ (s:D5),FJ E Q D C (WA id s).1 (WA id s).2 L→KJ E (K3 E.P E.r s Q (.exit id)) D L C
 |[],h=>h
 | .inl _::s,h=>Da id s h
 | .inr i::s,h=>by
  unfold WA at h;split at h
  ·rename_i hb;obtain rfl:=AAL hb;exact Gl h
  ·rename_i hb;exact Dt hb (Da id s h)
theorem Xv (hT:kX E.P T) (hM:MM C M) (h:g1 T E.n M hs L f s=some (f',s',L',S,hs')) (hS:oT S) (j:FJ E Q D C f' s' L'):FJ E Q D C f s L:=by
 obtain c|⟨ops,rest⟩|e:=f
 ·cases c with
  |seq x y=>cases h;exact fun a w hf hs=>wpIn_seq (j a w hf hs)
  |block id x=>cases h;exact S4 j
  |skip=>cases h;exact UX j
  |label l=>cases h;exact RC j
  |ret=>cases h;exact YW (by rw [zb];exact j)
  |exit id=>cases h;exact Ws (Da id s j)
  |region i ops d=>
   cases d with
   |false=>cases h;exact Ns j
   |true=>cases h
  |cond x y z=>
   simp only [g1] at h;split at h
   ·rename_i hx;cases h;exact Km hx j
   ·rename_i hx;cases h;exact HG hx j
   ·cases h
  |_=>cases h
 ·cases rest with
  |nil=>cases h;exact j
  |cons o rest=>
   simp only [g1] at h;split at h
   ·rename_i hd;split at h
    ·rename_i hg;cases h;exact HX hg hd j
    ·cases h
   ·rename_i d hd;split at h
    ·cases h
    ·rename_i hn;split at h
     ·cases h
     ·rename_i v S1 A hv;cases h;exact XK (TC hT hM hv hS) hd hn j
 ·cases e with
  |normal=>
   match s,h with
   | .inl y::s,h=>cases h;exact j
   | .inr _::s,h=>cases h;exact j
  |exit id=>cases h;exact Da id s j
  |ret=>cases h;show KJ E (K3 E.P E.r s Q .ret) D L C;rw [zb];exact j
  |_=>cases h
end
def gs (T:CW) (n:Nat) (M:List (Nat×List Value)):Nat→List Nat→dJ→K6→D5→Option (K6×D5×dJ×List Prop)
 |0,_,L,f,s=>some (f,s,L,[])
 |k+1,hs,L,f,s=>match g1 T n M hs L f s with
  |none=>none
  |some (f1,s1,L1,S,hs')=>match gs T n M k hs' L1 f1 s1 with
   |none=>none
   |some (f2,s2,L2,S')=>some (f2,s2,L2,S++S')
section
variable {E:fJ} {T:CW} {Q:du} {M:List (Nat×List Value)} {D:List Deferred} {L L' L0:List (Nat×Value)} {C:List au} {f f':K6} {s s':D5} {S:List Prop}
theorem NK (hT:kX E.P T) (hM:MM C M): ∀ (k:Nat) (hs:List Nat) (L:dJ) (f:K6) (s:D5) {f':K6} {s':D5} {L':dJ} {S:List Prop},gs T E.n M k hs L f s=some (f',s',L',S)→oT S→FJ E Q D C f' s' L'→FJ E Q D C f s L
 |0,hs,L,f,s,f',s',L',S,h,hS,j=>by cases h;exact j
 |k+1,hs,L,f,s,f',s',L',S,h,hS,j=>by
  simp only [gs] at h;split at h
  ·cases h
  ·rename_i B H L1 S1 A F;split at h
   ·cases h
   ·rename_i AA J L2 S2 G;cases h;obtain ⟨a,b⟩:=wh hS;exact Xv hT hM F a (NK hT hM k A L1 B H G b j)
end
/-- a start: what is asked there follows from what is asked of the machine -/
def Sg (E:fJ) (Q:du) (D:iF) (C:List au) (f:K6) (s:D5) (L:dJ) (G:Prop):Prop:=FJ E Q D C f s L→G
section
variable {P:Program} {r:Option Nat} {n:Nat} {B:BS} {w0:World} {ops:Array Oper} {Q:du} {D:List Deferred} {L:List (Nat×Value)} {C:List au} {s:D5} {rest:List Oper} {c:Code} {e:Exit} {J:Act→World→Prop}
theorem bT:Sg ⟨P,r,n,B,w0⟩ Q D C (.inl c) [] L (WJ ⟨P,r,n,B,w0⟩ c Q D L C):=id
theorem aY:Sg ⟨P,r,n,B,w0⟩ Q D C (.inl c) s L (WJ ⟨P,r,n,B,w0⟩ c (K3 P r s Q) D L C):=id
theorem aj:Sg ⟨P,r,n,B,w0⟩ Q D C (.inr (.inl (ops,rest))) s L (RJ ⟨P,r,n,B,w0⟩ ops (K3 P r s Q) rest D L C):=id
theorem jC:Sg ⟨P,r,n,B,w0⟩ Q D C (.inr (.inr e)) s L (KJ ⟨P,r,n,B,w0⟩ (K3 P r s Q e) D L C):=id
theorem fz (he:noN e=true:=by rfl):Sg ⟨P,r,n,B,w0⟩ Q D C (.inr (.inr e)) s L (KJ ⟨P,r,n,B,w0⟩ (Exit.then J (K3 P r s Q) e) D L C):=fun h=>by cases e<;>first|exact h|cases he
end
def ZN:List ResultVar→dJ→Option Value
 |[.tmp t],L=>L.lookup t
 |_,_=>none
section
variable {P:Program} {r:Option Nat} {n:Nat} {B:BS} {w0:World} {Q:du} {M:List (Nat×List Value)} {D:List Deferred} {L L' L0:List (Nat×Value)} {C:List au} {f f':K6} {s s':D5} {S:List Prop} {G:Prop} {u v:Value} {fn:Func} {K:Act→World→Prop}
/-- at a line's end: what is left in order -/
theorem ck (st:Sg ⟨P,r,n,B,w0⟩ Q D C f s L G) (k:Nat) (hs:List Nat) (hM:MM C M) (j:FJ ⟨P,r,n,B,w0⟩ Q D C f' s' L') (hT:kX P TT:=by exact pd) (h:gs TT n M k hs L f s=some (f',s',L0,S):=by rfl) (hL:L0=L':=by (try dsimp only)<;>rfl) (hS:oT S:=by repeat' first|exact True.intro |refine jD ?_ ?_ |exact rfl|omega|(dsimp only;omega)):G:=by
 subst hL;exact st (NK (E:=⟨P,r,n,B,w0⟩) hT hM k hs L _ _ h hS j)
theorem UT (hQ: ∀ D L C,LJ ⟨P,none,n,sf,w0⟩ fn (AA w0 v) D L C→KJ ⟨P,none,n,sf,w0⟩ K D L C) (hl:ZN fn.results.toList L=some u) (e:u=v):KJ ⟨P,none,n,sf,w0⟩ K [] L C:=by
 unfold ZN at hl;split at hl
 ·rename_i t hr;exact Q1 hQ rfl hr hl e
 ·cases hl
theorem yR (st:Sg ⟨P,none,n,sf,w0⟩ Q [] C f s L G) (k:Nat) (hQ: ∀ D L C,LJ ⟨P,none,n,sf,w0⟩ fn (AA w0 v) D L C→KJ ⟨P,none,n,sf,w0⟩ K D L C) (hs:List Nat) (hM:MM C M) (h:gs TT n M k hs L f s=some (.inr (.inr .ret),[],L0,S)) (hl:ZN fn.results.toList L0=some u) (e:u=v) (hS:oT S:=by repeat' first|exact True.intro |refine jD ?_ ?_ |exact rfl|omega|(dsimp only;omega)) (hT:kX P TT:=by exact pd) (hK:Q .ret=K:=by rfl):G:=by
 subst hK;exact st (NK (E:=⟨P,none,n,sf,w0⟩) hT hM k hs L _ _ h hS (UT hQ hl e))
end
section
variable {P:Program} {r:Option Nat} {n:Nat} {B:BS} {w0:World} {Q:du} {M:List (Nat×List Value)} {D:List Deferred} {L L1 L0:List (Nat×Value)} {C:List au} {f f1:K6} {s s1:D5} {S:List Prop} {G:Prop} {u v:Value} {fn:Func} {K:Act→World→Prop}
theorem dF (st:Sg ⟨P,r,n,B,w0⟩ Q D C f s L G) (k:Nat) (hs:List Nat) (hM:MM C M) (h:gs TT n M k hs L f s=some (f1,s1,L1,S)) (j:FJ ⟨P,r,n,B,w0⟩ Q D C f1 s1 L1) (hS:oT S:=by repeat' first|exact True.intro |refine jD ?_ ?_ |exact rfl|omega|(dsimp only;omega)) (hT:kX P TT:=by exact pd):G:=ck st k hs hM j hT h rfl hS
theorem aU (st:Sg ⟨P,r,n,B,w0⟩ Q D C f s L G) (k:Nat) (h:gs TT n [] k [] L f s=some (f1,s1,L1,S)) (j:FJ ⟨P,r,n,B,w0⟩ Q D C f1 s1 L1) (hS:oT S:=by repeat' first|exact True.intro |refine jD ?_ ?_ |exact rfl|omega|(dsimp only;omega)) (hT:kX P TT:=by exact pd):G:=ck st k [] mn j hT h rfl hS
theorem aq (st:Sg ⟨P,r,n,B,w0⟩ Q D C f s L G) (k:Nat) (j:FJ ⟨P,r,n,B,w0⟩ Q D C f1 s1 L1) (hT:kX P TT:=by exact pd) (h:gs TT n [] k [] L f s=some (f1,s1,L0,S):=by rfl) (hL:L0=L1:=by (try dsimp only)<;>rfl) (hS:oT S:=by repeat' first|exact True.intro |refine jD ?_ ?_ |exact rfl|omega|(dsimp only;omega)):G:=ck st k [] mn j hT h hL hS
theorem cr (st:Sg ⟨P,none,n,sf,w0⟩ Q [] C f s L G) (k:Nat) (hQ: ∀ D L C,LJ ⟨P,none,n,sf,w0⟩ fn (AA w0 v) D L C→KJ ⟨P,none,n,sf,w0⟩ K D L C) (h:gs TT n [] k [] L f s=some (.inr (.inr .ret),[],L0,S)) (hl:ZN fn.results.toList L0=some u) (e:u=v) (hS:oT S:=by repeat' first|exact True.intro |refine jD ?_ ?_ |exact rfl|omega|(dsimp only;omega)) (hT:kX P TT:=by exact pd) (hK:Q .ret=K:=by rfl):G:=yR st k hQ [] mn h hl e hS hT hK
end
end
section
def oh (a b:aa):aa:=⟨a.Lo+b.Lo,a.Hi+b.Hi⟩
def gP:aa:=⟨0,0⟩
def l5 (a:aa) (l:List aa):aa:=l.foldl oh a
def nk (z:aa):Prop:=(-1000000000≤z.Lo∧z.Lo≤1000000000)∧ -1000000000≤z.Hi∧z.Hi≤1000000000
theorem BH {a:aa} {l:List aa} (h:l[i]? =some z):l5 a (l.take (i+1))=oh (l5 a (l.take i)) z:=by
 rw [l1,h];unfold l5;simp
theorem Vv {a:aa} {l:List aa} (ha:nk a) (hl: ∀ z∈l,nk z): ∀ i:Nat,(-1000000000-1000000000*(i:Int)≤(l5 a (l.take i)).Lo∧(l5 a (l.take i)).Lo≤1000000000+1000000000*(i:Int))∧ -1000000000-1000000000*(i:Int)≤(l5 a (l.take i)).Hi∧(l5 a (l.take i)).Hi≤1000000000+1000000000*(i:Int):=by
 intro i
 induction i with
 |zero=>unfold nk at ha;simp [l5];omega
 |succ i ih=>
  cases h:l[i]? with
  |none=>rw [l1,h];simp only [Option.toList_none,AAJ];omega
  |some z=>
   have hz:=hl z (aF h);unfold nk at hz;rw [BH h];simp only [oh];omega
theorem Nf {a:aa} {l:List aa} (h:l.length≤i):l5 a (l.take i)=l5 a l:=by rw [c5 h]
theorem pw {a:aa}:vA (aa.cells (l5 a [z]))=vA (aa.cells (oh a z)):=rfl
theorem FX {a y:aa}:vA (aa.cells (l5 a [y,z]))=vA (aa.cells (oh (oh a y) z)):=rfl
/-- how long the run is from one mark, over so many stretches; by how much it falls -/
def eV (ts:List ag) (f:Nat):Nat→aa
 |0=>gP
 |k+1=>match ts[f+k]? with
  |some x=>oh (eV ts f k) x.jd
  |none=>eV ts f k
def hE (ts:List ag) (f:Nat):Nat→aa
 |0=>gP
 |k+1=>match ts[f+k]? with
  |some x=>oh (hE ts f k) x.kU
  |none=>hE ts f k
theorem rX {x:ag} (h:ts[f+k]? =some x):eV ts f (k+1)=oh (eV ts f k) x.jd:=by simp [eV,h]
theorem rH {x:ag} (h:ts[f+k]? =some x):hE ts f (k+1)=oh (hE ts f k) x.kU:=by simp [hE,h]
theorem nY (ht:∀ x∈ts,bW x) (f:Nat): ∀ k:Nat,(0≤(eV ts f k).Lo∧(eV ts f k).Lo≤(eV ts f k).Hi)∧(eV ts f k).Hi≤30000*(k:Int):=by
 intro k
 induction k with
 |zero=>simp [eV,gP]
 |succ k ih=>
  simp only [eV];cases h:ts[f+k]? with
  |none=>simp only;omega
  |some x=>
   have hx:=(ht x (aF h)).2.1;simp only [cQ] at hx;simp only [oh];omega
theorem IJ (ht:∀ x∈ts,bW x) (f:Nat): ∀ k:Nat,(0≤(hE ts f k).Lo∧(hE ts f k).Lo≤(hE ts f k).Hi)∧(hE ts f k).Hi≤5000*(k:Int):=by
 intro k
 induction k with
 |zero=>simp [hE,gP]
 |succ k ih=>
  simp only [hE];cases h:ts[f+k]? with
  |none=>simp only;omega
  |some x=>
   have hx:=(ht x (aF h)).2.2.1;simp only [cQ] at hx;simp only [oh];omega
theorem tq (ht:∀ x∈ts,bW x) (hk:k≤13):nk (eV ts f k):=by
 have:=nY ht f k;unfold nk;omega
theorem AW (ht:∀ x∈ts,bW x) (hk:k≤13):nk (hE ts f k):=by
 have:=IJ ht f k;unfold nk;omega
theorem xC {x:ag} (h:bW x):nk x.jd:=by have:=h.2.1;simp only [cQ] at this;unfold nk;omega
theorem xX {x:ag} (h:bW x):nk x.kU:=by have:=h.2.2.1;simp only [cQ] at this;unfold nk;omega
theorem Cn (h:¬ (if cD ts=true then (0:Int) else 10)=0):cD ts=false∧(if cD ts=true then (0:Int) else 10)=10:=by
 cases ht:cD ts with
 |true=>rw [ht] at h;exact absurd rfl h
 |false=>exact ⟨rfl,rfl⟩
theorem HU (h:(if cD ts=true then (0:Int) else 10)=0):cD ts=true:=by
 cases ht:cD ts with
 |true=>rfl
 |false=>rw [ht] at h;exact absurd h dc
/-- what the iterator of marks yields -/
def wQ (ts:List ag) (f:Nat):List (List Value):=(range (ts.length-f+1)).map fun (k:Nat)=>[.agg (eV ts f k).cells.toArray,.agg (hE ts f k).cells.toArray]
theorem wG:(wQ ts f).length=ts.length-f+1:=by simp [wQ]
theorem BL (h:k≤ts.length-f):(wQ ts f)[k]? =some [.agg (eV ts f k).cells.toArray,.agg (hE ts f k).cells.toArray]:=by
 simp [wQ,ABG (show k<ts.length-f+1 by omega)]
theorem K2 {x:List Value} (h:(wQ ts f)[k]? =some x):k≤ts.length-f∧x=[.agg (eV ts f k).cells.toArray,.agg (hE ts f k).cells.toArray]:=by
 have hi:k<ts.length-f+1:=by
  have:=(aT.1 h).1;simpa [wQ] using this
 rw [BL I] at h;exact ⟨I,(m3 h).symm⟩
theorem H6: ∀ x∈wQ ts f,x.length=2:=fun x hx=>by
 obtain ⟨k,_,rfl⟩:=cu.1 hx;rfl
end
section
def gv (ts:List ag) (s:cY):Prop:=(0≤s.bk∧s.bk<(ts.length:Int))∧ ∃ x,ts[s.bk.toNat]? =some x∧cQ s.mO 0 (x.jd.Lo-1)
noncomputable instance (ts:List ag) (s:cY):Decidable (gv ts s):=Classical.propDecidable _
theorem D9 {s:cY} {x:ag} (h:0≤s.bk∧s.bk<(ts.length:Int)) (hx:ts[s.bk.toNat]? =some x):gv ts s↔cQ s.mO 0 (x.jd.Lo-1):=
 ⟨fun A=>by obtain ⟨y,hy,B⟩:=A.2;rw [hx] at hy;cases hy;exact B,fun A=>⟨h,x,hx,A⟩⟩
theorem FG {s:cY} (h:¬ (0≤s.bk∧s.bk<(ts.length:Int))): ¬ gv ts s:=fun A=>h A.1
theorem DD {s:cY} (ht:∀ x∈ts,bW x) (h:gv ts s):(0≤s.mO.Lo∧s.mO.Lo≤s.mO.Hi)∧s.mO.Hi≤30000:=by
 obtain ⟨x,hx,A⟩:=h.2;have:=(ht x (aF hx)).2.1;simp only [cQ] at A this;omega
theorem Hr {a:cY}:vB (decide (∀ s∈[a],gv ts s))=vB (decide (gv ts a)):=c7 _ (gR.2 sm)
theorem H_ {a b:cY}:vB (decide (∀ s∈[a,b],gv ts s))=vB (decide (gv ts a∧gv ts b)):=c7 _ (gR.2 sm)
def pR (z:aa):aa:=⟨-z.Hi,-z.Lo⟩
def QT (ts:List ag) (s:cY):aa:=oh (eV ts 0 s.bk.toNat) s.mO
noncomputable def I_ (ts:List ag) (s:cY):Int:=if cD ts=true then (if gv ts s then 0 else 12) else 10
noncomputable def Vk (ts:List ag) (s:cY):aa:=if I_ ts s=0 then QT ts s else gP
theorem PC {s:cY} (h:cD ts=false):I_ ts s=10∧Vk ts s=gP:=by
 have e:I_ ts s=10:=by unfold I_;rw [h];rfl
 exact ⟨e,by unfold Vk;rw [e];rfl⟩
theorem P8 {s:cY} (h:cD ts=true) (h2:¬ gv ts s):I_ ts s=12∧Vk ts s=gP:=by
 have e:I_ ts s=12:=by unfold I_;rw [c0 h,c1 h2]
 exact ⟨e,by unfold Vk;rw [e];rfl⟩
theorem zu {s:cY} (h:cD ts=true) (h2:gv ts s):I_ ts s=0∧Vk ts s=QT ts s:=by
 have e:I_ ts s=0:=by unfold I_;rw [c0 h,c0 h2]
 exact ⟨e,c0 e⟩
theorem Je {s:cY} (h:cD ts=true):I_ ts s=0↔gv ts s:=by
 unfold I_;rw [c0 h];split<;>simp [*]
def Ao (ts:List ag) (a b:cY):aa:=eV ts (min a.bk b.bk).toNat (max a.bk b.bk-min a.bk b.bk).toNat
def lq (ts:List ag) (a b:cY):aa:=oh (oh (if b.bk<a.bk then pR (Ao ts a b) else Ao ts a b) b.mO) (pR a.mO)
noncomputable def nB (ts:List ag) (a b:cY):Int:=if cD ts=true then (if gv ts a∧gv ts b then 0 else 12) else 10
noncomputable def mx (ts:List ag) (a b:cY):aa:=if nB ts a b=0 then lq ts a b else gP
theorem xS {a b:cY} (h:cD ts=false):nB ts a b=10∧mx ts a b=gP:=by
 have e:nB ts a b=10:=by unfold nB;rw [h];rfl
 exact ⟨e,by unfold mx;rw [e];rfl⟩
theorem qG {a b:cY} (h:cD ts=true) (h2:¬ (gv ts a∧gv ts b)):nB ts a b=12∧mx ts a b=gP:=by
 have e:nB ts a b=12:=by unfold nB;rw [c0 h,c1 h2]
 exact ⟨e,by unfold mx;rw [e];rfl⟩
theorem mQ {a b:cY} (h:cD ts=true) (h2:gv ts a∧gv ts b):nB ts a b=0∧mx ts a b=lq ts a b:=by
 have e:nB ts a b=0:=by unfold nB;rw [c0 h,c0 h2]
 exact ⟨e,c0 e⟩
theorem Ds (h:nk z):nk (pR z):=by unfold nk pR at *;simp only;omega
theorem sT {s:cY} (ht:∀ x∈ts,bW x) (h:gv ts s):nk s.mO:=by have:=DD ht h;unfold nk;omega
theorem UK {a b:cY} (ht:∀ x∈ts,bW x) (hl:ts.length≤12) (ha:gv ts a) (hb:gv ts b):(0≤(Ao ts a b).Lo∧(Ao ts a b).Lo≤(Ao ts a b).Hi)∧(Ao ts a b).Hi≤360000:=by
 have h:=nY ht (min a.bk b.bk).toNat (max a.bk b.bk-min a.bk b.bk).toNat;have A:=ha.1;have B:=hb.1;unfold Ao;omega
theorem Aj {a b:cY} (ht:∀ x∈ts,bW x) (hl:ts.length≤12) (ha:gv ts a) (hb:gv ts b):(-400000≤(lq ts a b).Lo∧(lq ts a b).Lo≤(lq ts a b).Hi)∧(lq ts a b).Hi≤400000:=by
 have h:=UK ht hl ha hb;have A:=DD ht ha;have B:=DD ht hb;unfold lq oh pR;split<;>simp only <;>omega
theorem YG {s:cY} (ht:∀ x∈ts,bW x) (hl:ts.length≤12) (h:gv ts s):(0≤(QT ts s).Lo∧(QT ts s).Lo≤(QT ts s).Hi)∧(QT ts s).Hi≤400000:=by
 have A:=nY ht 0 s.bk.toNat;have B:=DD ht h;have C:=h.1;unfold QT oh;simp only;omega
theorem Ms {p:Nat→α→Bool} {l:List α}:((l.zipIdx.filter fun q=>p q.2 q.1).map fun q=>(q.2:Int))=[]↔ ∀ (i:Nat) x,l[i]? =some x→p i x=false:=by
 rw [ABh,List.filter_eq_nil_iff];constructor
 ·intro h i x hx;have:=h (x,i) (by rw [List.mem_zipIdx_iff_getElem?];simpa using hx);simpa using this
 ·rintro h ⟨x,i⟩ hm;rw [List.mem_zipIdx_iff_getElem?] at hm;simpa using h i x (by simpa using hm)
/-- the places of a list at which something is so -/
def vd {α:Type} (p:Nat→α→Bool) (l:List α) (n:Nat):List Int:=(((l.take n).zipIdx.filter fun q=>p q.2 q.1).map fun q=>(q.2:Int))
theorem Qj {p:Nat→α→Bool} {l:List α} {x:α} (hx:l[i]? =some x) (h:p i x=true):vd p l (i+1)=vd p l i++[(i:Int)]:=by
 have hi:=(aT.1 hx).1;unfold vd;rw [l1,hx,List.zipIdx_append,AAq,AAF];simp [AB5 (Nat.le_of_lt hi),h]
theorem Sn {p:Nat→α→Bool} {l:List α} {x:α} (hx:l[i]? =some x) (h:p i x=false):vd p l (i+1)=vd p l i:=by
 have hi:=(aT.1 hx).1;unfold vd;rw [l1,hx,List.zipIdx_append,AAq,AAF];simp [AB5 (Nat.le_of_lt hi),h]
theorem Ge {p:Nat→α→Bool} {l:List α} {n:Nat}:(vd p l n).length≤n:=by
 unfold vd;rw [c3];refine c6 (u2 _ _) ?_;rw [List.length_zipIdx,k5];omega
def Ot {α:Type} (p:Nat→α→Bool) (l:List α):List Int:=vd p l l.length
theorem Rb {p:Nat→α→Bool} {l:List α} {n:Nat} (h:n=l.length):vd p l n=Ot p l:=by rw [h];rfl
theorem Lb {p:Nat→α→Bool} {l:List α}:(Ot p l).length=0↔ ∀ (i:Nat) x,l[i]? =some x→p i x=false:=by
 unfold Ot vd;rw [ABk,AA8];exact Ms
end
section
variable (p:Int→Bool)
theorem CT (n:Nat): ∃ r:Int,r=((range n).findIdx fun (k:Nat)=>p (k:Int):Nat):=⟨_,rfl⟩
noncomputable def gT (p:Int→Bool) (n:Nat):Int:=Classical.choose (CT p n)
theorem vE (n:Nat):gT p n=((range n).findIdx fun (k:Nat)=>p (k:Int):Nat):=Classical.choose_spec (CT p n)
theorem jG {p:Int→Bool} {n:Nat}:0≤gT p n∧gT p n≤n:=by
 rw [vE];have:=List.findIdx_le_length (xs:=range n) (p:=fun (k:Nat)=>p (k:Int));rw [AA1] at this;omega
theorem BR {p:Int→Bool} {n:Nat} {x:Int} (h0:0≤x) (h:x<gT p n):p x=false:=by
 have hb:=jG (p:=p) (n:=n);rw [vE] at h;have B:x.toNat<(range n).findIdx fun (k:Nat)=>p (k:Int):=by omega
 have A:=List.not_of_lt_findIdx B;simp only [List.getElem_range] at A;rw [show (x.toNat:Int)=x by omega] at A;simpa using A
theorem LU {p:Int→Bool} {n:Nat} (h:gT p n<n):p (gT p n)=true:=by
 rw [vE] at h ⊢;have A:((range n).findIdx fun (k:Nat)=>p (k:Int))<(range n).length:=by rw [AA1];omega
 have:=List.findIdx_getElem (w:=A);simpa using this
end
section
def qz (n by_:Int):Int:=(n+by_-1)/by_
/-- by how much a sync may be off -/
def vj (c:aS) (at_:Int) (x:cP):Int:=qz (c.dI*max (at_-x.At) (x.At-at_)) 1000000
def nP (c:aS) (at_:Int) (s:aa) (x:cP):aa:=⟨max s.Lo (x.eA.Lo-vj c at_ x),min s.Hi (x.eA.Hi+vj c at_ x)⟩
def ia (c:aS) (at_:Int) (k:Nat):aa:=(c.bo.take k).foldl (nP c at_) ⟨-1099511627776,1099511627776⟩
def jm (c:aS) (at_:Int):aa:=c.bo.foldl (nP c at_) ⟨-1099511627776,1099511627776⟩
theorem lz {x:cP} (h:c.bo[k]? =some x):ia c at_ (k+1)=nP c at_ (ia c at_ k) x:=by
 unfold ia;rw [l1,h,List.foldl_append];rfl
theorem pI (h:c.bo.length≤k):ia c at_ k=jm c at_:=by unfold ia jm;rw [c5 h]
def lV (c:aS) (i:Nat):Int:=if i=0 then-1 else ((c.bo[i-1]?).map (·.At)).getD 0
def gD (c:aS) (i:Nat) (x:cP):Prop:=(lV c i<x.At∧x.At≤86400000)∧ -10000≤x.eA.Lo∧x.eA.Lo≤x.eA.Hi∧x.eA.Hi≤10000
def qm (c:aS) (x o:cP):Prop:=x.eA.Lo-o.eA.Hi≤qz (c.dI*(x.At-o.At)) 1000000∧o.eA.Lo-x.eA.Hi≤qz (c.dI*(x.At-o.At)) 1000000
structure fD (c:aS):Prop where
 u0:0≤c.dI∧c.dI≤1000
 len:1≤c.bo.length∧c.bo.length≤5
 sync: ∀ (i:Nat) x,c.bo[i]? =some x→gD c i x
 pair: ∀ (i k:Nat) x o,c.bo[i]? =some x→k<i→c.bo[k]? =some o→qm c x o
noncomputable instance (c:aS):Decidable (fD c):=Classical.propDecidable _
theorem gZ (h:i=0):lV c i= -1:=c0 h
theorem AF {y:cP} (h:0<i) (hy:c.bo[i-1]? =some y):lV c i=y.At:=by unfold lV;rw [c1 I,hy];rfl
theorem pW {y:cP} (hy:c.bo[i]? =some y):lV c (i+1)=y.At:=by unfold lV;rw [c1 I,AA_,hy];rfl
/-- the times of the syncs -/
theorem SO (h:∀ (i:Nat) x,c.bo[i]? =some x→gD c i x): ∀ (i:Nat) x,c.bo[i]? =some x→0≤x.At∧ ∀ (k:Nat) o,k<i→c.bo[k]? =some o→o.At<x.At:=by
 intro i
 induction i with
 |zero=>
  intro x hx;have:=(h 0 x hx).1.1;rw [gZ rfl] at this;exact ⟨I,fun k o hk=>by omega⟩
 |succ i ih=>
  intro x hx;have hi:=(aT.1 hx).1;have hy:c.bo[i]? =some (c.bo[i]'I):=fh I;have B:=ih _ hy;have A:=(h (i+1) x hx).1.1;rw [pW hy] at A;refine ⟨I,fun k o hk ho=>?_⟩;by_cases e:k=i
  ·subst e;rw [hy] at ho;cases ho;exact A
  ·have:=B.2 k o I ho;omega
theorem fD.yk (h:fD c) {x:cP} (hx:c.bo[i]? =some x):(0≤x.At∧x.At≤86400000)∧ -10000≤x.eA.Lo∧x.eA.Lo≤x.eA.Hi∧x.eA.Hi≤10000:=by
 have A:=h.sync i x hx;exact ⟨⟨(SO h.sync i x hx).1,A.1.2⟩,A.2⟩
theorem Jl {d b:Int} (hd:0≤d∧d≤1000) (ha:0≤a∧a≤90000000) (hb:0≤b∧b≤90000000):0≤d*max (a-b) (b-a)∧d*max (a-b) (b-a)≤90000000000:=by
 have:=AX (a:=d) (b:=max (a-b) (b-a)) (A:=1000) (B:=90000000) hd.1 hd.2 I I;omega
theorem x4 {x:cP} (hd:0≤c.dI∧c.dI≤1000) (ha:0≤at_∧at_≤90000000) (hx:0≤x.At∧x.At≤86400000):0≤vj c at_ x∧vj c at_ x≤90001:=by
 have h:=Jl hd ha (show 0≤x.At∧x.At≤90000000 by omega);unfold vj qz;omega
theorem Gg (h:fD c) (ha:0≤at_∧at_≤90000000): ∀ k:Nat,(-1099511627776≤(ia c at_ k).Lo∧(ia c at_ k).Lo≤10000)∧ -10000≤(ia c at_ k).Hi∧(ia c at_ k).Hi≤1099511627776:=by
 intro k
 induction k with
 |zero=>simp [ia]
 |succ k ih=>
  cases hx:c.bo[k]? with
  |none=>unfold ia at ih ⊢;rw [l1,hx];simpa using ih
  |some x=>
   have hb:=h.yk hx;have ho:=x4 h.u0 ha hb.1;rw [lz hx];unfold nP;simp only;omega
theorem tv (h:fD c) (ha:0≤at_∧at_≤90000000):(-110000≤(jm c at_).Lo∧(jm c at_).Lo≤10000)∧ -10000≤(jm c at_).Hi∧(jm c at_).Hi≤110000:=by
 obtain ⟨n,hn⟩: ∃ n,c.bo.length=n+1:=⟨c.bo.length-1,by have:=h.len;omega⟩;have hx:c.bo[n]? =some (c.bo[n]'I):=fh I;have hb:=h.yk hx;have ho:=x4 h.u0 ha hb.1;have A:=Gg h ha n;rw [← pI (k:=n+1) I,lz hx];unfold nP;simp only;omega
/-- as time goes on, time and what a clock may be ahead, together, never go back -/
theorem GR (h:fD c) {b:Int} (ha:0≤a) (hab:a≤b) (hb:b≤90000000): ∀ k:Nat,(a+(ia c a k).Lo≤b+(ia c b k).Lo∨(ia c a k).Lo= -1099511627776)∧a+(ia c a k).Hi≤b+(ia c b k).Hi:=by
 have step: ∀ (x:cP),0≤x.At∧x.At≤86400000→ ∀ a b:Int,0≤a→a≤b→b≤90000000→vj c a x≤vj c b x+(b-a)∧vj c b x≤vj c a x+(b-a):=by
  intro x hx a b ha hab hb;have hd:=h.u0;have e: ∀ u v:Int,u≤v+1000000*(b-a)→qz u 1000000≤qz v 1000000+(b-a):=by intro u v C;unfold qz;omega
  have m: ∀ p q:Int,p≤q+(b-a)→c.dI*p≤c.dI*q+1000000*(b-a):=by
   intro p q A;have D:c.dI*p≤c.dI*(q+(b-a)):=Int.mul_le_mul_of_nonneg_left A hd.1;have E:c.dI*(q+(b-a))=c.dI*q+c.dI*(b-a):=Int.mul_add _ _ _;have F:c.dI*(b-a)≤1000*(b-a):=ABp hd.2 I;omega
  exact ⟨e _ _ (m _ _ I),e _ _ (m _ _ I)⟩
 intro k
 induction k with
 |zero=>simp [ia];omega
 |succ k ih=>
  cases hx:c.bo[k]? with
  |none=>
   have e: ∀ t,ia c t (k+1)=ia c t k:=fun t=>by unfold ia;rw [l1,hx];simp
   rw [e,e];exact ih
  |some x=>
   have hs:=h.yk hx;have:=step x hs.1 a b ha hab hb;have B:=x4 (at_:=a) h.u0 ⟨ha,I⟩ hs.1;rw [lz hx,lz hx];unfold nP;simp only;omega
theorem yB (h:fD c) {b:Int} (ha:0≤a) (hab:a≤b) (hb:b≤90000000):a+(jm c a).Lo≤b+(jm c b).Lo∧a+(jm c a).Hi≤b+(jm c b).Hi:=by
 have A:=GR h ha hab hb c.bo.length;have B:=tv h (at_:=a) ⟨ha,I⟩;rw [pI (c9 _),pI (c9 _)] at A;omega
noncomputable def mM (l:bf) (i:Nat):Int:=match l.ai[i]? with
 |some b=>if i=0 then (QT l.bQ b.mz).Lo else (match l.ai[i-1]? with
  |some a=>(lq l.bQ a.mz b.mz).Lo
  |none=>0)
 |none=>0
theorem ye {b:df} (h:l.ai[0]? =some b):mM l 0=(QT l.bQ b.mz).Lo:=by unfold mM;rw [h];rfl
theorem Em {a b:df} (hi:0<i) (h:l.ai[i]? =some b) (ha:l.ai[i-1]? =some a):mM l i=(lq l.bQ a.mz b.mz).Lo:=by unfold mM;rw [h,ha];simp only;rw [c1 I]
def lj (l:bf) (b:df):Prop:=gv l.bQ b.mz∧0≤b.kD∧b.kD<(l.aC.length:Int)
def fg (l:bf):Prop:=(1≤l.g7∧l.g7≤5000)∧(1≤(l.aC.length:Int)∧(l.aC.length:Int)≤4)∧(1≤(l.ai.length:Int)∧(l.ai.length:Int)≤6)∧(0≤l.b_∧l.b_≤(l.ai.length:Int)-1)∧(0≤l.eZ∧l.eZ≤3)∧0≤l.dp∧l.dp≤3
structure nz (l:bf):Prop where
 head:fg l
 clock: ∀ c∈l.aC,fD c
 vJ: ∀ b∈l.ai,lj l b
 Um: ∀ i,i<l.ai.length→1≤mM l i
noncomputable instance (l:bf):Decidable (nz l):=Classical.propDecidable _
noncomputable def dU (l:bf):Int:=if cD l.bQ=true then (if nz l then 0 else 50) else 10
theorem Cv (h:cD l.bQ=false):dU l=10:=by unfold dU;rw [h];rfl
theorem tL (h:cD l.bQ=true) (h2:¬ nz l):dU l=50:=by unfold dU;rw [c0 h,c1 h2]
theorem z5 (h:cD l.bQ=true) (h2:nz l):dU l=0:=by unfold dU;rw [c0 h,c0 h2]
theorem er (h:dU l=0):cD l.bQ=true∧nz l:=by
 unfold dU at h;split at h
 ·split at h
  ·exact ⟨asm,asm⟩
  ·omega
 ·omega
theorem BY (ht:cD l.bQ=true) (hb:∀ b∈l.ai,lj l b) (i:Nat): -400000≤mM l i∧mM l i≤400000:=by
 have A:=jF ht;have hl:=ky ht;unfold mM;cases h:l.ai[i]? with
 |none=>simp
 |some b=>
  have B:=(hb b (aF h)).1;simp only;split
  ·have:=YG A hl B;omega
  ·cases h2:l.ai[i-1]? with
   |none=>simp
   |some a=>
    have C:=(hb a (aF h2)).1;have:=Aj A hl C B;simp only;omega
def sw (l:bf) (s:aR):aS:=((l.ai[s.fR.toNat]?).bind fun b=>l.aC[b.kD.toNat]?).getD ⟨0,[]⟩
def iT (c:aS) (r t:Int):Bool:=decide (r≤t+(jm c t).Hi)
def iS (c:aS) (r t:Int):Bool:=decide (r<t+(jm c t).Lo)
noncomputable def ET (c:aS) (r:Int):aa:=⟨gT (iT c r) 86400001,gT (iS c r) 86400001-1⟩
noncomputable def dw (l:bf) (s:aR):aa:=ET (sw l s) s.Read
noncomputable def ew (l:bf) (i:Nat):Int:=qz (1000*mM l i) l.g7
end
section
open Go.RowKit
def D4 (n:Int):Int:=IntKind.i64.wrap n
theorem DQ {n:Int} (h:tP n):D4 n=n:=p_ h
theorem XE (n:Int): -9223372036854775808≤D4 n∧D4 n≤9223372036854775807:=by
 unfold D4;rw [IntKind.wrap_i64];omega
section
variable {P:Program} {t:TypeId} {x y:Operand} {a b:Int}
theorem VK:g8 P .add t x y (.int .i64 a) (.int .i64 b) (.int .i64 (D4 (a+b))):=fun w=>by simp [eqGuard_add,binOp_add,Op.intArith,D4]
theorem Qn:g8 P .sub t x y (.int .i64 a) (.int .i64 b) (.int .i64 (D4 (a-b))):=fun w=>by simp [eqGuard_sub,binOp_sub,Op.intArith,D4]
theorem Vo:g8 P .mul t x y (.int .i64 a) (.int .i64 b) (.int .i64 (D4 (a*b))):=fun w=>by simp [eqGuard_mul,binOp_mul,Op.intArith,D4]
end
/-- divided, and rounded up, as it comes out -/
def Y_ (n by_:Int):Int:=(D4 (D4 (n+by_)-1)).tdiv by_
theorem U2 {b:Int} (ha:-9223372036854775808≤a∧a≤9223372036854775807) (hb:2≤b):tP (a.tdiv b):=by
 have A:a.tdiv b=a/b+if a % b≠0∧a<0 then 1 else 0:=by
  rcases AAe a 0 with h|h
  ·rw [Int.tdiv_eq_ediv];have:b.sign=1:=Int.sign_eq_one_of_pos I;rw [this];by_cases hd:b∣a
   ·have:a % b=0:=Int.emod_eq_zero_of_dvd hd;simp [hd,this]
   ·have:a % b≠0:=fun e=>hd (Int.dvd_of_emod_eq_zero e);have hn: ¬ 0≤a:=by omega
    simp [hd,this,h,hn]
  ·rw [AB0 h];have: ¬ a<0:=by omega
   simp [this]
 have B:a/b*b+a % b=a:=by rw [Int.mul_comm];exact Int.mul_ediv_add_emod a b
 have C:0≤a % b:=Int.emod_nonneg _ I;have D:a % b<b:=Int.emod_lt_of_pos _ I;have E: -9223372036854775808≤a/b∧a/b≤4611686018427387904:=by
  constructor
  ·refine Int.le_ediv_of_mul_le I ?_;have:(-9223372036854775808:Int)*b≤ -9223372036854775808*1:=Int.mul_le_mul_of_nonpos_left I I;omega
  ·refine Int.ediv_le_of_le_mul I ?_;have:(4611686018427387904:Int)*2≤4611686018427387904*b:=Int.mul_le_mul_of_nonneg_left hb I;omega
 rw [A];unfold tP;split<;>omega
theorem Vx {n by_:Int} (h0:0≤n) (h1:n≤1000000000000000000) (hb:1≤by_∧by_≤1000000000000):Y_ n by_=(n+by_-1)/by_:=by
 unfold Y_;rw [DQ (show tP (n+by_) from ⟨I,I⟩),DQ (show tP (n+by_-1) from ⟨I,I⟩),AB0 I]
end
section
open Go.RowKit
/-- where a row lies, and its capacity -/
abbrev RA:=OA×Nat
/-- what is asked of memory by all elements -/
def bB {M A:Type} (f:M→A→List au):List M→List A→List au
 |m::ms,a::asl=>f m a++bB f ms asl
 |_,_=>[]
theorem bq {M A:Type} {f:M→A→List au}: ∀ {ms:List M} {asl:List A} {k:Nat} {m:M} {a:A} {X:au},ms[k]? =some m→asl[k]? =some a→X∈f m a→X∈bB f ms asl
 |[],_,k,m,a,X,h,_,_=>by simp at h
 |_::_,[],k,m,a,X,_,h,_=>by simp at h
 |x::ms,y::asl,0,m,a,X,h,h2,hX=>by
  simp at h h2;subst h h2;exact m1 _ hX
 |x::ms,y::asl,k+1,m,a,X,h,h2,hX=>AAg _ (bq (ms:=ms) (asl:=asl) (k:=k) (by simpa using h) (by simpa using h2) hX)
theorem lx {M A:Type} {f:M→A→List au}: ∀ {ms:List M} {asl:List A} {X:au},X∈bB f ms asl→ ∃ (k:Nat) (m:M) (a:A),ms[k]? =some m∧asl[k]? =some a∧X∈f m a
 |[],_,X,h=>by cases h
 |_::_,[],X,h=>by cases h
 |x::ms,y::asl,X,h=>by
  rcases dZ.1 h with h|h
  ·exact ⟨0,x,y,U,U,h⟩
  ·obtain ⟨k,m,a,B,C,D⟩:=lx h;exact ⟨k+1,m,a,by simpa using B,by simpa using C,D⟩
theorem lF {M A:Type} {f:M→A→List au}: ∀ {ms:List M} {asl:List A} {ns:List M} {bs:List A},ms.length=asl.length→bB f (ms++ns) (asl++bs)=bB f ms asl++bB f ns bs
 |[],[],ns,bs,_=>rfl
 |[],_::_,ns,bs,h=>by simp at h
 |_::_,[],ns,bs,h=>by simp at h
 |x::ms,y::asl,ns,bs,h=>by
  simp only [AAX,bB,List.append_assoc];rw [lF (by simpa using h)]
theorem cE {M A:Type} {f:M→A→β} {ms:List M} {asl:List A} {m:M} {a:A} (h:ms[k]? =some m) (h2:asl[k]? =some a):(zipWith f ms asl)[k]? =some (f m a):=by
 rw [ABu,h,h2]
theorem ct {L:List au} {A:au} (i:Nat) (hC:C[i]? =some (iU L).ro) (hm:A∈L):ig C A.holds:=fun w hw=>hw _ (aF hC) A hm
theorem dQ {M A:Type} {f g:M→A→List au} {ms:List M} {asl:List A} (i:Nat) (hC:C[i]? =some (bD (bB g ms asl))) (h:∀ m a w,(∀ X∈g m a,X.holds w)→ ∀ X∈f m a,X.holds w):ig C (iU (bB f ms asl)).holds:=fun w hw X hX=>by
 have hb:=hw _ (aF hC);obtain ⟨k,m,a,B,D,E⟩:=lx hX;exact h m a w (fun Y hY=>hb.1 Y (bq B D hY)) X E
/-- a row that is part of another one -/
theorem SG {n:Nat} (hR:ig C (rd A n sz es).holds) (hk:k≤n):ig C (rd A k sz (es.take k)).holds:=fun w hw=>by
 obtain ⟨D,E,F⟩:=hR w hw;refine ⟨by rw [k5,D];omega,fun x hx=>E x (ACL hx),fun hp=>?_⟩;have G:0<k:=Nat.pos_of_mul_pos_right hp;have hs:0<sz:=Nat.pos_of_mul_pos_left hp;obtain ⟨ad,hA,B⟩:=F (e6 I hs);refine ⟨ad,hA,fun i e j v he hv=>B i e j v ?_ hv⟩;rw [ABl] at he;split at he
 ·exact he
 ·cases he
section
variable {E:fJ} {ops:Array Oper} {Q:du} {rest:List Oper} {D:List Deferred} {L:List (Nat×Value)} {C:List au}
variable {d:Nat} {ty:TypeId} {ps:String} {af:Array Edge} {g:Option (Nat×Bool)}
/-- an element of a slice that is the head of a row -/
theorem IAH (k:Nat) {ix:Operand} {n n' c:Nat} (h:bF E.n ops L d g x ix=some (.slice A n' c,.int .i64 j)) (hR:ig C (rd A n sz es).holds) (ht:tE E.P t=some (e,sz)) (hz:0<sz) (hj:j=(k:Int)) (hk:k<n') (hn:n'≤n):SE E ops ⟨some d,.indexAddr t x ix,ty,ps,af,g⟩ D L C (.pointer (nD A (k*sz))) d:=IA k h (SG hR hn) ht hz hj hk
end
theorem St.tie {w:World} {A:au} {L L':List au} (h:St S w0 (A::bD L::C) w) (e:L++[A]=L'):St S w0 (bD L'::C) w:=by
 subst e;have B:St S w0 (bD L::A::C) w:=h.perm (List.Perm.swap _ _ _);have D:St S w0 (L++(A::C)) w:=B.iJ;have E:St S w0 ((L++[A])++C) w:=by simpa using D
 exact E.tied
theorem St.VT {w:World} (h:St S w0 C w):St S w0 (bD []::C) w:=St.tied (C1:=[]) h
section
variable {E:fJ} {Q:du} {D:List Deferred} {L:List (Nat×Value)} {C:List au}
theorem mo {c:Code} (h:WJ E c Q D L (bD []::C)):WJ E c Q D L C:=fun a w hf hs=>h a w hf hs.VT
theorem xE (h:RJ E ops Q rest D L (bD []::C)):RJ E ops Q rest D L C:=fun a w hf hs=>h a w hf hs.VT
theorem By {A:au} (i j:Nat) (hn:decide (j::i::(range C.length).filter fun k=>k != i&&k != j).Nodup=true) (hC:kQ C (j::i::(range C.length).filter fun k=>k != i&&k != j)=A::bD X::C1) (e:X++[A]=X') (h:KJ E K D L (bD X'::C1)):KJ E K D L C:=fun a w hf hs=>h a w hf ((St.kQ _ hn hC hs).tie e)
theorem UA {A:au} (i j:Nat) (hn:decide (j::i::(range C.length).filter fun k=>k != i&&k != j).Nodup=true) (hC:kQ C (j::i::(range C.length).filter fun k=>k != i&&k != j)=A::bD X::C1) (e:X++[A]=X') (h:RJ E ops Q rest D L (bD X'::C1)):RJ E ops Q rest D L C:=fun a w hf hs=>h a w hf ((St.kQ _ hn hC hs).tie e)
end
abbrev rr (l:bf) (kA:Option Addr) (az:List RA) (cA bA:Option Addr):List au:=[(rd kA l.bQ.length 9 (l.bQ.map ag.cells)),(rd cA l.aC.length 2 (zipWith aS.cells l.aC az)),(iU (bB aS.lf l.aC az)),(rd bA l.ai.length 4 (l.ai.map df.cells))]
end
variable {az:List RA}
section
def nW (c:aS) (i:Nat) (x:cP) (k:Nat):Prop:=gD c i x∧ ∀ (j:Nat) o,j<k→c.bo[j]? =some o→qm c x o
def vi (c:aS) (n:Nat):Prop:= ∀ (i:Nat) x,i<n→c.bo[i]? =some x→nW c i x i
noncomputable instance (c:aS) (i:Nat) (x:cP) (k:Nat):Decidable (nW c i x k):=Classical.propDecidable _
instance (c:aS) (i:Nat) (x:cP):Decidable (gD c i x):=by unfold gD;infer_instance
theorem G7 {x:cP}:nW c i x 0↔gD c i x:=⟨fun h=>h.1,fun h=>⟨h,fun j o hj=>by omega⟩⟩
theorem vv {x o:cP} (h:c.bo[k]? =some o):nW c i x (k+1)↔nW c i x k∧qm c x o:=by
 constructor
 ·intro hr;exact ⟨⟨hr.1,fun j o' hj ho=>hr.2 j o' I ho⟩,hr.2 k o I h⟩
 ·rintro ⟨hr,hp⟩;refine ⟨hr.1,fun j o' hj ho=>?_⟩;by_cases e:j=k
  ·subst e;rw [h] at ho;cases ho;exact hp
  ·exact hr.2 j o' I ho
theorem KV:vi c 0:=fun i x hi=>by omega
theorem Mi {x:cP} (h:vi c i) (hx:c.bo[i]? =some x) (hr:nW c i x i):vi c (i+1):=fun j y hj hy=>by
 by_cases e:j=i
 ·subst e;rw [hx] at hy;cases hy;exact hr
 ·exact h j y I hy
theorem Oi {x:cP} (hx:c.bo[i]? =some x) (h:¬ nW c i x i): ¬ fD c:=fun hc=>h ⟨hc.sync i x hx,fun j o hj ho=>hc.pair i j x o hx hj ho⟩
theorem K1 (h1:0≤c.dI∧c.dI≤1000) (h2:1≤c.bo.length∧c.bo.length≤5) (h:vi c c.bo.length):fD c:=
 ⟨h1,h2,fun i x hx=>(h i x (aT.1 hx).1 hx).1,fun i k x o hx hk ho=>(h i x (aT.1 hx).1 hx).2 k o hk ho⟩
/-- syncs so far -/
theorem x7 {n:Nat} (h:∀ (i:Nat) x,i<n→c.bo[i]? =some x→gD c i x): ∀ (i:Nat) x,i<n→c.bo[i]? =some x→0≤x.At∧ ∀ (k:Nat) o,k<i→c.bo[k]? =some o→o.At<x.At:=by
 intro i
 induction i with
 |zero=>
  intro x hn hx;have:=(h 0 x hn hx).1.1;rw [gZ rfl] at this;exact ⟨I,fun k o hk=>by omega⟩
 |succ i ih=>
  intro x hn hx;have hi:=(aT.1 hx).1;have hy:c.bo[i]? =some (c.bo[i]'I):=fh I;have B:=ih _ I hy;have A:=(h (i+1) x hn hx).1.1;rw [pW hy] at A;refine ⟨I,fun k o hk ho=>?_⟩;by_cases e:k=i
  ·subst e;rw [hy] at ho;cases ho;exact A
  ·have:=B.2 k o I ho;omega
theorem MC (hi:i≤c.bo.length) (h:∀ (j:Nat) y,j<i→c.bo[j]? =some y→gD c j y): -1≤lV c i∧lV c i≤86400000:=by
 cases i with
 |zero=>rw [gZ rfl];omega
 |succ i=>
  have hy:c.bo[i]? =some (c.bo[i]'I):=fh I;have A:=(x7 (n:=i+1) h i _ I hy).1;have B:=(h i _ I hy).1.2;rw [pW hy];omega
theorem Wu (hi:i≤c.bo.length) (h:vi c i): -1≤lV c i∧lV c i≤86400000:=MC hi fun j y hj hy=>(h j y hj hy).1
theorem xI {x o:cP} (hs:∀ (j:Nat) y,j<i→c.bo[j]? =some y→gD c j y) (hx:c.bo[i]? =some x) (hok:gD c i x) (hk:k<i) (ho:c.bo[k]? =some o):
 (0≤o.At∧o.At<x.At∧x.At≤86400000)∧(-10000≤x.eA.Lo∧x.eA.Lo≤x.eA.Hi∧x.eA.Hi≤10000)∧ -10000≤o.eA.Lo∧o.eA.Lo≤o.eA.Hi∧o.eA.Hi≤10000:=by
 have h: ∀ (j:Nat) y,j<i+1→c.bo[j]? =some y→gD c j y:=fun j y hj hy=>by
  by_cases e:j=i
  ·subst e;rw [hx] at hy;cases hy;exact hok
  ·exact hs j y I hy
 have A:=(x7 h i x I hx).2 k o hk ho;have B:=(x7 h k o I ho).1;exact ⟨⟨B,A,hok.1.2⟩,hok.2,(h k o I ho).2⟩
theorem SY {d b:Int} (hd:0≤d∧d≤1000) (h:0≤b∧b<a∧a≤86400000):Y_ (D4 (d*D4 (a-b))) 1000000=qz (d*(a-b)) 1000000:=by
 have C:0≤d*(a-b)∧d*(a-b)≤90000000000:=by
  have:=AX (a:=d) (b:=a-b) (A:=1000) (B:=90000000) hd.1 hd.2 I I;omega
 rw [DQ (show tP (a-b) from ⟨I,I⟩),DQ (show tP (d*(a-b)) from ⟨I,I⟩),Vx C.1 I I];rfl
/-- what is asked of a line, however wrong it is -/
structure dX (l:bf) (asl:List RA):Prop where
 sQ:l.bQ.length≤1000000
 side: ∀ x∈l.bQ,0≤x.gu∧x.gu≤255
 sR:l.aC.length≤1000000
 mE:asl.length=l.aC.length
 sP:l.ai.length≤1000000
 UP: ∀ (k:Nat) m (a:RA),l.aC[k]? =some m→asl[k]? =some a→m.bo.length≤a.2∧m.bo.length≤1000000
noncomputable instance (l:bf):Decidable (fg l):=by unfold fg;infer_instance
noncomputable instance (l:bf) (b:df):Decidable (lj l b):=Classical.propDecidable _
theorem CM (h:fg l) (h2:∀ c∈l.aC,fD c) (h3:∀ b∈l.ai,lj l b) (h4:∀ i,i<l.ai.length→1≤mM l i):nz l:=⟨h,h2,h3,h4⟩
theorem HK:((!(l.aC.any fun m=> !decide (fD m)))=true)↔ ∀ c∈l.aC,fD c:=by simp
theorem LB:((!(l.ai.any fun b=> !decide (lj l b)))=true)↔ ∀ b∈l.ai,lj l b:=by simp
noncomputable def pk (l:bf) (i:Int):Int:=if dU l=0 then (if 0≤i∧i≤(l.ai.length:Int)-1 then 0 else 2) else dU l
noncomputable def tM (l:bf) (i:Int):Int:=if pk l i=0 then ew l i.toNat else 0
theorem xV {i:Int} (h:¬ dU l=0):pk l i=dU l∧tM l i=0:=by
 have e:pk l i=dU l:=c1 h;exact ⟨e,by unfold tM;rw [e,c1 h]⟩
theorem xj {i:Int} (h:dU l=0) (h2:¬ (0≤i∧i≤(l.ai.length:Int)-1)):pk l i=2∧tM l i=0:=by
 have e:pk l i=2:=by unfold pk;rw [c0 h,c1 h2]
 exact ⟨e,by unfold tM;rw [e];rfl⟩
theorem wi {i:Int} (h:dU l=0) (h2:0≤i∧i≤(l.ai.length:Int)-1):pk l i=0∧tM l i=ew l i.toNat:=by
 have e:pk l i=0:=by unfold pk;rw [c0 h,c0 h2]
 exact ⟨e,by unfold tM;rw [c0 e]⟩
theorem mC (h:fD c) {r x:Int} (h0:0≤x) (h1:x<86400001):
 (x<gT (iT c r) 86400001→iT c r x=false)∧(gT (iT c r) 86400001≤x→iT c r x=true)∧(x<gT (iS c r) 86400001→iS c r x=false)∧(gT (iS c r) 86400001≤x→iS c r x=true):=by
 have up: ∀ (q:Int→Bool),(∀ a b,0≤a→a≤b→b<86400001→q a=true→q b=true)→gT q 86400001≤x→q x=true:=fun q hq hx=>by
  have hb:=jG (p:=q) (n:=86400001);exact hq _ _ hb.1 hx h1 (LU I)
 refine ⟨BR h0,up _ fun a b ha A hb hq=>?_,BR h0,up _ fun a b ha A hb hq=>?_⟩
 ·have:=yB h ha A I;simp only [iT,r0] at hq ⊢;omega
 ·have:=yB h ha A I;simp only [iS,r0] at hq ⊢;omega
theorem zk {s:aR} {b:df} (hb:l.ai[s.fR.toNat]? =some b) (hc:l.aC[b.kD.toNat]? =some c):sw l s=c:=by
 unfold sw;rw [hb];simp only [r7];rw [hc];rfl
end
section
/-- the head at the next mark -/
def PQ (h lo fa ru dr we:Int):Int:=max 0 (max 0 (h-h*dr*lo/(100*we))+fa-ru*lo/100)
def gn (s:dx):Prop:=(1≤s.Class∧s.Class≤3)∧cQ s.Start 0 200000∧cQ s.NP 0 100∧cQ s.Ap 0 1000∧cQ s.Weight 50000 800000∧cQ s.Es (-500) 500
instance (s:dx):Decidable (gn s):=by unfold gn;infer_instance
theorem pT {b:Int} (h0:0≤a) (h:a≤b):10*a*a≤10*b*b:=by
 have A:=Int.mul_le_mul (show 10*a≤10*b by omega) h h0 I;exact A
def xH (h r:Int):Prop:=0≤r∧10*r*r≤1962*h∧1962*h<10*(r+1)*(r+1)
theorem Bs {r s:Int} (hr:xH h r) (hs:xH h s):r=s:=by
 obtain ⟨C,D,E⟩:=hr;obtain ⟨F,G,H⟩:=hs;rcases Int.lt_trichotomy r s with B|A|B
 ·have:=pT (a:=r+1) (b:=s) I I;omega
 ·exact A
 ·have:=pT (a:=s+1) (b:=r) I I;omega
theorem Cu (hh:0≤h): ∃ r,xH h r:=by
 obtain ⟨m,rfl⟩:=Int.eq_ofNat_of_zero_le hh;have key: ∀ k:Nat,(∃ r,xH (m:Int) r)∨10*(k:Int)*k≤1962*(m:Int):=by
  intro k
  induction k with
  |zero=>right;simp;omega
  |succ k ih=>
   rcases ih with A|A
   ·exact .inl A
   ·by_cases B:10*((k+1:Nat):Int)*((k+1:Nat):Int)≤1962*(m:Int)
    ·exact .inr B
    ·left;refine ⟨k,I,A,?_⟩;have e:((k+1:Nat):Int)=(k:Int)+1:=by omega
     rw [e] at B;omega
 rcases key (1962*m+1) with A|A
 ·exact A
 ·exfalso;have e:(((1962*m+1:Nat):Int))=1962*(m:Int)+1:=by omega
  rw [e] at A;have B:10*(1962*(m:Int)+1)*1≤10*(1962*(m:Int)+1)*(1962*(m:Int)+1):=Int.mul_le_mul (wt _) I I I;omega
noncomputable def kH (h:Int):Int:=if hh:0≤h then Classical.choose (Cu hh) else 0
theorem q7 (hh:0≤h):xH h (kH h):=by
 unfold kH;rw [dif_pos hh];exact Classical.choose_spec (Cu hh)
theorem Og {r:Int} (hh:0≤h) (hr:xH h r):kH h=r:=Bs (q7 hh) hr
theorem Ak (hh:0≤h) (h4:h≤400000):0≤kH h∧kH h≤9000:=by
 obtain ⟨B,D,_⟩:=q7 hh;refine ⟨B,?_⟩;rcases AAe 9000 (kH h) with C|A
 ·have:=pT (a:=9000) (b:=kH h) I I;omega
 ·exact A
noncomputable def qd (h:Int):Int:=if 10*kH h*kH h<1962*h then kH h+1 else kH h
theorem RE {x:Int} (hh:0≤h) (h0:0≤x) (hx:x<kH h+1):decide (1962*h<10*x*x)=false:=by
 obtain ⟨A,B,C⟩:=q7 hh;have:=pT (a:=x) (b:=kH h) h0 I;exact bg I
theorem QD {x:Int} (hh:0≤h) (hx:kH h+1≤x):decide (1962*h<10*x*x)=true:=by
 obtain ⟨A,B,C⟩:=q7 hh;have:=pT (a:=kH h+1) (b:=x) I hx;exact cR I
theorem FK (hh:0≤h) (h4:h≤400000):0≤qd h∧qd h≤9001:=by
 have:=Ak hh h4;unfold qd;split<;>omega
theorem SM {x:Int} (hh:0≤h) (h0:0≤x) (hx:x<qd h):decide (1962*h≤10*x*x)=false:=by
 obtain ⟨A,B,C⟩:=q7 hh;unfold qd at hx;refine bg ?_;split at hx
 ·have:=pT (a:=x) (b:=kH h) h0 I;omega
 ·have D:=Int.mul_lt_mul' (show 10*x≤10*kH h by omega) hx h0 I;omega
theorem Px {x:Int} (hh:0≤h) (hx:qd h≤x):decide (1962*h≤10*x*x)=true:=by
 obtain ⟨A,B,C⟩:=q7 hh;unfold qd at hx;refine cR ?_;split at hx
 ·have:=pT (a:=kH h+1) (b:=x) I hx;omega
 ·have:=pT (a:=kH h) (b:=x) A hx;omega
def l8 (best f:Bool) (s:aa):Int:=if best=f then s.Hi else s.Lo
def Jj (best:Bool) (s:dx) (x:ag) (h:Int):Int:=PQ h (l8 best false x.jd) (l8 best true x.kU) (l8 best false s.NP) (l8 best false s.Ap) (l8 best true s.Weight)
def fu (best:Bool) (s:dx) (ts:List ag):Nat→Int
 |0=>l8 best true s.Start
 |i+1=>match ts[i]? with
  |some x=>Jj best s x (fu best s ts i)
  |none=>fu best s ts i
def j6 (best:Bool) (s:dx) (ts:List ag):List Int:=(range (ts.length+1)).map (fu best s ts)
theorem kZ {f:Bool} {s:aa} {lo hi:Int} (h:cQ s lo hi):lo≤l8 best f s∧l8 best f s≤hi:=by
 obtain ⟨A,B,C⟩:=h;unfold l8;split<;>omega
theorem Gj {x:ag} (hx:ts[i]? =some x):fu best s ts (i+1)=Jj best s x (fu best s ts i):=by simp [fu,hx]
theorem Az (hs:gn s) (ht:∀ x∈ts,bW x): ∀ i:Nat,0≤fu best s ts i∧fu best s ts i≤200000+5000*(i:Int):=by
 intro i
 induction i with
 |zero=>have:=kZ (best:=best) (f:=true) hs.2.1;simp only [fu];omega
 |succ i ih=>
  simp only [fu];split
  ·rename_i x hx;have hm:=ht x (aF hx);have C:=kZ (best:=best) (f:=true) hm.2.2.1;have D:=kZ (best:=best) (f:=false) hm.2.1;have A:=kZ (best:=best) (f:=false) hs.2.2.1;have B:=kZ (best:=best) (f:=false) hs.2.2.2.1;have E:=kZ (best:=best) (f:=true) hs.2.2.2.2.1;have hq:0≤fu best s ts i*l8 best false s.Ap*l8 best false x.jd/(100*l8 best true s.Weight):=
    ACQ (ACW (ACW ih.1 B.1) I) I
   have hr:0≤l8 best false s.NP*l8 best false x.jd/100:=ACQ (ACW A.1 I) I;unfold Jj PQ;omega
  ·omega
/-- what the iterator of heads yields -/
def qc (best:Bool) (s:dx) (ts:List ag):List (List Value):=(range (ts.length+1)).map fun (i:Nat)=>[.int .i64 (i:Int),.int .i64 (fu best s ts i)]
theorem rz:(qc best s ts).length=ts.length+1:=by simp [qc]
theorem xJ (h:i≤ts.length):(qc best s ts)[i]? =some [.int .i64 (i:Int),.int .i64 (fu best s ts i)]:=by
 simp [qc,ABG (show i<ts.length+1 by omega)]
theorem Cj {x:List Value} (h:(qc best s ts)[i]? =some x):i≤ts.length∧x=[.int .i64 (i:Int),.int .i64 (fu best s ts i)]:=by
 have hi:i<ts.length+1:=by
  have:=(aT.1 h).1;simpa [qc] using this
 rw [xJ I] at h;exact ⟨I,(m3 h).symm⟩
theorem nU:(j6 best s ts).length=ts.length+1:=by simp [j6]
theorem AK (h:i≤ts.length):(j6 best s ts)[i]? =some (fu best s ts i):=by
 simp [j6,ABG (show i<ts.length+1 by omega)]
theorem Ed (h:i≤ts.length):(j6 best s ts).take (i+1)=(j6 best s ts).take i++[fu best s ts i]:=by
 rw [l1,AK h];rfl
theorem Lf (h:i≤ts.length) (h':ts.length≤i):(qc best s ts)[i]? =some [.int .i64 (ts.length:Int),.int .i64 (fu best s ts i)]:=by
 have e:i=ts.length:=by omega
 rw [xJ h,e]
theorem zA:(j6 best s ts).take (qc best s ts).length=j6 best s ts:=by
 rw [c5];rw [rz,nU];exact c9 _
theorem zY: ∀ x∈qc best s ts,x.length=2:=by
 intro x hx;simp only [qc,cu] at hx;obtain ⟨i,_,rfl⟩:=hx;rfl
def AS (s:dx) (ts:List ag) (i:Nat):aa:=⟨fu false s ts i,fu true s ts i⟩
def jc (s:dx) (ts:List ag):List aa:=(range (ts.length+1)).map (AS s ts)
theorem nX:(jc s ts).length=ts.length+1:=by simp [jc]
theorem Ay (h:i≤ts.length):(jc s ts)[i]? =some (AS s ts i):=by
 simp [jc,ABG (show i<ts.length+1 by omega)]
theorem Fb (h:i≤ts.length):(jc s ts).take (i+1)=(jc s ts).take i++[AS s ts i]:=by
 rw [l1,Ay h];rfl
theorem Ag:(jc s ts).take (qc false s ts).length=jc s ts:=by
 rw [c5];rw [rz,nX];exact c9 _
def jw (s:dx) (ts:List ag):Int:=if cD ts=true then (if gn s then 0 else 30) else 10
theorem BJ (h:cD ts=false):jw s ts=10:=by unfold jw;rw [h];rfl
theorem Ia (h:cD ts=true) (hs:¬ gn s):jw s ts=30:=by unfold jw;rw [c0 h,c1 hs]
theorem tx (h:cD ts=true) (hs:gn s):jw s ts=0:=by unfold jw;rw [c0 h,c0 hs]
theorem z6 (h:jw s ts=0):cD ts=true∧gn s:=by
 unfold jw at h;split at h
 ·split at h
  ·exact ⟨asm,asm⟩
  ·omega
 ·omega
def rN (s:dx) (ts:List ag):List aa:=if jw s ts=0 then jc s ts else []
theorem xK (h:cD ts=true) (hs:gn s):rN s ts=jc s ts:=by unfold rN;rw [c0 (tx h hs)]
theorem KB (h:¬ jw s ts=0):rN s ts=[]:=by unfold rN;rw [c1 h]
def vz (s:dx) (ts:List ag) (jB:Int):Int:=if jw s ts=0 then (if 0≤jB∧jB≤ts.length then 0 else 2) else jw s ts
noncomputable def xD (s:dx) (ts:List ag) (jB:Int):aa:=if jw s ts=0∧0≤jB∧jB≤ts.length then ⟨kH (fu false s ts jB.toNat),qd (fu true s ts jB.toNat)⟩ else ⟨0,0⟩
theorem oq {i:Int} (h:¬ jw s ts=0):xD s ts i=⟨0,0⟩∧vz s ts i=jw s ts:=⟨c1 (fun q=>h q.1),c1 h⟩
theorem mJ {i:Int} (h:jw s ts=0) (hi:¬ (0≤i∧i≤ts.length)):xD s ts i=⟨0,0⟩∧vz s ts i=2:=⟨c1 (fun q=>hi q.2),by unfold vz;rw [c0 h,c1 hi]⟩
theorem m6 {i:Int} (h:jw s ts=0) (hi:0≤i∧i≤ts.length):xD s ts i=⟨kH (fu false s ts i.toNat),qd (fu true s ts i.toNat)⟩∧vz s ts i=0:=⟨c0 ⟨h,hi⟩,by unfold vz;rw [c0 h,c0 hi]⟩
end
section
set_option maxRecDepth 20000
def OB:List ag:=[⟨1,⟨1000,1000⟩,⟨100,100⟩,⟨0,0⟩,0,0⟩]
def U3:dx:=⟨3,⟨50,50⟩,⟨0,0⟩,⟨0,0⟩,⟨60000,60000⟩,⟨0,0⟩⟩
def o9:List ag:=[⟨1,⟨1000,1000⟩,⟨0,0⟩,⟨0,0⟩,0,0⟩,⟨2,⟨1000,1000⟩,⟨0,0⟩,⟨0,0⟩,0,0⟩]
def ND:dx:=⟨1,⟨200,200⟩,⟨0,0⟩,⟨0,0⟩,⟨60000,60000⟩,⟨0,0⟩⟩
theorem Qs:cD OB=true:=by decide
theorem NJ:cD o9=true:=by decide
theorem T_:gn U3:=by decide
theorem Yp:gn ND:=by decide
theorem Qu: ∀ x∈OB,0≤x.gu∧x.gu≤255:=by intro x hx;simp only [OB,bI,h_,AAr] at hx;subst hx;simp
theorem zC: ∀ x∈o9,0≤x.gu∧x.gu≤255:=by intro x hx;simp only [o9,bI,h_,AAr] at hx;rcases hx with rfl|rfl<;>simp
theorem AR:jw U3 OB=0∧rN U3 OB=[(aa.mk 50 50),(aa.mk 150 150)]:=⟨tx Qs T_,by rw [xK Qs T_];decide⟩
theorem Ep:xD ND o9 1=(aa.mk 198 199)∧vz ND o9 1=0:=by
 have h:=m6 (i:=1) (tx NJ Yp) dc;have B:fu false ND o9 (1:Int).toNat=200:=by decide
 have C:fu true ND o9 (1:Int).toNat=200:=by decide
 have A:kH 200=198:=Og dc ⟨dc,dc,dc⟩;have D:qd 200=199:=by unfold qd;rw [A];decide
 rw [B,C,A,D] at h;exact h
def eJ (n:Nat):List df:=(range n).map fun (k:Nat)=>⟨⟨(k:Int)+1,⟨0,0⟩⟩,0⟩
def eP:aS:=⟨0,[⟨0,⟨0,0⟩⟩]⟩
def lu (ts:List ag) (f:Int):bf:=⟨ts,f,[eP],eJ (min (ts.length-1) 6),0,0,0⟩
section
variable {ts us:List ag} {n k:Nat} {f:Int}
theorem mG:(eJ n).length=n:=by simp [eJ]
theorem DX:eJ (n+1)=eJ n++[⟨⟨(n:Int)+1,⟨0,0⟩⟩,0⟩]:=by simp [eJ,AAV]
theorem Mu {a:RA} (h1:ts.length≤1000000) (h2: ∀ x∈ts,0≤x.gu∧x.gu≤255) (ha:1≤a.2):dX (lu ts f) [a]:=⟨h1,h2,by show (1:Nat)≤1000000;decide,rfl,by show (eJ _).length≤_;rw [mG];omega,fun k m b hm hb=>by
 have hk:k=0:=by
  have:=(aT.1 hb).1;simp only [ABQ] at this;omega
 subst hk;have A:eP=m:=m3 (show some eP=some m from hm);have B:a=b:=m3 (show some a=some b from hb);subst A B;exact ⟨ha,dc⟩⟩
end
theorem NL:fD eP:=⟨dc,dc,fun i x hx=>by
 have hi:=(aT.1 hx).1;have A:i=0:=by
  have:eP.bo.length=1:=rfl;omega
 subst A;have e:(⟨0,⟨0,0⟩⟩:cP)=x:=m3 (show some _=some x from hx);subst e;exact ⟨⟨by rw [gZ rfl];decide,dc⟩,dc,dc,dc⟩,fun i k x o hx hk ho=>by
 have hi:=(aT.1 hx).1;have:eP.bo.length=1:=rfl;omega⟩
theorem IT {f:Int}:mM (lu o9 f) 0=1000:=by rw [ye (show (lu o9 f).ai[0]? =some ⟨⟨1,⟨0,0⟩⟩,0⟩ from rfl)];rfl
theorem Vb:mM (lu o9 199) 0=1000:=IT
theorem Aa {f:Int} (hf:1≤f∧f≤5000):dU (lu o9 f)=0:=z5 NJ ⟨⟨hf,(show fg (lu o9 199) by unfold fg;decide).2⟩,fun c hc=>by rw [bU.1 (show c∈[eP] from hc)];exact NL,fun b hb=>by
 have A:b∈([⟨⟨1,⟨0,0⟩⟩,0⟩]:List df):=hb;rw [bU.1 A];exact ⟨⟨⟨dc,by show (1:Int)<(o9.length:Int);decide⟩,_,U,dc⟩,dc,by show (0:Int)<(([eP]:List aS).length:Int);decide⟩,fun i hi=>by
 have B:i=0:=by
  have:(lu o9 f).ai.length=1:=rfl;omega
 subst B;rw [IT];decide⟩
theorem IX:dU (lu o9 199)=0:=Aa dc
theorem Gm:tM (lu o9 199) 0=5026∧pk (lu o9 199) 0=0:=by
 have e:=wi (l:=lu o9 199) IX (i:=0) dc;refine ⟨?_,e.1⟩;rw [e.2];show ew (lu o9 199) 0=5026
 unfold ew;rw [Vb];decide
end
section
open Go.RowKit
set_option linter.unusedSectionVars false
/-- what is asked of keys -/
structure xo (P:Program) (kt:Nat) {K:Type} (kV:K→Value):Prop where
 check: ∀ (e:Bool) (x:K) (w:World),(Instr.checkKey e 10000 kt (kV x)).run P w= .ok () w
 find: ∀ (x:K) (w:World) (es:List MapEntry),(∀ e∈es,∃ k,e.key=kV k)→
  ((Instr.findKey kt (kV x) es).run P w= .ok none w∧ ∀ e∈es,e.key≠kV x)∨ ∃ j e,(Instr.findKey kt (kV x) es).run P w= .ok (some (j,e.val)) w∧es[j]? =some e∧e.key=kV x
 bits: ∀ x,Instr.sameBits 10000 (kV x) (kV x)=true
 inj: ∀ x y,kV x=kV y→x=y
section
variable {K:Type} [DecidableEq K] {kV:K→Value}
def d_ {β:Type} (l:List (K×β)) (x:K) (y:β):List (K×β):=if (l.lookup x).isSome then l.map (fun p=>if p.1=x then (x,y) else p) else l++[(x,y)]
def cJ {β:Type} (l:List (K×β)) (x:K):List (K×β):=l.filter fun p=> !decide (p.1=x)
def bS {β γ:Type} (f:β→γ) (l:List (K×β)):List (K×γ):=l.map fun p=>(p.1,f p.2)
theorem JW (f:β→γ) (l:List (K×β)):(bS f l).length=l.length:=by simp [bS]
theorem oQ {β γ:Type} (f:β→γ) (x:K): ∀ l:List (K×β),(bS f l).lookup x=(l.lookup x).map f
 |[]=>rfl
 |p::l=>by
  obtain ⟨k,v⟩:=p;have ih:=oQ f x l;by_cases h:x=k
  ·subst h;simp [bS,lookup]
  ·have:(x==k)=false:=by simpa using h
   simp only [bS,m2,lookup,this] at ih ⊢;exact ih
theorem gH (f:β→γ) (l:List (K×β)) (x:K) (y:β):bS f (d_ l x y)=d_ (bS f l) x (f y):=by
 unfold d_;rw [oQ,isSome_map];split
 ·simp only [bS,map_map];refine AB1 fun p _=>?_;simp only [Function.comp];split<;>rfl
 ·simp [bS]
theorem mA (f:β→γ) (l:List (K×β)) (x:K):bS f (cJ l x)=cJ (bS f l) x:=by
 unfold cJ bS;rw [List.filter_map];rfl
theorem ja {β:Type} {x:K}: ∀ {l:List (K×β)},l.lookup x=none↔ ∀ p∈l,p.1≠x
 |[]=>by simp
 |p::l=>by
  obtain ⟨k,v⟩:=p;by_cases h:x=k
  ·subst h;simp [lookup]
  ·have hb:(x==k)=false:=by simpa using h
   simp only [lookup,hb,bI,forall_eq_or_imp];rw [ja (l:=l)];exact ⟨fun q=>⟨fun e=>h e.symm,q⟩,fun q=>q.2⟩
theorem ko {β:Type} {x:K} {y:β}: ∀ {l:List (K×β)},(l.map (·.1)).Nodup→((x,y)∈l↔l.lookup x=some y)
 |[],_=>by simp
 |p::l,hn=>by
  obtain ⟨k,v⟩:=p;simp only [m2,AA2] at hn;by_cases h:x=k
  ·subst h;simp only [lookup,ABI,bI,p4,true_and,k4];constructor
   ·rintro (e|e)
    ·exact e.symm
    ·exact absurd (cu.2 ⟨_,e,U⟩) hn.1
   ·intro e;exact .inl e.symm
  ·have hb:(x==k)=false:=by simpa using h
   simp only [lookup,hb,bI,p4,h,false_and,false_or];exact ko hn.2
structure j4 (kV:K→Value) (es:Array MapEntry) (c:Nat) (m:List (K×Value)):Prop where
 list:es.toList.map (fun (e:MapEntry)=>(e.key,e.val))=m.map (fun p=>(kV p.1,p.2))
 keys:(m.map (·.1)).Nodup
 Vh: ∀ e∈es.toList,e.born<c
 born:(es.toList.map (·.born)).Nodup
def iu (kV:K→Value) (b:Nat) (m:List (K×Value)):au where
 fP k:=k=b
 wf k:=k=b
 holds w:= ∃ es c,w.heap[b]? =some (.map es c)∧j4 kV es c m
 wr:=true
 l7 _ h:=h
 whole _ _ h:=h
 lt w h k hk:=by obtain ⟨es,c,he,_⟩:=h;exact hk▸eG he
 qS w w' hk h:=by obtain ⟨es,c,he,hm⟩:=h;exact ⟨es,c,(hk b rfl).trans he,hm⟩
theorem j4.nil:j4 kV #[] 0 []:=⟨rfl,ABt,sm,ABt⟩
theorem j4.size {es:Array MapEntry} {c:Nat} {m:List (K×Value)} (h:j4 kV es c m):es.size=m.length:=by
 have:=c7 List.length h.list;simpa using this
theorem H8 {kt:Nat} (hk:xo P kt kV) (x:K): ∀ (es:List MapEntry) (m:List (K×Value)),es.map (fun (e:MapEntry)=>(e.key,e.val))=m.map (fun p=>(kV p.1,p.2))→
 ((∀ e∈es,e.key≠kV x)→m.lookup x=none)∧ ∀ (j:Nat) (e:MapEntry),es[j]? =some e→e.key=kV x→m[j]? =some (x,e.val):=by
 intro es m h;refine ⟨fun hn=>ja.2 fun p hp e=>?_,fun j e he hx=>?_⟩
 ·have:(kV p.1,p.2)∈es.map (fun (e:MapEntry)=>(e.key,e.val)):=by rw [h];exact cu.2 ⟨p,hp,rfl⟩
  obtain ⟨z,hz,B⟩:=cu.1 this;simp only [p4] at B;exact hn z hz (by rw [B.1,e])
 ·have A:(es.map (fun (e:MapEntry)=>(e.key,e.val)))[j]? =some (e.key,e.val):=by rw [gO,he];rfl
  rw [h,gO] at A;cases hm:m[j]? with
  |none=>simp [hm] at A
  |some p=>
   simp only [hm,AAA,k4,p4] at A;have:=hk.inj _ _ (A.1.trans hx);obtain ⟨k,v⟩:=p;simp only at this A;rw [this,A.2]
theorem qJ {w:World} {kt:Nat} {x:K} {es:Array MapEntry} {c:Nat} {m:List (K×Value)} (hk:xo P kt kV) (h:j4 kV es c m):
 ((Instr.findKey kt (kV x) es.toList).run P w= .ok none w∧m.lookup x=none)∨
 ∃ j v,(Instr.findKey kt (kV x) es.toList).run P w= .ok (some (j,v)) w∧m[j]? =some (x,v)∧m.lookup x=some v:=by
 obtain ⟨D,E⟩:=H8 hk x es.toList m h.list;rcases hk.find x w es.toList (fun e he=>by
  have:(e.key,e.val)∈m.map (fun p=>(kV p.1,p.2)):=by rw [← h.list];exact cu.2 ⟨e,he,rfl⟩
  obtain ⟨p,_,hp⟩:=cu.1 this;simp only [p4] at hp;exact ⟨p.1,hp.1.symm⟩) with ⟨A,B⟩|⟨j,e,A,B,C⟩
 ·exact .inl ⟨A,D B⟩
 ·have:=E j e B C;exact .inr ⟨j,e.val,A,this,(ko h.keys).1 (aF this)⟩
theorem jR {w:World} {kt:Nat} {x:K} (hk:xo P kt kV) (e:Bool):(Instr.checkKey e 10000 kt (kV x)).run P w= .ok () w:=hk.check e x w
section
variable {E:fJ} {ops:Array Oper} {Q:du} {rest:List Oper} {D:List Deferred} {L:List (Nat×Value)} {C:List au}
variable {dst:Option Tmp} {d:Nat} {ty:TypeId} {ps:String} {af:Array Edge} {g:Option (Nat×Bool)}
theorem lv {t:TypeId} (hg:kz ops L g=true) (hd:blt d E.n=true) (k: ∀ b,RJ E ops Q rest D ((d,.map (some b))::L) (iu kV b []::C)):RJ E ops Q (⟨some d,.makeMap t none,ty,ps,af,g⟩::rest) D L C:=by
 intro a w B hs;have hd':d<E.n:=by rw [← u7];exact hd
 unfold uJ;rw [c0 (eH B hg)];refine jr (v:= .map (some w.heap.size)) (w':=w.alloc (.map #[] 0)) sm ?_ ?_
 ·simp [execOp,Instr.makeMap,newObj,Sem.run]
 ·refine k _ _ _ (B.put hd' _) (hs.grow (ed.alloc no w _) (N:=[iu kV w.heap.size []]) ⟨fun A hA=>?_,fun A hA b hb=>?_,AAY _ _⟩)
  ·simp at hA;subst hA;exact ⟨#[],0,ACB w _,j4.nil⟩
  ·simp at hA;subst hA;exact ACJ (Eq.symm hb)
theorem j4.push {es:Array MapEntry} {c:Nat} {m:List (K×Value)} (h:j4 kV es c m) {x:K} (hx:m.lookup x=none) (v:Value):j4 kV (es.push {key:=kV x,val:=v,born:=c}) (c+1) (m++[(x,v)]):=by
 refine ⟨by simp [h.list],?_,?_,?_⟩
 ·rw [AAF,ABs];refine ⟨h.keys,sm,fun a ha b hb=>?_⟩;simp at hb;subst hb;obtain ⟨p,hp,rfl⟩:=cu.1 ha;exact ja.1 hx p hp
 ·intro e he;simp only [Array.toList_push,dZ,bU] at he;rcases he with he|rfl
  ·exact Nat.lt_succ_of_lt (h.Vh e he)
  ·exact ABb _
 ·simp only [Array.toList_push,AAF,m2,map_nil];rw [ABs];refine ⟨h.born,sm,fun a ha b hb=>?_⟩;simp at hb;subst hb;obtain ⟨p,hp,rfl⟩:=cu.1 ha;exact Nat.ne_of_lt (h.Vh p hp)
theorem Tq {m:List (K×Value)} {j:Nat} {x:K} (hn:(m.map (·.1)).Nodup) (hj:m[j]? =some (x,v0)):m.map (fun p=>if p.1=x then (x,v) else p)=m.set j (x,v):=by
 refine ABF fun i=>?_;rw [gO,AAO];by_cases e:j=i
 ·subst e;have hl:=(aT.1 hj).1;rw [hj];simp [hl]
 ·rw [c1 e];cases hi:m[i]? with
  |none=>rfl
  |some p=>
   simp only [AAA];rw [c1];intro hp;have B:(m.map (·.1))[i]? =some x:=by rw [gO,hi];simp [hp]
   have C:(m.map (·.1))[j]? =some x:=by rw [gO,hj];rfl
   have A:=(aT.1 B).1;exact e (((ACb A hn).1 (B.trans C.symm)).symm)
theorem j4.set {es:Array MapEntry} {c:Nat} {m:List (K×Value)} (h:j4 kV es c m) {x:K} {j:Nat} (hj:m[j]? =some (x,v0)) (hx:m.lookup x=some v0) (v:Value):
 j4 kV (es.modify j fun e=>{e with key:=kV x,val:=v}) c (d_ m x v):=by
 have C:d_ m x v=m.set j (x,v):=by unfold d_;rw [hx];simpa using Tq h.keys hj
 have hl:=(aT.1 hj).1;have E:=h.size;have A:j<es.size:=by omega
 have B:(es.modify j fun e=>{e with key:=kV x,val:=v}).toList=es.toList.set j {(es[j]) with key:=kV x,val:=v}:=by
  refine ABF fun i=>?_;rw [Array.getElem?_toList,Array.getElem?_modify,AAO];by_cases e:j=i
  ·subst e;simp [A]
  ·simp [e]
 have D:(es.toList.set j {(es[j]) with key:=kV x,val:=v}).map (·.born)=es.toList.map (·.born):=by
  rw [AAl];refine ABF fun i=>?_;rw [AAO];by_cases e:j=i
  ·subst e;simp [A]
  ·rw [c1 e]
 refine ⟨?_,?_,?_,?_⟩
 ·rw [B,C,AAl,AAl,h.list]
 ·rw [C,AAl];have:(m.map (·.1)).set j x=m.map (·.1):=by
   refine ABF fun i=>?_;rw [AAO];by_cases e:j=i
   ·subst e;simp [hl];simpa using (c7 Prod.fst ((aT.1 hj).2)).symm
   ·rw [c1 e]
  simp only [this];exact h.keys
 ·intro e he;rw [B] at he;have hb:e.born∈(es.toList.set j {(es[j]) with key:=kV x,val:=v}).map (·.born):=cu.2 ⟨e,he,rfl⟩;rw [D] at hb;obtain ⟨e',he',hq⟩:=cu.1 hb;rw [← hq];exact h.Vh e' he'
 ·rw [B,D];exact h.born
/-- m[x] = y -/
theorem iN {t:TypeId} {x:K} {m m':List (K×Value)} (i:Nat) (hg:kz ops L g=true) (hm:ev L xm=some (.map (some b))) (hk:ev L xk=some (kV x)) (hv:ev L xv=some v) (ht:E.P.underlying t=some (.map kt et)) (hkt:xo E.P kt kV) (hC:C[i]? =some (iu kV b m)) (hm':d_ m x v=m') (hC':C.set i (iu kV b m')=C') (k:RJ E ops Q rest D L C'):
 RJ E ops Q (⟨none,.mapUpdate t xm xk xv,ty,ps,af,g⟩::rest) D L C:=by
 subst hm' hC';intro a w A hs;unfold uJ;rw [c0 (eH A hg)];obtain ⟨es,c,he,hi⟩:=hs.holds _ (aF hC);have B:(getObj b).run E.P w= .ok (.map es c) w:=AAc he;rcases qJ (P:=E.P) (w:=w) (x:=x) hkt hi with ⟨AA,F⟩|⟨j,N,AA,F,J⟩
 ·refine uI (w':={w with heap:=w.heap.setIfInBounds b (.map (es.push {key:=kV x,val:=v,born:=c}) (c+1))}) sm ?_ ?_
  ·simp [execOp,A.ev hm,A.ev hk,A.ev hv,Instr.mapUpdate,k3 ht,B,jR hkt,AA,AA6 _ he]
  ·refine k _ _ ⟨A.defers,A.size,A.at_⟩ (hs.BP (b:=b) i hC U U (oX _) (fun _ h=>h) ⟨_,_,rp he,?_⟩);have:d_ m x v=m++[(x,v)]:=by unfold d_;rw [F];rfl
   rw [this];exact hi.push F v
 ·have M:=hi.size;have G:j<es.size:=by have:=(aT.1 F).1;omega
  have H:(es[j]).key=kV x:=by
   have:=c7 (fun l=>l[j]?) hi.list;simp [G,F] at this;exact this.1
  refine uI (w':={w with heap:=w.heap.setIfInBounds b (.map (es.modify j fun e=>{e with key:=kV x,val:=v}) c)}) sm ?_ ?_
  ·simp [execOp,A.ev hm,A.ev hk,A.ev hv,Instr.mapUpdate,k3 ht,B,jR hkt,AA,AA6 _ he,Instr.keyThatStays,G,H,hkt.bits x]
  ·exact k _ _ ⟨A.defers,A.size,A.at_⟩ (hs.BP (b:=b) i hC U U (oX _) (fun _ h=>h) ⟨_,_,rp he,hi.set F J v⟩)
theorem j4.del {es:Array MapEntry} {c:Nat} {m:List (K×Value)} (h:j4 kV es c m) {x:K} {j:Nat} (hj:m[j]? =some (x,v0)):j4 kV (es.eraseIdxIfInBounds j) c (cJ m x):=by
 have hl:=(aT.1 hj).1;have D:=h.size;have A:j<es.size:=by omega
 have B:(es.eraseIdxIfInBounds j).toList=es.toList.eraseIdx j:=by simp [Array.eraseIdxIfInBounds,A]
 have E:cJ m x=m.eraseIdx j:=by
  have hn:=h.keys;clear h D A B
  induction m generalizing j with
  |nil=>simp at hj
  |cons p m ih=>
   obtain ⟨k,v⟩:=p;simp only [m2,AA2] at hn;cases j with
   |zero=>
    simp at hj;obtain ⟨rfl,rfl⟩:=hj;simp only [cJ,List.eraseIdx_zero,List.tail_cons];rw [AAj sm];refine ABi.2 fun p hp=>?_;have:p.1≠k:=fun e=>hn.1 (cu.2 ⟨p,hp,e⟩);simpa using this
   |succ j=>
    simp only [List.getElem?_cons_succ] at hj;have C:k≠x:=fun e=>hn.1 (cu.2 ⟨_,aF hj,e.symm⟩);simp only [cJ,List.eraseIdx_cons_succ] at ih ⊢;rw [AAi (by simpa using C),ih hj (by simpa using (aT.1 hj).1) hn.2]
 have sub:(es.eraseIdxIfInBounds j).toList.Sublist es.toList:=by rw [B];exact List.eraseIdx_sublist _ _
 refine ⟨?_,?_,fun e he=>h.Vh e (sub.subset he),h.born.sublist (sub.map _)⟩
 ·rw [B,E,ChangeMaps.map_eraseIdx,ChangeMaps.map_eraseIdx,h.list]
 ·rw [E];exact h.keys.sublist ((List.eraseIdx_sublist _ _).map _)
theorem GA {m:List (K×Value)} {x:K} (h:m.lookup x=none):cJ m x=m:=ABi.2 fun p hp=>by simpa using ja.1 h p hp
/-- y, ok := m[x] -/
theorem Ql {t:TypeId} {x:K} {z:Value} {m:List (K×Value)} (hg:kz ops L g=true) (hm:ev L xm=some (.map (some b))) (hk:ev L xk=some (kV x)) (ht:E.P.underlying t=some (.map kt et)) (hkt:xo E.P kt kV) (hz:tV E.P et=some z) (hC:ig C (iu kV b m).holds):
 SD E ops ⟨dst,.lookup t xm xk true,ty,ps,af,g⟩ D L C (.tuple [(m.lookup x).getD z,.bool (m.lookup x).isSome].toArray):=
 eo hg sm fun a w A hs=>by
  obtain ⟨es,c,he,hi⟩:=hs.has hC;have B:(getObj b).run E.P w= .ok (.map es c) w:=AAc he;rcases qJ (P:=E.P) (w:=w) (x:=x) hkt hi with ⟨F,G⟩|⟨j,AA,F,G,H⟩
  ·simp [execOp,Instr.lookup,A.ev hm,A.ev hk,k3 ht,B,jR hkt,F,G,PT hz]
  ·simp [execOp,Instr.lookup,A.ev hm,A.ev hk,k3 ht,B,jR hkt,F,H]
/-- m[x] -/
theorem Mh {t:TypeId} {x:K} {z:Value} {m:List (K×Value)} (hg:kz ops L g=true) (hm:ev L xm=some (.map (some b))) (hk:ev L xk=some (kV x)) (ht:E.P.underlying t=some (.map kt et)) (hkt:xo E.P kt kV) (hz:tV E.P et=some z) (hC:ig C (iu kV b m).holds):
 SD E ops ⟨dst,.lookup t xm xk false,ty,ps,af,g⟩ D L C ((m.lookup x).getD z):=
 eo hg sm fun a w A hs=>by
  obtain ⟨es,c,he,hi⟩:=hs.has hC;have B:(getObj b).run E.P w= .ok (.map es c) w:=AAc he;rcases qJ (P:=E.P) (w:=w) (x:=x) hkt hi with ⟨F,G⟩|⟨j,AA,F,G,H⟩
  ·simp [execOp,Instr.lookup,A.ev hm,A.ev hk,k3 ht,B,jR hkt,F,G,PT hz]
  ·simp [execOp,Instr.lookup,A.ev hm,A.ev hk,k3 ht,B,jR hkt,F,H]
/-- len(m) -/
theorem QH {t:TypeId} {m:List (K×Value)} (hg:kz ops L g=true) (hm:ev L xm=some (.map (some b))) (ht:E.P.underlying t=some (.map kt et)) (hC:ig C (iu kV b m).holds):
 SD E ops ⟨dst,.call {callee:= .builtin .len,args:= #[xm],argTypes:= #[t]},ty,ps,af,g⟩ D L C (.int .i64 (m.length:Int)):=
 eo hg sm fun a w B hs=>by
  obtain ⟨es,c,he,hi⟩:=hs.has hC;have A:(getObj b).run E.P w= .ok (.map es c) w:=AAc he;simp [execOp,resolve,invoke,builtin,B.ev hm,Builtin.len_,k3 ht,A,hi.size,goInt]
theorem rQ {t:TypeId} {x:K} {f:β→Value} {z:β} {l:List (K×β)} (hg:kz ops L g=true) (hm:ev L xm=some (.map (some b))) (hk:ev L xk=some (kV x)) (ht:E.P.underlying t=some (.map kt et)) (hkt:xo E.P kt kV) (hz:tV E.P et=some (f z)) (hC:ig C (iu kV b (bS f l)).holds):
 SD E ops ⟨dst,.lookup t xm xk true,ty,ps,af,g⟩ D L C (.tuple [f ((l.lookup x).getD z),.bool (l.lookup x).isSome].toArray):=by
 have:=Ql (dst:=dst) (ty:=ty) (ps:=ps) (af:=af) (D:=D) hg hm hk ht hkt hz hC;rw [oQ] at this;have A:((l.lookup x).map f).getD (f z)=f ((l.lookup x).getD z):=by cases l.lookup x<;>rfl
 rw [A,isSome_map] at this;exact this
theorem mF {t:TypeId} {x:K} {f:β→Value} {z:β} {l:List (K×β)} (hg:kz ops L g=true) (hm:ev L xm=some (.map (some b))) (hk:ev L xk=some (kV x)) (ht:E.P.underlying t=some (.map kt et)) (hkt:xo E.P kt kV) (hz:tV E.P et=some (f z)) (hC:ig C (iu kV b (bS f l)).holds):
 SD E ops ⟨dst,.lookup t xm xk false,ty,ps,af,g⟩ D L C (f ((l.lookup x).getD z)):=by
 have:=Mh (dst:=dst) (ty:=ty) (ps:=ps) (af:=af) (D:=D) hg hm hk ht hkt hz hC;rw [oQ] at this;have A:((l.lookup x).map f).getD (f z)=f ((l.lookup x).getD z):=by cases l.lookup x<;>rfl
 rw [A] at this;exact this
theorem HC {t:TypeId} {f:β→Value} {l:List (K×β)} (hg:kz ops L g=true) (hm:ev L xm=some (.map (some b))) (ht:E.P.underlying t=some (.map kt et)) (hC:ig C (iu kV b (bS f l)).holds):
 SD E ops ⟨dst,.call {callee:= .builtin .len,args:= #[xm],argTypes:= #[t]},ty,ps,af,g⟩ D L C (.int .i64 (l.length:Int)):=by
 have:=QH (dst:=dst) (ty:=ty) (ps:=ps) (af:=af) (D:=D) hg hm ht hC
 rwa [JW] at this
end
theorem e9 {x:K} {y:β} {l:List (K×β)} (h:(x,y)∈l):(cJ l x).length<l.length:=by
 unfold cJ;exact ABz.2 ⟨_,h,sm⟩
theorem lP {x:K} {p:K×β} {l:List (K×β)}:p∈cJ l x↔p∈l∧p.1≠x:=by simp [cJ]
/-- an iterator over a map: what is left; what came last -/
def CS (kV:K→Value) (r b:Nat) (m left:List (K×Value)) (cur:Option (K×Value)):au where
 fP k:=k=r∨k=b
 wf k:=k=r∨k=b
 holds w:=r≠b∧ ∃ (es:Array MapEntry) (c since:Nat) (seen:Array Nat) (st:Nat),w.heap[b]? =some (.map es c)∧j4 kV es c m∧w.heap[r]? =some (.mapIter (some b) since seen st)∧(∀ e∈es.toList,e.born<since)∧since≤st∧since≤c∧
  (leftOf es seen).toList.map (fun (e:MapEntry)=>(e.key,e.val))=left.map (fun p=>(kV p.1,p.2))∧
  ∀ p,cur=some p→ ∃ (e:MapEntry) (seen0:Array Nat),e∈es.toList∧seen=seen0.push e.born∧st=c∧e.key=kV p.1∧e.val=p.2
 wr:=true
 l7 _ h:=h
 whole _ _ h:=h
 lt w h k hk:=by
  obtain ⟨_,es,c,since,seen,st,h1,_,h2,_⟩:=h
  rcases hk with rfl|rfl
  ·exact eG h2
  ·exact eG h1
 qS w w' hk h:=by
  obtain ⟨hne,es,c,since,seen,st,h1,h2,h3,h4⟩:=h
  exact ⟨hne,es,c,since,seen,st,(hk b (.inr rfl)).trans h1,h2,(hk r (.inl rfl)).trans h3,h4⟩
theorem zR {r:Nat} {m left:List (K×Value)} {cur:Option (K×Value)}:(∀ w,(CS kV r b m left cur).holds w→(CS kV r b m left none).holds w)∧(∀ k,(CS kV r b m left none).fP k→(CS kV r b m left cur).fP k)∧ ∀ k,(CS kV r b m left none).wf k→(CS kV r b m left cur).wf k:=
 ⟨fun w h=>by
  obtain ⟨A,es,c,since,seen,st,B,C,D,E,F,h5',G,_⟩:=h;exact ⟨A,es,c,since,seen,st,B,C,D,E,F,h5',G,fun p hp=>by cases hp⟩,fun _ h=>h,fun _ h=>h⟩
theorem ME {r:Nat} {m left:List (K×Value)} {cur:Option (K×Value)}:(∀ w,(CS kV r b m left cur).holds w→(iu kV b m).holds w)∧(∀ k,(iu kV b m).fP k→(CS kV r b m left cur).fP k)∧ ∀ k,(iu kV b m).wf k→(CS kV r b m left cur).wf k:=
 ⟨fun w h=>by
  obtain ⟨C,es,c,since,seen,st,A,B,_⟩:=h;exact ⟨es,c,A,B⟩,fun _ h=> .inr h,fun _ h=> .inr h⟩
theorem FF {es:Array MapEntry} {c:Nat} {m:List (K×Value)} (hinj: ∀ x y,kV x=kV y→x=y) (hi:j4 kV es c m) {x y:MapEntry} (hx:x∈es.toList) (hy:y∈es.toList) (e:x.key=y.key):x=y:=by
 have hk:(es.toList.map (·.key))=(m.map (·.1)).map kV:=by
  have:=c7 (List.map Prod.fst) hi.list;simpa [ABU] using this
 have h:(es.toList.map (·.key)).Nodup:=by
  rw [hk,s5,AAK];exact hi.keys.imp (fun B he=>B (hinj _ _ he))
 obtain ⟨i,A⟩:=s3 hx;obtain ⟨j,hj⟩:=s3 hy;have C:(es.toList.map (·.key))[i]? =some x.key:=by rw [gO,A];rfl
 have D:(es.toList.map (·.key))[j]? =some x.key:=by rw [gO,hj,e];rfl
 have E:=(ACb (aT.1 C).1 h).1 (C.trans D.symm);subst E;exact m3 (A.symm.trans hj)
section
variable {E:fJ} {ops:Array Oper} {Q:du} {rest:List Oper} {D:List Deferred} {L:List (Nat×Value)} {C:List au}
variable {dst:Option Tmp} {d:Nat} {ty:TypeId} {ps:String} {af:Array Edge} {g:Option (Nat×Bool)}
theorem yb {t:TypeId} {m:List (K×Value)} (i:Nat) (hg:kz ops L g=true) (hm:ev L xm=some (.map (some b))) (ht:E.P.underlying t=some (.map kt et)) (hC:C[i]? =some (iu kV b m)) (hd:blt d E.n=true) (k:∀ r,RJ E ops Q rest D ((d,.pointer (some ⟨r,0,none⟩))::L) (C.set i (CS kV r b m m none))):RJ E ops Q (⟨some d,.range t xm,ty,ps,af,g⟩::rest) D L C:=by
 intro a w A hs;have hd':d<E.n:=by rw [← u7];exact hd
 unfold uJ;rw [c0 (eH A hg)];obtain ⟨es,c,he,hi⟩:=hs.holds _ (aF hC);have F:b<w.heap.size:=eG he;have B:(getObj b).run E.P w= .ok (.map es c) w:=AAc he;refine jr (v:= .pointer (some ⟨w.heap.size,0,none⟩)) (w':=w.alloc (.mapIter (some b) c #[] c)) sm ?_ ?_
 ·simp [execOp,Instr.range,A.ev hm,k3 ht,B,newObj,Sem.run]
 ·refine k _ _ _ (A.put hd' _) (hs.mv i hC ⟨⟨I,es,c,c,#[],c,?_,hi,ACB w _,hi.Vh,c9 _,c9 _,?_,fun p hp=>by cases hp⟩,ed.alloc _ w _,fun q hq=>?_,fun q hq=>?_⟩)
  ·rw [ABe w _ b F];exact he
  ·have:leftOf es #[]=es:=by unfold leftOf;exact Array.filter_eq_self.2 sm
   rw [this];exact hi.list
  ·rcases hq with rfl|rfl
   ·exact .inr (c9 _)
   ·exact .inl U
  ·rcases hq with rfl|rfl
   ·exact .inr (c9 _)
   ·exact .inl U
theorem AM {es:Array MapEntry} {c:Nat} {m left:List (K×Value)} {seen:Array Nat} (hinj: ∀ x y,kV x=kV y→x=y) (hi:j4 kV es c m) (h:(leftOf es seen).toList.map (fun (e:MapEntry)=>(e.key,e.val))=left.map (fun p=>(kV p.1,p.2))):(left.map (·.1)).Nodup:=by
 have B:((leftOf es seen).toList.map (·.key)).Sublist (es.toList.map (·.key)):=by
  unfold leftOf;rw [AA4];exact AA3.map _
 have D:(es.toList.map (·.key))=(m.map (·.1)).map kV:=by
  have:=c7 (List.map Prod.fst) hi.list;simpa [ABU] using this
 have E:((leftOf es seen).toList.map (·.key))=(left.map (·.1)).map kV:=by
  have:=c7 (List.map Prod.fst) h;simpa [ABU] using this
 rw [D,E] at B;have F:((m.map (·.1)).map kV).Nodup:=by
  rw [s5,AAK];exact hi.keys.imp (fun A he=>A (hinj _ _ he))
 have C:=F.sublist B;rw [s5,AAK] at C;rw [s5];exact C.imp (fun A he=>A (by rw [he]))
theorem Qk (hinj:∀ x y,kV x=kV y→x=y) {r:Nat} {m left:List (K×Value)} {cur:Option (K×Value)} (i:Nat) (hg:kz ops L g=true) (hm:ev L xi=some (.pointer (some ⟨r,0,none⟩))) (hC:C[i]? =some (CS kV r b m left cur)) (hd:blt d E.n=true) (k0:left=[]→RJ E ops Q rest D ((d,.tuple [.bool false].toArray)::L) C) (k1:∀ x v,(x,v)∈left→(left.map (·.1)).Nodup→RJ E ops Q rest D ((d,.tuple [.bool true,kV x,v].toArray)::L) (C.set i (CS kV r b m (cJ left x) (some (x,v))))):
 RJ E ops Q (⟨some d,.next xi false,ty,ps,af,g⟩::rest) D L C:=by
 intro a w G hs;have hd':d<E.n:=by rw [← u7];exact hd
 unfold uJ;rw [c0 (eH G hg)];obtain ⟨R,es,c,since,seen,st,X,hi,Y,J,V,M,A,_⟩:=hs.holds _ (aF hC);rcases run_next_at (P:=E.P) w ty r b since st seen es c Y X J V with ⟨Z,hr⟩|⟨e,he,N,H,hr⟩
 ·refine jr (v:= .tuple #[.bool false]) (w':=w) sm ?_ ?_
  ·simp [execOp,G.ev hm,hr]
  ·refine k0 ?_ _ _ (G.put hd' _) hs;have:(leftOf es seen).toList=[]:=by rw [← ABk,ABH];exact Z
   rw [this] at A;exact ABh.1 A.symm
 ·have O:(e.key,e.val)∈left.map (fun p=>(kV p.1,p.2)):=by rw [← A];exact cu.2 ⟨e,he,rfl⟩
  obtain ⟨p,hp,S⟩:=cu.1 O;obtain ⟨x,v⟩:=p;simp only [p4] at S;obtain ⟨hk,hv⟩:=S;refine jr (v:= .tuple #[.bool true,e.key,e.val]) (w':=ChangeMaps.setBlock N r (.mapIter (some b) since (seen.push e.born) c)) sm ?_ ?_
  ·simp [execOp,G.ev hm,hr]
  ·rw [← hk,← hv];have AA:=AM hinj hi A;have F:e∈es.toList:=by unfold leftOf at he;rw [AA4] at he;exact (n3.1 he).1
   have f:c=c:=rfl;have B:N.heap=w.heap:=by rcases H with rfl|rfl<;>rfl
   refine k1 x v hp AA _ _ (G.put hd' _) (hs.mv i hC ⟨⟨R,es,c,since,seen.push e.born,c,?_,hi,?_,J,M,M,?_,fun q hq=>?_⟩,?_,fun q hq=> .inl hq,fun q hq=> .inl hq⟩)
   ·show (N.heap.setIfInBounds r _)[b]? =_
    rw [e5 R,B];exact X
   ·show (N.heap.setIfInBounds r _)[r]? =_
    rw [c8 (by rw [B];exact eG Y)]
   ·have T:leftOf es (seen.push e.born)=(leftOf es seen).filter (fun z=> !(z.born==e.born)):=by
     unfold leftOf;rw [Array.filter_filter];congr 1;funext z;simp only [Array.contains_push,Bool.not_or];rw [Bool.and_comm]
    rw [T,AA4];have key: ∀ (l:List MapEntry) (ll:List (K×Value)),(∀ z∈l,z∈es.toList)→l.map (fun (e:MapEntry)=>(e.key,e.val))=ll.map (fun p=>(kV p.1,p.2))→
     (l.filter (fun z=> !(z.born==e.born))).map (fun (e:MapEntry)=>(e.key,e.val))=(cJ ll x).map (fun p=>(kV p.1,p.2)):=by
     intro l
     induction l with
     |nil=>intro ll _ h;cases ll with
      |nil=>rfl
      |cons p ll=>simp at h
     |cons z l ih=>
      intro ll hz h;cases ll with
      |nil=>simp at h
      |cons p ll=>
       simp only [m2,ABo,p4] at h;have ih':=ih ll (fun y hy=>hz y (by simp [hy])) h.2;have AB:(z.born=e.born)↔(p.1=x):=by
        constructor
        ·intro hb;have:z=e:=Gs hi.born (hz z sm) F hb;rw [this] at h;have:=h.1.1.symm.trans hk.symm;exact hinj _ _ this
        ·intro hx;have W:z.key=e.key:=by rw [h.1.1,hx,hk]
         rw [FF hinj hi (hz z sm) F W]
       unfold cJ at ih' ⊢;by_cases hx:p.1=x
       ·rw [AAj (by simp [AB.2 hx]),AAj (by simp [hx])];exact ih'
       ·rw [AAi (by simpa using fun hb=>hx (AB.1 hb)),AAi (by simpa using hx)];simp only [m2,h.1.1,h.1.2,ih']
    exact key _ _ (fun z hz=>by unfold leftOf at hz;rw [AA4] at hz;exact (n3.1 hz).1) A
   ·cases hq;exact ⟨e,seen,F,U,U,hk.symm,hv.symm⟩
   ·refine ⟨?_,?_,?_,?_,fun q hq hn=>?_⟩
    ·rcases H with rfl|rfl<;>rfl
    ·rcases H with rfl|rfl<;>rfl
    ·rcases H with rfl|rfl<;>rfl
    ·show w.heap.size≤(N.heap.setIfInBounds r _).size
     simp [B]
    ·show (N.heap.setIfInBounds r _)[q]? =_
     rw [e5 (fun e=>hn (.inl e.symm)),B]
theorem ve {r:Nat} {m left:List (K×Value)} {x:K} (i:Nat) (hg:kz ops L g=true) (hm:ev L xi=some (.pointer (some ⟨r,0,none⟩))) (hC:C[i]? =some (CS kV r b m left (some (x,v)))):
 SD E ops ⟨dst,.entry xi,ty,ps,af,g⟩ D L C (.tuple [kV x,v].toArray):=
 eo hg sm fun a w F hs=>by
  obtain ⟨N,es,c,since,seen,st,J,hi,M,H,O,AA,G,B⟩:=hs.holds _ (aF hC);obtain ⟨e,A,he,rfl,rfl,hk,hv⟩:=B _ rfl;have:=run_entry_at (P:=E.P) w r b since A es st e M J he hi.born;simp [execOp,F.ev hm,this,hk,hv]
theorem vg (hinj:∀ x y,kV x=kV y→x=y) {f:β→Value} {r:Nat} {m:List (K×Value)} {ll:List (K×β)} {cur:Option (K×Value)} (i:Nat) (hg:kz ops L g=true) (hm:ev L xi=some (.pointer (some ⟨r,0,none⟩))) (hC:C[i]? =some (CS kV r b m (bS f ll) cur)) (hd:blt d E.n=true) (k0:ll=[]→RJ E ops Q rest D ((d,.tuple [.bool false].toArray)::L) C) (k1:∀ x y,(x,y)∈ll→(ll.map (·.1)).Nodup→RJ E ops Q rest D ((d,.tuple [.bool true,kV x,f y].toArray)::L) (C.set i (CS kV r b m (bS f (cJ ll x)) (some (x,f y))))):
 RJ E ops Q (⟨some d,.next xi false,ty,ps,af,g⟩::rest) D L C:=by
 refine Qk hinj i hg hm hC hd (fun h=>k0 (ABh.1 h)) (fun x v B hn=>?_);obtain ⟨p,hp,A⟩:=cu.1 B;simp only [p4] at A;obtain ⟨rfl,rfl⟩:=A;have:=k1 p.1 p.2 hp (by simpa [bS,ABU] using hn)
 rwa [mA] at this
end
end
end
section
structure cw where
 Start:Int
 hP:Int
 sJ:List Int
 BD:List (List (Int×aa))
 dp:Int
 eZ:Int
 aab:Int
def cw.n (w:cw):Nat:=w.sJ.length
def gU (s:Int):aI:=if s<0 then ⟨0,1⟩ else ⟨1,0⟩
def dY (a b:aI):aI:=⟨a.right+b.right,a.fH+b.fH⟩
def za (w:cw) (b:Nat):List (Int×aa):=(w.BD[b]?).getD []
def kW (w:cw) (b:Nat):List (Int×aa):=(-1,⟨w.Start,w.hP⟩)::za w b
def cW (w:cw) (b:Nat):Int:=(w.sJ[b]?).getD 0
def oG (w:cw) (b:Nat) (p:aI×Int) (o:Int×aa):Option (aI×Int):=if max (p.2+cW w b) o.2.Lo≤min o.2.Hi w.hP then some (dY p.1 (gU o.1),max (p.2+cW w b) o.2.Lo) else none
def sv (w:cw):Nat→List (aI×Int)
 |0=>[(⟨0,0⟩,w.Start)]
 |b+1=>(sv w b).flatMap fun p=>(kW w b).filterMap (oG w b p)
def rh (w:cw) (b:Nat) (p:aI×Int) (o:Int×aa):Option (aI×Int):=if o.2.Lo≤min p.2 o.2.Hi then some (dY p.1 (gU o.1),min p.2 o.2.Hi-cW w b) else none
def Ts (w:cw):Nat→List (aI×Int)
 |0=>[(⟨0,0⟩,w.hP)]
 |k+1=>(⟨0,0⟩,w.hP)::(Ts w k).flatMap fun p=>(kW w (w.n-(k+1))).filterMap (rh w (w.n-(k+1)) p)
def back (w:cw) (b:Nat):List (aI×Int):=Ts w (w.n-b)
def oF (w:cw) (t:aI):Bool:=decide (t.fH≤w.dp∧w.aab-t.right≤w.eZ)
theorem lQ {w:cw}:q∈sv w (b+1)↔ ∃ p∈sv w b,∃ o∈kW w b,oG w b p o=some q:=by
 simp only [sv,AAx,AAD]
theorem xM {w:cw} (h:w.n≤b):back w b=[(⟨0,0⟩,w.hP)]:=by
 unfold back;rw [Nat.sub_eq_zero_of_le h];rfl
theorem qC {w:cw} (h:b<w.n):q∈back w b↔q=(⟨0,0⟩,w.hP)∨ ∃ p∈back w (b+1),∃ o∈kW w b,rh w b p o=some q:=by
 unfold back;have e:w.n-b=(w.n-(b+1))+1:=by omega
 rw [e];simp only [Ts,bI,AAx,AAD];rw [show w.n-(w.n-(b+1)+1)=b by omega]
def wT (m c:List (aI×Int)):Prop:=(∀ t v,m.lookup t=some v→(t,v)∈c)∧ ∀ t y,(t,y)∈c→ ∃ v,m.lookup t=some v∧v≤y
def yu (m c:List (aI×Int)):Prop:=(∀ t v,m.lookup t=some v→(t,v)∈c)∧ ∀ t y,(t,y)∈c→ ∃ v,m.lookup t=some v∧y≤v
def yr (m c:List (aI×Int)):Prop:= ∀ t v,m.lookup t=some v→(t,v)∈c
theorem nc {K:Type} [DecidableEq K] {m:List (K×β)} {x t:K} {y:β}:(d_ m x y).lookup t=if t=x then some y else m.lookup t:=by
 unfold d_;by_cases hx:(m.lookup x).isSome
 ·rw [c0 hx];have key: ∀ l:List (K×β),(l.lookup x).isSome∨True→(l.map (fun p=>if p.1=x then (x,y) else p)).lookup t=if t=x then (if (l.lookup x).isSome then some y else none) else l.lookup t:=by
   intro l _
   induction l with
   |nil=>simp
   |cons p l ih=>
    obtain ⟨k,v⟩:=p;have ih:=ih (.inr trivial);by_cases hk:k=x
    ·subst hk;by_cases ht:t=k
     ·subst ht;simp [lookup]
     ·have:(t==k)=false:=by simpa using ht
      simp only [m2,ACd,lookup,this,ih,c1 ht]
    ·have hk':(x==k)=false:=by simpa using fun e=>hk e.symm
     by_cases ht:t=k
     ·subst ht;simp [lookup,hk]
     ·have A:(t==k)=false:=by simpa using ht
      simp only [m2,c1 hk,lookup,A,ih,hk']
  rw [key m (.inr trivial)];by_cases ht:t=x
  ·subst ht;rw [c0 rfl,c0 rfl,c0 hx]
  ·rw [c1 ht,c1 ht]
 ·rw [c1 hx];have hn:m.lookup x=none:=by cases h0:m.lookup x with
   |none=>rfl
   |some v=>exact absurd (by rw [h0];rfl) hx
  by_cases ht:t=x
  ·subst ht;rw [c0 rfl];have:=ja.1 hn;clear hn hx
   induction m with
   |nil=>simp
   |cons p m ih=>
    obtain ⟨k,v⟩:=p;have hk:(t==k)=false:=by simpa using fun e=>this (k,v) sm e.symm
    simp only [AAX,lookup,hk];exact ih (fun q hq=>this q (dk _ hq))
  ·rw [c1 ht];clear hn hx
   induction m with
   |nil=>
    have:(t==x)=false:=by simpa using ht
    simp [lookup,this]
   |cons p m ih=>
    obtain ⟨k,v⟩:=p;by_cases hk:t=k
    ·subst hk;simp [lookup]
    ·have:(t==k)=false:=by simpa using hk
     simp only [AAX,lookup,this];exact ih
/-- what a map is after a try -/
def rq (m:List (aI×Int)) (q:aI×Int):List (aI×Int):=match m.lookup q.1 with
 |none=>d_ m q.1 q.2
 |some v=>if q.2<v then d_ m q.1 q.2 else m
def rm (m:List (aI×Int)) (q:aI×Int):List (aI×Int):=match m.lookup q.1 with
 |none=>d_ m q.1 q.2
 |some v=>if v<q.2 then d_ m q.1 q.2 else m
theorem zB {t:aI}:(rq m q).lookup t=if t=q.1 then some (match m.lookup q.1 with |none=>q.2|some v=>min q.2 v) else m.lookup t:=by
 unfold rq;cases h:m.lookup q.1 with
 |none=>simp only;rw [nc]
 |some v=>
  simp only;split
  ·rename_i A;rw [nc,Int.min_eq_left I]
  ·rename_i A;split
   ·rename_i e;subst e;rw [h,Int.min_eq_right I]
   ·rfl
theorem zr {t:aI}:(rm m q).lookup t=if t=q.1 then some (match m.lookup q.1 with |none=>q.2|some v=>max q.2 v) else m.lookup t:=by
 unfold rm;cases h:m.lookup q.1 with
 |none=>simp only;rw [nc]
 |some v=>
  simp only;split
  ·rename_i A;rw [nc,Int.max_eq_left I]
  ·rename_i A;split
   ·rename_i e;subst e;rw [h,ACh I]
   ·rfl
def zV (m m':List (aI×Int)):Prop:= ∀ t v,m.lookup t=some v→ ∃ v',m'.lookup t=some v'∧v'≤v
def Al (m m':List (aI×Int)):Prop:= ∀ t v,m.lookup t=some v→ ∃ v',m'.lookup t=some v'∧v≤v'
variable (m:List (aI×Int))
theorem zV.refl:zV m m:=fun t v h=>⟨v,h,I⟩
theorem Al.refl:Al m m:=fun t v h=>⟨v,h,I⟩
theorem yl {m:List (aI×Int)}:zV m (rq m q):=fun t v h=>by
 rw [zB];split
 ·rename_i e;subst e;rw [h];exact ⟨_,rfl,by simp only;omega⟩
 ·exact ⟨v,h,I⟩
theorem sS {m:List (aI×Int)}:Al m (rm m q):=fun t v h=>by
 rw [zr];split
 ·rename_i e;subst e;rw [h];exact ⟨_,rfl,by simp only;omega⟩
 ·exact ⟨v,h,I⟩
theorem KP {m c:List (aI×Int)} (h:yr m c) (hq:q∈c):yr (rq m q) c:=fun t v hv=>by
 rw [zB] at hv;split at hv
 ·rename_i e;subst e;cases hm:m.lookup q.1 with
  |none=>simp only [hm,k4] at hv;subst hv;exact hq
  |some x=>
   simp only [hm,k4] at hv;subst hv;rcases AAe q.2 x with A|A
   ·rw [Int.min_eq_left I];exact hq
   ·rw [Int.min_eq_right I];exact h _ _ hm
 ·exact h t v hv
theorem L_ {m c:List (aI×Int)} (h:yr m c) (hq:q∈c):yr (rm m q) c:=fun t v hv=>by
 rw [zr] at hv;split at hv
 ·rename_i e;subst e;cases hm:m.lookup q.1 with
  |none=>simp only [hm,k4] at hv;subst hv;exact hq
  |some x=>
   simp only [hm,k4] at hv;subst hv;rcases AAe q.2 x with A|A
   ·rw [ACh I];exact h _ _ hm
   ·rw [Int.max_eq_left I];exact hq
 ·exact h t v hv
theorem LZ {m:List (aI×Int)}: ∃ v,(rq m q).lookup q.1=some v∧v≤q.2:=by
 rw [zB,c0 rfl];refine ⟨_,U,?_⟩;cases m.lookup q.1<;>simp only <;>omega
theorem Mk {m:List (aI×Int)}: ∃ v,(rm m q).lookup q.1=some v∧q.2≤v:=by
 rw [zr,c0 rfl];refine ⟨_,U,?_⟩;cases m.lookup q.1<;>simp only <;>omega
/-- all that comes of one entry, by some options, is held -/
def j8 (w:cw) (b:Nat) (m:List (aI×Int)) (p:aI×Int) (os:List (Int×aa)):Prop:= ∀ o∈os,∀ q,oG w b p o=some q→ ∃ v,m.lookup q.1=some v∧v≤q.2
def j9 (w:cw) (b:Nat) (m:List (aI×Int)) (p:aI×Int) (os:List (Int×aa)):Prop:= ∀ o∈os,∀ q,rh w b p o=some q→ ∃ v,m.lookup q.1=some v∧q.2≤v
theorem j8.lower {w:cw} {m:List (aI×Int)} {os:List (Int×aa)} (h:j8 w b m p os) (hl:zV m m'):j8 w b m' p os:=fun o ho q hq=>by
 obtain ⟨v,A,C⟩:=h o ho q hq;obtain ⟨v',B,D⟩:=hl _ _ A;exact ⟨v',B,I⟩
theorem j9.upper {w:cw} {m:List (aI×Int)} {os:List (Int×aa)} (h:j9 w b m p os) (hl:Al m m'):j9 w b m' p os:=fun o ho q hq=>by
 obtain ⟨v,A,C⟩:=h o ho q hq;obtain ⟨v',B,D⟩:=hl _ _ A;exact ⟨v',B,I⟩
theorem j8.sub {w:cw} {m:List (aI×Int)} {os:List (Int×aa)} (h:j8 w b m p os) (hs:∀ o∈os',o∈os):j8 w b m p os':=fun o ho=>h o (hs o ho)
theorem j9.sub {w:cw} {m:List (aI×Int)} {os:List (Int×aa)} (h:j9 w b m p os) (hs:∀ o∈os',o∈os):j9 w b m p os':=fun o ho=>h o (hs o ho)
theorem j8.add {w:cw} {m:List (aI×Int)} {os:List (Int×aa)} {o:Int×aa} (h:j8 w b m p os) (hl:zV m m') (hn:∀ q,oG w b p o=some q→ ∃ v,m'.lookup q.1=some v∧v≤q.2):j8 w b m' p (os++[o]):=fun o' ho q hq=>by
 rcases dZ.1 ho with ho|ho
 ·exact h.lower hl o' ho q hq
 ·simp only [bU] at ho;subst ho;exact hn q hq
theorem j9.add {w:cw} {m:List (aI×Int)} {os:List (Int×aa)} {o:Int×aa} (h:j9 w b m p os) (hl:Al m m') (hn:∀ q,rh w b p o=some q→ ∃ v,m'.lookup q.1=some v∧q.2≤v):j9 w b m' p (os++[o]):=fun o' ho q hq=>by
 rcases dZ.1 ho with ho|ho
 ·exact h.upper hl o' ho q hq
 ·simp only [bU] at ho;subst ho;exact hn q hq
theorem gj {m:List (aI×Int)} (hn:(m.map (·.1)).Nodup) {t:aI} {v:Int}:(t,v)∈m↔m.lookup t=some v:=ko hn
theorem re {z t:aI} {x v:Int}:lookup t [(z,x)]=some v↔t=z∧v=x:=by
 by_cases e:t=z
 ·subst e;simp [lookup,eq_comm]
 ·have:(t==z)=false:=by simpa using e
  simp [lookup,this,e]
theorem Mf {w:cw}:wT [(⟨0,0⟩,w.Start)] (sv w 0):=by
 refine ⟨fun t v h=>?_,fun t y h=>?_⟩
 ·obtain ⟨rfl,rfl⟩:=re.1 h;simp [sv]
 ·simp only [sv,bU,p4] at h;obtain ⟨rfl,rfl⟩:=h;exact ⟨w.Start,re.2 ⟨U,U⟩,wt _⟩
theorem Qy {w:cw} {m:List (aI×Int)} (hn:(mb.map (·.1)).Nodup) (h:wT mb (sv w b)) (hs:yr m (sv w (b+1))) (hd:∀ p∈mb,j8 w b m p (kW w b)):wT m (sv w (b+1)):=⟨hs,fun t y hy=>by
 obtain ⟨p,hp,o,ho,e⟩:=lQ.1 hy;obtain ⟨v,B,E⟩:=h.2 p.1 p.2 hp;unfold oG at e;split at e
 ·rename_i D;simp only [k4,p4] at e;obtain ⟨v',A,C⟩:=hd (p.1,v) ((gj hn).2 B) o ho (dY p.1 (gU o.1),max (v+cW w b) o.2.Lo) (by unfold oG;rw [c0 (by simp only;omega)]);simp only at A C;rw [e.1] at A;exact ⟨v',A,I⟩
 ·cases e⟩
theorem OD {w:cw} (hb:w.n≤b):yu [(⟨0,0⟩,w.hP)] (back w b):=by
 rw [xM hb];refine ⟨fun t v h=>?_,fun t y h=>?_⟩
 ·obtain ⟨rfl,rfl⟩:=re.1 h;simp
 ·simp only [bU,p4] at h;obtain ⟨rfl,rfl⟩:=h;exact ⟨w.hP,re.2 ⟨U,U⟩,wt _⟩
theorem Nw {w:cw} (hb:b<w.n) {m:List (aI×Int)} (hn:(mb.map (·.1)).Nodup) (h:yu mb (back w (b+1))) (hs:yr m (back w b)) (h0:∃ v,m.lookup ⟨0,0⟩=some v∧w.hP≤v) (hd:∀ p∈mb,j9 w b m p (kW w b)):yu m (back w b):=⟨hs,fun t y hy=>by
 rcases (qC hb).1 hy with e|⟨p,hp,o,ho,e⟩
 ·simp only [p4] at e;obtain ⟨rfl,rfl⟩:=e;exact h0
 obtain ⟨v,B,E⟩:=h.2 p.1 p.2 hp;unfold rh at e;split at e
 ·rename_i D;simp only [k4,p4] at e;obtain ⟨v',A,C⟩:=hd (p.1,v) ((gj hn).2 B) o ho (dY p.1 (gU o.1),min v o.2.Hi-cW w b) (by unfold rh;rw [c0 (by simp only;omega)]);simp only at A C;rw [e.1] at A;exact ⟨v',A,I⟩
 ·cases e⟩
end
variable {w:cw}
section
def mD (w:cw) (b:Nat) (p u:aI×Int) (o:Int×aa):aa:=⟨max (p.2+cW w b) o.2.Lo,min u.2 o.2.Hi⟩
def Cc (p u:aI×Int) (o:Int×aa):aI:=dY (dY p.1 u.1) (gU o.1)
def ot (w:cw) (b:Nat) (p u:aI×Int) (o:Int×aa):Option (Int×aa):=if (mD w b p u o).Lo≤(mD w b p u o).Hi∧oF w (Cc p u o)=true then some (o.1,mD w b p u o) else none
def sI (w:cw) (b:Nat) (mf mb:List (aI×Int)):List (Int×aa):=(kW w b).flatMap fun o=>mf.flatMap fun p=>mb.filterMap fun u=>ot w b p u o
def u_ (w:cw) (b:Nat):List (Int×aa):=sI w b (sv w b) (back w (b+1))
theorem kj {q:Int×aa}:q∈sI w b mf mb↔ ∃ o∈kW w b,∃ p∈mf,∃ u∈mb,ot w b p u o=some q:=by
 simp only [sI,AAx,AAD]
theorem mw {u:aI×Int} {o q:Int×aa}:ot w b p u o=some q↔(mD w b p u o).Lo≤(mD w b p u o).Hi∧oF w (Cc p u o)=true∧q=(o.1,mD w b p u o):=by
 unfold ot;split
 ·rename_i h;simp only [k4];exact ⟨fun e=>⟨h.1,h.2,e.symm⟩,fun e=>e.2.2.symm⟩
 ·rename_i h;simp only [reduceCtorEq,false_iff];exact fun e=>h ⟨e.1,e.2.1⟩
theorem qi {q:Int×aa} (h:q∈sI w b mf mb):q.2.Lo≤q.2.Hi:=by
 obtain ⟨o,_,p,_,u,_,e⟩:=kj.1 h;obtain ⟨A,_,rfl⟩:=mw.1 e;exact A
/-- what the maps tell is what all ways tell -/
theorem Rg (hf:wT mf (sv w b)) (hb:yu mb (back w (b+1))) (nf:(mf.map (·.1)).Nodup) (nb:(mb.map (·.1)).Nodup) {q:Int×aa} (h:q∈sI w b mf mb):q∈u_ w b:=by
 obtain ⟨o,ho,p,hp,u,hu,e⟩:=kj.1 h;exact kj.2 ⟨o,ho,p,hf.1 _ _ ((gj nf).1 hp),u,hb.1 _ _ ((gj nb).1 hu),e⟩
theorem Oj (hf:wT mf (sv w b)) (hb:yu mb (back w (b+1))) (nf:(mf.map (·.1)).Nodup) (nb:(mb.map (·.1)).Nodup) {q:Int×aa} (h:q∈u_ w b): ∃ q'∈sI w b mf mb,q'.1=q.1∧q'.2.Lo≤q.2.Lo∧q.2.Hi≤q'.2.Hi:=by
 obtain ⟨o,ho,p,hp,u,hu,e⟩:=kj.1 h;obtain ⟨A,B,rfl⟩:=mw.1 e;obtain ⟨v,hv,C⟩:=hf.2 p.1 p.2 hp;obtain ⟨y,hy,D⟩:=hb.2 u.1 u.2 hu;simp only [mD] at A;refine ⟨(o.1,mD w b (p.1,v) (u.1,y) o),kj.2 ⟨o,ho,(p.1,v),(gj nf).2 hv,(u.1,y),(gj nb).2 hy,mw.2 ⟨?_,B,U⟩⟩,U,?_,?_⟩
 ·simp only [mD];omega
 ·simp only [mD];omega
 ·simp only [mD];omega
def oN:aa:=⟨1,0⟩
def oy (h x:aa):aa:=if h=oN then x else ⟨min x.Lo h.Lo,max x.Hi h.Hi⟩
def As (l:List (Int×aa)):aa:=l.foldl (fun h q=>oy h q.2) oN
structure qw (l:List (Int×aa)) (h:aa):Prop where
 le:h.Lo≤h.Hi
 lo: ∃ x∈l,x.2.Lo=h.Lo
 hi: ∃ x∈l,x.2.Hi=h.Hi
 all: ∀ x∈l,h.Lo≤x.2.Lo∧x.2.Hi≤h.Hi
def lT (l:List (Int×aa)) (h:aa):Prop:=(l=[]∧h=oN)∨qw l h
theorem qw.ne {l:List (Int×aa)} {h:aa} (hh:qw l h):h≠oN:=fun e=>by
 have:=hh.le;rw [e] at this;simp [oN] at this
theorem E0:lT [] oN:= .inl ⟨rfl,rfl⟩
theorem xu {l:List (Int×aa)} {h:aa} {q:Int×aa} (hh:lT l h) (hq:q.2.Lo≤q.2.Hi):lT (l++[q]) (oy h q.2):=by
 right;rcases hh with ⟨rfl,rfl⟩|hh
 ·unfold oy;rw [c0 rfl];exact ⟨hq,⟨q,sm,rfl⟩,⟨q,sm,rfl⟩,fun x hx=>by simp at hx;subst hx;exact ⟨wt _,wt _⟩⟩
 ·unfold oy;rw [c1 hh.ne];have A:=hh.le;obtain ⟨a,ha,ea⟩:=hh.lo;obtain ⟨c,hc,ec⟩:=hh.hi;refine ⟨by simp only;omega,?_,?_,fun x hx=>?_⟩
  ·rcases AAe q.2.Lo h.Lo with p|p
   ·exact ⟨q,sm,by simp only;omega⟩
   ·exact ⟨a,by simp [ha],by simp only;omega⟩
  ·rcases AAe h.Hi q.2.Hi with p|p
   ·exact ⟨q,sm,by simp only;omega⟩
   ·exact ⟨c,by simp [hc],by simp only;omega⟩
  ·rcases dZ.1 hx with hx|hx
   ·have:=hh.all x hx;simp only;omega
   ·simp at hx;subst hx;simp only;omega
theorem x8 {l:List (Int×aa)} (hl: ∀ q∈l,q.2.Lo≤q.2.Hi):lT l (As l):=by
 have key: ∀ (r d:List (Int×aa)) (h:aa),(∀ q∈r,q.2.Lo≤q.2.Hi)→lT d h→lT (d++r) (r.foldl (fun h q=>oy h q.2) h):=by
  intro r
  induction r with
  |nil=>intro d h _ hd;simpa using hd
  |cons q r ih=>
   intro d h hr hd;have:=ih (d++[q]) (oy h q.2) (fun x hx=>hr x (dk _ hx)) (xu hd (hr q sm));simpa using this
 have:=key l [] oN hl E0;rw [AAp] at this;exact this
def Hv (a b:List (Int×aa)):Prop:= ∀ x∈b,∃ y∈a,y.2.Lo≤x.2.Lo∧x.2.Hi≤y.2.Hi
theorem Rv {a b:List (Int×aa)} {h k:aa} (ha:lT a h) (hb:lT b k) (hab:Hv a b) (hba:Hv b a):h=k:=by
 rcases ha with ⟨rfl,rfl⟩|ha
 ·rcases hb with ⟨rfl,rfl⟩|hb
  ·rfl
  ·obtain ⟨x,hx,_⟩:=hb.lo;obtain ⟨y,hy,_⟩:=hab x hx;cases hy
 ·rcases hb with ⟨rfl,rfl⟩|hb
  ·obtain ⟨x,hx,_⟩:=ha.lo;obtain ⟨y,hy,_⟩:=hba x hx;cases hy
  ·have le: ∀ {a b:List (Int×aa)} {h k:aa},qw a h→qw b k→Hv a b→h.Lo≤k.Lo∧k.Hi≤h.Hi:=fun {a b h k} ha hb hab=>by
    obtain ⟨x,hx,ex⟩:=hb.lo;obtain ⟨z,hz,ez⟩:=hb.hi;obtain ⟨y,hy,ey⟩:=hab x hx;obtain ⟨y',hy',ey'⟩:=hab z hz;have A:=ha.all y hy;have B:=ha.all y' hy';omega
   have A:=le ha hb hab;have B:=le hb ha hba;rw [aa.ext_iff];omega
theorem BK {l:List (Int×aa)} {h:aa} (hf:wT mf (sv w b)) (hb:yu mb (back w (b+1))) (nf:(mf.map (·.1)).Nodup) (nb:(mb.map (·.1)).Nodup) (hl:∀ q∈l,q∈sI w b mf mb) (hl2:∀ q∈sI w b mf mb,q∈l) (hh:lT l h):h=As (u_ w b):=
 Rv hh (x8 fun q hq=>qi hq) (fun x hx=>by
  obtain ⟨q,hq,_,A,B⟩:=Oj hf hb nf nb hx;exact ⟨q,hl2 q hq,A,B⟩) (fun x hx=>⟨x,Rg hf hb nf nb (hl x hx),wt _,wt _⟩)
def mR (w:cw) (m:List (aI×Int)):Bool:=m.any fun p=>oF w p.1
theorem FT (h:wT m (sv w b)) (nf:(m.map (·.1)).Nodup):mR w m=mR w (sv w b):=by
 unfold mR;rw [AAB,AAm,AAm];constructor
 ·rintro ⟨p,hp,A⟩;exact ⟨p,h.1 _ _ ((gj nf).1 hp),A⟩
 ·rintro ⟨p,hp,A⟩;obtain ⟨v,hv,_⟩:=h.2 p.1 p.2 hp;exact ⟨(p.1,v),(gj nf).2 hv,A⟩
def mq (w:cw) (k:Nat):List Int:=((range k).filter fun i=>mR w (sv w i)).map fun (i:Nat)=>(i:Int)
def n8 (w:cw):List Int:=mq w (w.n+1)
theorem Ha (h:mR w (sv w k)=true):mq w (k+1)=mq w k++[(k:Int)]:=by simp [mq,AAV,h]
theorem Kc (h:mR w (sv w k)=false):mq w (k+1)=mq w k:=by simp [mq,AAV,h]
theorem vf:(mq w k).length≤k:=by
 unfold mq;rw [c3];exact c6 (u2 _ _) sm
end
section
open Go.RowKit
theorem LL {k:IntKind} (hu:P.underlying t=some (.int k)) (e:Bool) (n:Nat) (v:Value) (w:World):(Instr.checkKey e (n+1) t v).run P w= .ok () w:=by
 unfold Instr.checkKey;simp only [AAf,k3 hu,Result.andThen];cases v<;>rfl
theorem Dp {kt:Nat} {l:List (Nat×Nat)} (hl:fL P kt=some l) (e:Bool) (n:Nat) (cs:Array Value) (w:World) (hf:∀ p∈l,(∃ v,(part p.1 cs p.2).run P w= .ok v w)∧ ∃ k,P.underlying p.1=some (.int k)):(Instr.checkKey e (n+2) kt (.agg cs)).run P w= .ok () w:=by
 unfold fL at hl;cases hu:P.underlying kt with
 |none=>simp [hu] at hl
 |some d=>
  cases d<;>simp [hu] at hl;rename_i fs;obtain ⟨hn,hl⟩:=hl;rw [show n+2=(n+1)+1 from rfl,Instr.checkKey];simp only [AAf,k3 hu,AAa];rw [← Array.forIn_toList];have A: ∀ f∈fs.toList,(∃ v,(part f.type cs f.offset).run P w= .ok v w)∧ ∃ k,P.underlying f.type=some (.int k):=fun f hf'=>hf (f.type,f.offset) (by rw [← hl];exact cu.2 ⟨f,hf',rfl⟩);have B: ∀ f∈fs.toList,f.name≠"_":=fun f hf'=>by
   obtain ⟨i,hi,rfl⟩:=List.getElem_of_mem hf';exact hn.1.1 i (by simpa using hi)
  clear hl hn hf
  generalize fs.toList=L at A B
  induction L with
  |nil=>simp
  |cons f L ih=>
   obtain ⟨⟨v,hv⟩,k,hk⟩:=A f sm;have C:=B f sm;simp only [List.forIn_cons,AAf,C,AB4,ACa,ACd,AAa,hv,LL hk,ACA];exact ih (fun y hy=>A y (by simp [hy])) (fun y hy=>B y (by simp [hy]))
theorem Er {kt:Nat} {K:Type} [DecidableEq K] {kV:K→Value} (hw:∀ (k:Value) (es:List MapEntry) (w:World),(Instr.findKey kt k es).run P w=(Instr.findAsking kt k es).run P w) (heq:∀ x y w,(Op.equal kt (kV x) (kV y)).run P w= .ok (decide (x=y)) w) (inj:∀ x y,kV x=kV y→x=y) (x:K) (w:World) (es:List MapEntry) (hk:∀ e∈es,∃ k,e.key=kV k):
 ((Instr.findKey kt (kV x) es).run P w= .ok none w∧ ∀ e∈es,e.key≠kV x)∨ ∃ j e,(Instr.findKey kt (kV x) es).run P w= .ok (some (j,e.val)) w∧es[j]? =some e∧e.key=kV x:=by
 have key: ∀ (es:List MapEntry) (i:Nat),(∀ e∈es,∃ k,e.key=kV k)→((Instr.findAsking kt (kV x) es i).run P w= .ok none w∧ ∀ e∈es,e.key≠kV x)∨ ∃ j e,(Instr.findAsking kt (kV x) es i).run P w= .ok (some (i+j,e.val)) w∧es[j]? =some e∧e.key=kV x:=by
  intro es
  induction es with
  |nil=>intro i _;exact .inl ⟨by simp [Instr.findAsking],sm⟩
  |cons e es ih=>
   intro i B;obtain ⟨k,A⟩:=B e sm;by_cases h:x=k
   ·refine .inr ⟨0,e,?_,U,by rw [A,h]⟩;subst h;simp [Instr.findAsking,A,heq]
   ·rcases ih (i+1) (fun y hy=>B y (by simp [hy])) with ⟨C,D⟩|⟨j,e',C,D,E⟩
    ·refine .inl ⟨by simp [Instr.findAsking,A,heq,h,C],fun y hy=>?_⟩;rcases bI.1 hy with rfl|hy
     ·rw [A];exact fun q=>h (inj _ _ q).symm
     ·exact D y hy
    ·exact .inr ⟨j+1,e',by simp [Instr.findAsking,A,heq,h,C];omega,by simpa using D,E⟩
 rw [hw];rcases key es 0 hk with h|⟨j,e,C,D,E⟩
 ·exact .inl h
 ·exact .inr ⟨j,e,by simpa using C,D,E⟩
theorem Ht {kt:Nat} {l:List (Nat×Nat)} (hl:fL P kt=some l) (k:Value) (es:List MapEntry) (w:World):(Instr.findKey kt k es).run P w=(Instr.findAsking kt k es).run P w:=by
 refine run_findKey_eq w ?_ k es;unfold fL at hl;cases hu:P.underlying kt with
 |none=>simp [hu] at hl
 |some d=>cases d<;>simp [hu] at hl ⊢
theorem S8 {kt:Nat} {K:Type} [DecidableEq K] {kV:K→Value} {l:List (Nat×Nat)} (hl:fL P kt=some l) (heq:∀ x y w,(Op.equal kt (kV x) (kV y)).run P w= .ok (decide (x=y)) w) (inj:∀ x y,kV x=kV y→x=y) (hb:∀ x,Instr.sameBits 10000 (kV x) (kV x)=true) (hp:∀ x w,∃ cs,kV x= .agg cs∧ ∀ p∈l,(∃ v,(part p.1 cs p.2).run P w= .ok v w)∧ ∃ k,P.underlying p.1=some (.int k)):xo P kt kV:=
 ⟨fun e x w=>by obtain ⟨cs,A,B⟩:=hp x w;rw [A];exact Dp hl e 9998 cs w B,fun x w es=>Er (Ht hl) heq inj x w es,hb,inj⟩
end
section
open Go.RowKit
set_option linter.unusedSectionVars false
theorem eE {kt:Nat} (hk:P.underlying kt=some (.int .i64)):xo P kt (Value.int .i64):=by
 refine ⟨fun e x w=>Kd hk e,fun x w es A=>?_,fun x=>by simp [Instr.sameBits],fun x y h=>by injection h⟩;have key: ∀ (es:List MapEntry) (i:Nat),(∀ e∈es,∃ k:Int,e.key= .int .i64 k)→(Instr.findNow (.int .i64) (.int .i64 x) es i=some none∧ ∀ e∈es,e.key≠ .int .i64 x)∨ ∃ j e,Instr.findNow (.int .i64) (.int .i64 x) es i=some (some (i+j,e.val))∧es[j]? =some e∧e.key= .int .i64 x:=by
  intro es
  induction es with
  |nil=>intro i _;exact .inl ⟨rfl,sm⟩
  |cons e es ih=>
   intro i A;obtain ⟨k,B⟩:=A e sm;by_cases h:x=k
   ·subst h;exact .inr ⟨0,e,by simp [Instr.findNow,Instr.sameNow,B],U,B⟩
   ·have hb:(x==k)=false:=by simpa using h
    rcases ih (i+1) (fun y hy=>A y (by simp [hy])) with ⟨C,D⟩|⟨j,e',C,D,E⟩
    ·refine .inl ⟨by simp [Instr.findNow,Instr.sameNow,B,hb,C],fun y hy=>?_⟩;rcases bI.1 hy with rfl|hy
     ·rw [B];intro q;injection q with _ q;exact h q.symm
     ·exact D y hy
    ·refine .inr ⟨j+1,e',?_,by simpa using D,E⟩;simp only [Instr.findNow,Instr.sameNow,B,hb,ACd,C];simp;omega
 rcases key es 0 A with ⟨C,D⟩|⟨j,e,C,D,E⟩
 ·exact .inl ⟨MapKept.run_findKey hk C,D⟩
 ·exact .inr ⟨j,e,MapKept.run_findKey hk (by simpa using C),D,E⟩
theorem St.Sh {w w':World} {A N:au} (h:St S w0 C w) (i:Nat) (hA:C[i]? =some A) (k:ed no w w') (hN:N.holds w') (hf:∀ b,N.fP b→w.heap.size≤b∨A.fP b∧ ¬ A.wf b∧ ¬ N.wf b):St S w0 (N::C) w':=by
 have h':=h.same k;have G:=aF hA;have hi:=(aT.1 hA).1;have B:C[i]=A:=(aT.1 hA).2;refine ⟨h'.keeps,fun X hX=>?_,List.Pairwise.cons (fun X hX b hb hb'=>?_) h'.sep,fun X hX b hb=>?_,fun X hX b hb=>?_⟩
 ·rcases bI.1 hX with rfl|hX
  ·exact hN
  ·exact h'.holds X hX
 ·rcases hf b hb with E|⟨E,AA,H⟩
  ·have:=X.lt w (h.holds X hX) b hb';omega
  ·refine ⟨H,?_⟩;obtain ⟨j,hj,D⟩:=p5.1 hX;by_cases e:j=i
   ·subst e;rw [← D,B];exact AA
   ·rcases ABM e with F|F
    ·have:=eW.1 h.sep j i hj hi F b (by rw [D];exact hb') (by rw [B];exact E);rw [← D];exact this.1
    ·have:=eW.1 h.sep i j hi hj F b (by rw [B];exact E) (by rw [D];exact hb');rw [← D];exact this.2
 ·rcases bI.1 hX with rfl|hX
  ·rcases hf b (X.l7 b hb) with E|⟨_,_,H⟩
   ·exact .inl (c6 h.keeps.size E)
   ·exact absurd hb H
  ·exact h'.own X hX b hb
 ·rcases bI.1 hX with rfl|hX
  ·rcases hf b hb with E|⟨E,_,_⟩
   ·exact .inl (c6 h.keeps.size E)
   ·exact h.seen A G b E
  ·exact h'.seen X hX b hb
section
variable {K:Type} [DecidableEq K] {kV:K→Value}
/-- an iterator over a map that is read alone -/
def Bp (kV:K→Value) (r b:Nat) (m left:List (K×Value)) (cur:Option (K×Value)):au where
 fP k:=k=r∨k=b
 wf k:=k=r
 holds w:=r≠b∧ ∃ (es:Array MapEntry) (c since:Nat) (seen:Array Nat) (st:Nat),w.heap[b]? =some (.map es c)∧j4 kV es c m∧w.heap[r]? =some (.mapIter (some b) since seen st)∧(∀ e∈es.toList,e.born<since)∧since≤st∧since≤c∧
  (leftOf es seen).toList.map (fun (e:MapEntry)=>(e.key,e.val))=left.map (fun p=>(kV p.1,p.2))∧
  ∀ p,cur=some p→ ∃ (e:MapEntry) (seen0:Array Nat),e∈es.toList∧seen=seen0.push e.born∧st=c∧e.key=kV p.1∧e.val=p.2
 wr:=false
 l7 _ h:= .inl h
 whole h:=by cases h
 lt w h k hk:=by
  obtain ⟨_,es,c,since,seen,st,h1,_,h2,_⟩:=h
  rcases hk with rfl|rfl
  ·exact eG h2
  ·exact eG h1
 qS w w' hk h:=by
  obtain ⟨hne,es,c,since,seen,st,h1,h2,h3,h4⟩:=h
  exact ⟨hne,es,c,since,seen,st,(hk b (.inr rfl)).trans h1,h2,(hk r (.inl rfl)).trans h3,h4⟩
theorem fZ {r:Nat} {m left:List (K×Value)} {cur:Option (K×Value)}:(∀ w,(Bp kV r b m left cur).holds w→(Bp kV r b m left none).holds w)∧(∀ k,(Bp kV r b m left none).fP k→(Bp kV r b m left cur).fP k)∧ ∀ k,(Bp kV r b m left none).wf k→(Bp kV r b m left cur).wf k:=
 ⟨fun w h=>by
  obtain ⟨A,es,c,since,seen,st,B,C,D,E,F,h5',G,_⟩:=h;exact ⟨A,es,c,since,seen,st,B,C,D,E,F,h5',G,fun p hp=>by cases hp⟩,fun _ h=>h,fun _ h=>h⟩
section
variable {E:fJ} {ops:Array Oper} {Q:du} {rest:List Oper} {D:List Deferred} {L:List (Nat×Value)} {C:List au}
variable {dst:Option Tmp} {d:Nat} {ty:TypeId} {ps:String} {af:Array Edge} {g:Option (Nat×Bool)}
theorem ku {t:TypeId} {m:List (K×Value)} {A:au} (i:Nat) (hg:kz ops L g=true) (hm:ev L xm=some (.map (some b))) (ht:E.P.underlying t=some (.map kt et)) (hA:C[i]? =some A) (hAf:A.fP b∧ ¬ A.wf b) (hC:ig C (iu kV b m).holds) (hd:blt d E.n=true) (k:∀ r,RJ E ops Q rest D ((d,.pointer (some ⟨r,0,none⟩))::L) (Bp kV r b m m none::C)):RJ E ops Q (⟨some d,.range t xm,ty,ps,af,g⟩::rest) D L C:=by
 intro a w B hs;have hd':d<E.n:=by rw [← u7];exact hd
 unfold uJ;rw [c0 (eH B hg)];obtain ⟨es,c,he,hi⟩:=hs.has hC;have G:b<w.heap.size:=eG he;have F:(getObj b).run E.P w= .ok (.map es c) w:=AAc he;refine jr (v:= .pointer (some ⟨w.heap.size,0,none⟩)) (w':=w.alloc (.mapIter (some b) c #[] c)) sm ?_ ?_
 ·simp [execOp,Instr.range,B.ev hm,k3 ht,F,newObj,Sem.run]
 ·refine k _ _ _ (B.put hd' _) (hs.Sh i hA (ed.alloc no w _) ⟨I,es,c,c,#[],c,?_,hi,ACB w _,hi.Vh,c9 _,c9 _,?_,fun p hp=>by cases hp⟩ (fun q hq=>?_))
  ·rw [ABe w _ b G];exact he
  ·have:leftOf es #[]=es:=by unfold leftOf;exact Array.filter_eq_self.2 sm
   rw [this];exact hi.list
  ·rcases hq with rfl|rfl
   ·exact .inl (c9 _)
   ·refine .inr ⟨hAf.1,hAf.2,fun (e:q=w.heap.size)=>by omega⟩
theorem LH (hinj:∀ x y,kV x=kV y→x=y) {r:Nat} {m left:List (K×Value)} {cur:Option (K×Value)} (i:Nat) (hg:kz ops L g=true) (hm:ev L xi=some (.pointer (some ⟨r,0,none⟩))) (hC:C[i]? =some (Bp kV r b m left cur)) (hd:blt d E.n=true) (k0:left=[]→RJ E ops Q rest D ((d,.tuple [.bool false].toArray)::L) C) (k1:∀ x v,(x,v)∈left→(left.map (·.1)).Nodup→RJ E ops Q rest D ((d,.tuple [.bool true,kV x,v].toArray)::L) (C.set i (Bp kV r b m (cJ left x) (some (x,v))))):
 RJ E ops Q (⟨some d,.next xi false,ty,ps,af,g⟩::rest) D L C:=by
 intro a w G hs;have hd':d<E.n:=by rw [← u7];exact hd
 unfold uJ;rw [c0 (eH G hg)];obtain ⟨R,es,c,since,seen,st,X,hi,Y,J,V,M,A,_⟩:=hs.holds _ (aF hC);rcases run_next_at (P:=E.P) w ty r b since st seen es c Y X J V with ⟨Z,hr⟩|⟨e,he,N,H,hr⟩
 ·refine jr (v:= .tuple #[.bool false]) (w':=w) sm ?_ ?_
  ·simp [execOp,G.ev hm,hr]
  ·refine k0 ?_ _ _ (G.put hd' _) hs;have:(leftOf es seen).toList=[]:=by rw [← ABk,ABH];exact Z
   rw [this] at A;exact ABh.1 A.symm
 ·have O:(e.key,e.val)∈left.map (fun p=>(kV p.1,p.2)):=by rw [← A];exact cu.2 ⟨e,he,rfl⟩
  obtain ⟨p,hp,S⟩:=cu.1 O;obtain ⟨x,v⟩:=p;simp only [p4] at S;obtain ⟨hk,hv⟩:=S;refine jr (v:= .tuple #[.bool true,e.key,e.val]) (w':=ChangeMaps.setBlock N r (.mapIter (some b) since (seen.push e.born) c)) sm ?_ ?_
  ·simp [execOp,G.ev hm,hr]
  ·rw [← hk,← hv];have AA:=AM hinj hi A;have F:e∈es.toList:=by unfold leftOf at he;rw [AA4] at he;exact (n3.1 he).1
   have f:c=c:=rfl;have B:N.heap=w.heap:=by rcases H with rfl|rfl<;>rfl
   refine k1 x v hp AA _ _ (G.put hd' _) (hs.mv i hC ⟨⟨R,es,c,since,seen.push e.born,c,?_,hi,?_,J,M,M,?_,fun q hq=>?_⟩,?_,fun q hq=> .inl hq,fun q hq=> .inl hq⟩)
   ·show (N.heap.setIfInBounds r _)[b]? =_
    rw [e5 R,B];exact X
   ·show (N.heap.setIfInBounds r _)[r]? =_
    rw [c8 (by rw [B];exact eG Y)]
   ·have T:leftOf es (seen.push e.born)=(leftOf es seen).filter (fun z=> !(z.born==e.born)):=by
     unfold leftOf;rw [Array.filter_filter];congr 1;funext z;simp only [Array.contains_push,Bool.not_or];rw [Bool.and_comm]
    rw [T,AA4];have key: ∀ (l:List MapEntry) (ll:List (K×Value)),(∀ z∈l,z∈es.toList)→l.map (fun (e:MapEntry)=>(e.key,e.val))=ll.map (fun p=>(kV p.1,p.2))→
     (l.filter (fun z=> !(z.born==e.born))).map (fun (e:MapEntry)=>(e.key,e.val))=(cJ ll x).map (fun p=>(kV p.1,p.2)):=by
     intro l
     induction l with
     |nil=>intro ll _ h;cases ll with
      |nil=>rfl
      |cons p ll=>simp at h
     |cons z l ih=>
      intro ll hz h;cases ll with
      |nil=>simp at h
      |cons p ll=>
       simp only [m2,ABo,p4] at h;have ih':=ih ll (fun y hy=>hz y (by simp [hy])) h.2;have AB:(z.born=e.born)↔(p.1=x):=by
        constructor
        ·intro hb;have:z=e:=Gs hi.born (hz z sm) F hb;rw [this] at h;have:=h.1.1.symm.trans hk.symm;exact hinj _ _ this
        ·intro hx;have W:z.key=e.key:=by rw [h.1.1,hx,hk]
         rw [FF hinj hi (hz z sm) F W]
       unfold cJ at ih' ⊢;by_cases hx:p.1=x
       ·rw [AAj (by simp [AB.2 hx]),AAj (by simp [hx])];exact ih'
       ·rw [AAi (by simpa using fun hb=>hx (AB.1 hb)),AAi (by simpa using hx)];simp only [m2,h.1.1,h.1.2,ih']
    exact key _ _ (fun z hz=>by unfold leftOf at hz;rw [AA4] at hz;exact (n3.1 hz).1) A
   ·cases hq;exact ⟨e,seen,F,U,U,hk.symm,hv.symm⟩
   ·refine ⟨?_,?_,?_,?_,fun q hq hn=>?_⟩
    ·rcases H with rfl|rfl<;>rfl
    ·rcases H with rfl|rfl<;>rfl
    ·rcases H with rfl|rfl<;>rfl
    ·show w.heap.size≤(N.heap.setIfInBounds r _).size
     simp [B]
    ·show (N.heap.setIfInBounds r _)[q]? =_
     rw [e5 (fun e=>hn e.symm),B]
theorem jK {r:Nat} {m left:List (K×Value)} {x:K} (i:Nat) (hg:kz ops L g=true) (hm:ev L xi=some (.pointer (some ⟨r,0,none⟩))) (hC:C[i]? =some (Bp kV r b m left (some (x,v)))):
 SD E ops ⟨dst,.entry xi,ty,ps,af,g⟩ D L C (.tuple [kV x,v].toArray):=
 eo hg sm fun a w F hs=>by
  obtain ⟨N,es,c,since,seen,st,J,hi,M,H,O,AA,G,B⟩:=hs.holds _ (aF hC);obtain ⟨e,A,he,rfl,rfl,hk,hv⟩:=B _ rfl;have:=run_entry_at (P:=E.P) w r b since A es st e M J he hi.born;simp [execOp,F.ev hm,this,hk,hv]
theorem jH (hinj:∀ x y,kV x=kV y→x=y) {f:β→Value} {r:Nat} {m:List (K×Value)} {ll:List (K×β)} {cur:Option (K×Value)} (i:Nat) (hg:kz ops L g=true) (hm:ev L xi=some (.pointer (some ⟨r,0,none⟩))) (hC:C[i]? =some (Bp kV r b m (bS f ll) cur)) (hd:blt d E.n=true) (k0:ll=[]→RJ E ops Q rest D ((d,.tuple [.bool false].toArray)::L) C) (k1:∀ x y,(x,y)∈ll→(ll.map (·.1)).Nodup→RJ E ops Q rest D ((d,.tuple [.bool true,kV x,f y].toArray)::L) (C.set i (Bp kV r b m (bS f (cJ ll x)) (some (x,f y))))):
 RJ E ops Q (⟨some d,.next xi false,ty,ps,af,g⟩::rest) D L C:=by
 refine LH hinj i hg hm hC hd (fun h=>k0 (ABh.1 h)) (fun x v B hn=>?_);obtain ⟨p,hp,A⟩:=cu.1 B;simp only [p4] at A;obtain ⟨rfl,rfl⟩:=A;have:=k1 p.1 p.2 hp (by simpa [bS,ABU] using hn)
 rwa [mA] at this
theorem BT {t:TypeId} {x:K} {m m':List (K×Value)} (i:Nat) (hg:kz ops L g=true) (hm:ev L xm=some (.map (some b))) (hk:ev L xk=some (kV x)) (hv:ev L xv=some v) (ht:E.P.underlying t=some (.map kt et)) (hkt:xo E.P kt kV) (hC:C[i]? =some (iu kV b m)) (hm':d_ m x v=m') (hC':C.set i (iu kV b m')=C') (k:RJ E ops Q rest D L C'):
 RJ E ops Q (⟨none,.insert t xm xk xv,ty,ps,af,g⟩::rest) D L C:=by
 subst hm' hC';intro a w A hs;unfold uJ;rw [c0 (eH A hg)];obtain ⟨es,c,he,hi⟩:=hs.holds _ (aF hC);have B:(getObj b).run E.P w= .ok (.map es c) w:=AAc he;rcases qJ (P:=E.P) (w:=w) (x:=x) hkt hi with ⟨AA,F⟩|⟨j,N,AA,F,J⟩
 ·refine uI (w':={w with heap:=w.heap.setIfInBounds b (.map (es.push {key:=kV x,val:=v,born:=c}) (c+1))}) sm ?_ ?_
  ·simp [execOp,A.ev hm,A.ev hk,A.ev hv,Instr.mapUpdate,k3 ht,B,jR hkt,AA,AA6 _ he]
  ·refine k _ _ ⟨A.defers,A.size,A.at_⟩ (hs.BP (b:=b) i hC U U (oX _) (fun _ h=>h) ⟨_,_,rp he,?_⟩);have:d_ m x v=m++[(x,v)]:=by unfold d_;rw [F];rfl
   rw [this];exact hi.push F v
 ·have M:=hi.size;have G:j<es.size:=by have:=(aT.1 F).1;omega
  have H:(es[j]).key=kV x:=by
   have:=c7 (fun l=>l[j]?) hi.list;simp [G,F] at this;exact this.1
  refine uI (w':={w with heap:=w.heap.setIfInBounds b (.map (es.modify j fun e=>{e with key:=kV x,val:=v}) c)}) sm ?_ ?_
  ·simp [execOp,A.ev hm,A.ev hk,A.ev hv,Instr.mapUpdate,k3 ht,B,jR hkt,AA,AA6 _ he,Instr.keyThatStays,G,H,hkt.bits x]
  ·exact k _ _ ⟨A.defers,A.size,A.at_⟩ (hs.BP (b:=b) i hC U U (oX _) (fun _ h=>h) ⟨_,_,rp he,hi.set F J v⟩)
end
end
end
section
open Go.RowKit
def YlG {σ:Type} (w0:World) (P:Program) (l:Nat) (step:σ→List Value→σ→Prop) (J:σ→au→Prop) (Z:au→Prop):Prop:=
 ∀ k x k' A w,step k x k'→J k A→w0.heap.size≤w.heap.size→A.holds w→YieldAt (Fw none) 0 P l x.toArray w fun e w'=>
  (e= .returned (.bool true)∧ ∃ B,J k' B∧Mv A B w w')∨(e= .returned (.bool false)∧ ∃ B,Z B∧Mv A B w w')
def EF {σ:Type} (J:σ→au→Prop) (Z:au→Prop) (fin:σ→Prop) (A0:au) (w0:World) (e:Ending) (w':World):Prop:=
 ∃ v,e= .returned v∧((∃ s B,fin s∧J s B∧Mv A0 B w0 w')∨ ∃ B,Z B∧Mv A0 B w0 w')
structure GM {σ:Type} (P:Program) (f:FuncId) (fi ca:List Value) (Cp:List au) (s0:σ) (step:σ→List Value→σ→Prop) (fin:σ→Prop):Prop where
 go:sN P f=true
 run: ∀ (l:Nat) (J:σ→au→Prop) (Z:au→Prop) (A0:au) (w:World),YlG w P l step J Z→J s0 A0→A0.holds w→(∀ A∈Cp,A.holds w)→(∀ A∈Cp,Gu A0 A.ro)→
  Calls P f (fi++Value.func (.yield l) #[] #[]::ca).toArray w (EF J Z fin A0 w)
theorem KN {J:σ→au→Prop} {n:σ} {fin:σ→Prop} {w:World} (i:Nat) (hC:C[i]? =some B) (hfin:fin n) (hJ:J n B) (hF:Fo A0 w0 B) (hs:St ⟨A0.wf,fun _=>True⟩ w0 C w):EF J Z fin A0 w0 (.returned v) w:=
 ⟨v,rfl,.inl ⟨n,B,hfin,hJ,hs.holds B (aF hC),hs.keeps,fun b hb=>(hs.own B (aF hC) b hb).symm,hF⟩⟩
theorem ti {J:σ→au→Prop} {fin:σ→Prop} {w:World} (i:Nat) (hC:C[i]? =some B) (hJ:Z B) (hF:Fo A0 w0 B) (hs:St ⟨A0.wf,fun _=>True⟩ w0 C w):EF J Z fin A0 w0 (.returned v) w:=
 ⟨v,rfl,.inr ⟨B,hJ,hs.holds B (aF hC),hs.keeps,fun b hb=>(hs.own B (aF hC) b hb).symm,hF⟩⟩
theorem vW {f:FuncId} {c:Code} {s0:σ} {step:σ→List Value→σ→Prop} {fin:σ→Prop} (hgo:sN P f=true) (hf:P.funcs[f]? =some fn) (hb:fn.body=some c) (hn:ble (fi.length+ca.length+1) fn.ntmps=true) (h:∀ (l:Nat) (J:σ→au→Prop) (Z:au→Prop) (A0:au) (w0:World) (Q:du),YlG w0 P l step J Z→J s0 A0→Fo A0 w0 A0→
  (∀ D L C,LJ ⟨P,none,fn.ntmps,⟨A0.wf,fun _=>True⟩,w0⟩ fn (EF J Z fin A0 w0) D L C→KJ ⟨P,none,fn.ntmps,⟨A0.wf,fun _=>True⟩,w0⟩ (Q .ret) D L C)→
  (∀ D L C,LJ ⟨P,none,fn.ntmps,⟨A0.wf,fun _=>True⟩,w0⟩ fn (EF J Z fin A0 w0) D L C→KJ ⟨P,none,fn.ntmps,⟨A0.wf,fun _=>True⟩,w0⟩ (Q .normal) D L C)→
  WJ ⟨P,none,fn.ntmps,⟨A0.wf,fun _=>True⟩,w0⟩ c Q [] (Ul (fi++Value.func (.yield l) #[] #[]::ca)) (A0::Cp.map au.ro)):GM P f fi ca Cp s0 step fin:=by
 refine ⟨hgo,fun l J Z A0 w hY hJ hA F E=>?_⟩;refine De hf hb (by simpa [ABS] using hn) (h l J Z A0 w · hY hJ (fun b hb=> .inl hb)) ?_;have G:=tj F;refine ⟨ed.refl _ _,fun A hA'=>?_,List.Pairwise.cons (fun B hB=>?_) G.sep,fun A hA' b hb=>?_,fun _ _ _ _=> .inr trivial⟩
 ·rcases bI.1 hA' with rfl|hA'
  ·exact hA
  ·exact G.holds A hA'
 ·obtain ⟨B',hB',rfl⟩:=cu.1 hB;exact E B' hB'
 ·rcases bI.1 hA' with rfl|hA'
  ·exact .inr hb
  ·obtain ⟨B',hB',rfl⟩:=cu.1 hA';exact hb.elim
section
variable {E:fJ} {ops:Array Oper} {Q:du} {rest:List Oper} {D:List Deferred} {L:List (Nat×Value)} {C:List au}
variable {d:Nat} {ty:TypeId} {ps:String} {af:Array Edge} {g:Option (Nat×Bool)}
/-- a call of yield -/
theorem l_ {ts:Array TypeId} {l:Nat} {k k':σ} {step:σ→List Value→σ→Prop} {J:σ→au→Prop} {A:au} {w1:World} (i:Nat) (hw1:w1.heap.size≤E.w0.heap.size) (hY:YlG w1 E.P l step J Z) (hJ:J k A) (hF:Fo A0 w1 A) (hg:kz ops L g=true) (hf:ev L fop=some (.func (.yield l) #[] #[])) (hx:evs L xs.toList=some vs) (hk:step k vs k') (hC:C[i]? =some A) (hd:blt d E.n=true) (k1:∀ B,J k' B→Fo A0 w1 B→RJ E ops Q rest D ((d,.bool true)::L) (C.set i B)) (k2:∀ B,Z B→Fo A0 w1 B→RJ E ops Q rest D ((d,.bool false)::L) (C.set i B)):
 RJ E ops Q (⟨some d,.call {callee:= .value fop,args:=xs,argTypes:=ts},ty,ps,af,g⟩::rest) D L C:=by
 intro a w F hs;have hd':d<E.n:=by rw [← u7];exact hd
 unfold uJ;rw [c0 (eH F hg)];have K:xs.map a.eval=vs.toArray:=by
  have:=F.evs hx;apply ABX;simp [this]
 obtain ⟨fn,tmps,assign,body,hy,hr⟩:=hY k vs k' A w hk hJ (c6 hw1 hs.keeps.size) (hs.holds A (aF hC));have H:(execOp a.eval ⟨some d,.call {callee:= .value fop,args:=xs,argTypes:=ts},ty,ps,af,g⟩).run E.P w= .ok (.round l fn tmps assign body) w:=by
  simp [execOp,resolve,F.ev hf,Deferred.ofValue,invoke,K,hy]
 refine ⟨fun _ _=>trivial,?_⟩;rw [AA7 _ _ _ sm,H];refine ⟨fun h=>by simp at h,?_⟩;have G: ∀ (B:au) (w':World),Mv A B w w'→Fo A0 w1 B:=fun B w' m b hb=>by
  rcases m.fP b hb with AA|AA
  ·exact hF b AA
  ·exact .inr (c6 hw1 (c6 hs.keeps.size AA))
 have hr':RoundIn (Fw E.r) 0 E.P l fn tmps assign body w _:=hr;refine hr'.mono fun e w' he=>?_;rcases he with ⟨rfl,B,hB,m⟩|⟨rfl,B,hB,m⟩
 ·exact k1 B hB (G B w' m) _ _ (F.put hd' _) (hs.mv i hC m)
 ·exact k2 B hB (G B w' m) _ _ (F.put hd' _) (hs.mv i hC m)
end
theorem o5 {L0:dJ} {F:List au} {g:Operand} {ps:Array Tmp} {assign body:Code} {f:FuncId} {s0:σ} {step:σ→List Value→σ→Prop} {fin_:σ→Prop} {ι κ:Type} (inv:σ→ι→Prop) (Ci:σ→ι→List au) (invx:Code→κ→Prop) (Cx:Code→κ→List au) (isJ isF:List Nat) (y0:ι) (hr:E.r=none) (hg:ev L g=some (.func (.func f) fi.toArray ca.toArray)) (hs:GM E.P f fi ca Cp s0 step fin_) (hnd:decide (isJ++isF).Nodup=true) (hJ:kQ C isJ=Ci s0 y0) (hF:kQ C isF=F) (h0:inv s0 y0) (hCp:∀ A∈Cp,∃ B∈F,Pf B A) (hps:∀ k x k',step k x k'→x.length=ps.size) (hpn:ps.toList.all (fun t=>blt t E.n)=true) (hL:cV L L0) (round:∀ (k:σ) (x:List Value) (k':σ) (y:ι) (l:Nat) (ra rb:Loop) (S:BS) (w0:World) (K:Act→World→Prop) (Qr:du),E.w0.heap.size≤w0.heap.size→step k x k'→inv k y→
  (∀ L' C',WJ ⟨E.P,some l,E.n,S,w0⟩ body Qr [] L' (jT l (.loop rb)::C')→KJ ⟨E.P,some l,E.n,S,w0⟩ K [] L' (jT l (.loop ra)::C'))→
  (∀ y' L' C',inv k' y'→(∀ w,St S w0 C' w→St S w0 (jT l (.loop rb)::Ci k' y') w)→KJ ⟨E.P,some l,E.n,S,w0⟩ (Qr .normal) [] L' C')→
  (∀ id z L' C',invx (.exit id) z→(∀ w,St S w0 C' w→St S w0 (jT l (.loop rb)::Cx (.exit id) z) w)→KJ ⟨E.P,some l,E.n,S,w0⟩ (Qr (.exit id)) [] L' C')→
  (∀ z L' C',invx .ret z→(∀ w,St S w0 C' w→St S w0 (jT l (.loop rb)::Cx .ret z) w)→KJ ⟨E.P,some l,E.n,S,w0⟩ (Qr .ret) [] L' C')→
  WJ ⟨E.P,some l,E.n,S,w0⟩ assign (Exit.then K (fun _ _ _=>False)) [] (Bq ps.toList x L0) (jT l (.loop ra)::Ci k y)) (fin:∀ r s y,fin_ s→inv s y→KJ E (Q .normal) (jB r::D) L0 (jT r (.deferred (some []))::(F++Ci s y))) (finx:∀ r id z,invx (.exit id) z→KJ E (Q (.exit id)) (jB r::D) L0 (jT r (.deferred (some []))::(F++Cx (.exit id) z))) (finr:∀ r z,invx .ret z→KJ E (Q .ret) (jB r::D) L0 (jT r (.deferred (some []))::(F++Cx .ret z))):WJ E (.rangeFunc g ps assign body) Q D L C:=by
 intro a w hf q;refine wpIn_rangeFunc fun fn _=>?_;show ∃ l jB w₁ d w₁' f args w₂,(Instr.enterLoop fn a.tmps ps assign body E.r).run E.P w= .ok (l,jB) w₁∧_
 rw [hr];obtain ⟨rec,G⟩: ∃ rec:LoopState→Option Code→Loop,rec=fun st pe=>{state:=st,pending:=pe,fn,tmps:=a.tmps,params:=ps,assign,body,defers:=w.heap.size}:=⟨_,rfl⟩;obtain ⟨W1,R⟩: ∃ W1,(w.alloc (.deferred (some []))).alloc (.loop (rec .ready none))=W1:=⟨_,rfl⟩;have A1:a.eval g= .func (.func f) fi.toArray ca.toArray:=hf.ev hg;have p:(Instr.enterLoop fn a.tmps ps assign body none).run E.P w= .ok (w.heap.size+1,[jB w.heap.size]) W1:=by
  rw [← R,G];exact ACV _ _ _ _ _
 -- the state with the record and the block
 have u:St E.S E.w0 ((jT (w.heap.size+1) (.loop (rec .ready none))::Ci s0 y0)++(jT w.heap.size (.deferred (some []))::F)) W1:=by
  have X:St E.S E.w0 (Ci s0 y0++F) w:=St.kQ (isJ++isF) hnd (by have X:=hJ;have j:=hF;unfold Go.Proofs.YtgnlmfdknlbkkaaGreatDoor.kQ at X j ⊢;rw [AAh,X,j]) q;have hn:QV w W1 [jT (w.heap.size+1) (.loop (rec .ready none)),jT w.heap.size (.deferred (some []))]:=by
   refine ⟨fun A hA=>?_,fun A hA b hb=>?_,?_⟩
   ·rcases bI.1 hA with rfl|hA
    ·show W1.heap[w.heap.size+1]? =_
     rw [← R];have:=ABD (w.alloc (.deferred (some []))) (.loop (rec .ready none));rwa [World.size_alloc] at this
    ·simp only [bU] at hA;subst hA;show W1.heap[w.heap.size]? =_
     rw [← R];exact (ABe _ _ _ sm).trans (ABD w _)
   ·rcases bI.1 hA with rfl|hA
    ·have:b=w.heap.size+1:=hb;omega
    ·simp only [bU] at hA;subst hA;have:b=w.heap.size:=hb;omega
   ·refine List.Pairwise.cons (fun B hB b X j=>?_) (AAY _ _);simp only [bU] at hB;subst hB;have V:b=w.heap.size+1:=X;have O:b=w.heap.size:=j;omega
  have hk:ed no w W1:=by rw [← R];exact (ed.alloc no w _).trans (ed.alloc no _ _)
  have j:=X.grow hk hn;refine j.perm ?_;simp only [AAX,AAp];exact List.Perm.cons _ (v5.symm)
 have Y:=u.tied;obtain ⟨H,A6⟩:=AAT.1 Y.sep;have Ap:=Y.holds _ (bZ ..);let J:σ→au→Prop:=fun k A=> ∃ y,inv k y∧A=bD (jT (w.heap.size+1) (.loop (rec .ready none))::Ci k y)
 let Z:au→Prop:=fun A=> ∃ c z,(c= .ret∨ ∃ id,c= .exit id)∧invx c z∧A=bD (jT (w.heap.size+1) (.loop (rec .done (some c)))::Cx c z)
 refine ⟨w.heap.size+1,[jB w.heap.size],W1,{target:= .fn (.func f) ca.toArray,args:=fi.toArray++ #[.func (.yield (w.heap.size+1)) #[] #[]]},W1,f,
  (fi++Value.func (.yield (w.heap.size+1)) #[] #[]::ca).toArray,W1,p,?_,fun _ _=>trivial,?_,fun h=>by simp at h,?_⟩
 ·simp only [resolve,A1];simp [Deferred.ofValue,Act.eval]
 ·have:fi.toArray++ #[Value.func (.yield (w.heap.size+1)) #[] #[]]++ca.toArray=(fi++Value.func (.yield (w.heap.size+1)) #[] #[]::ca).toArray:=by simp
  simp [invoke,oS hs.go]
 ·refine (rj E.r (hs.run (w.heap.size+1) J Z _ W1 ?_ ⟨y0,h0,U⟩ Ap ?_ ?_)).mono ?_
  ·-- a round
   rintro k x k' A W hx ⟨y,hy,rfl⟩ A0 hA;have hl:W.heap[w.heap.size+1]? =some (.loop (rec .ready none)):=hA.1 _ (bZ ..);have AC:=run_yield (P:=E.P) (args:=x.toArray) hl (by rw [G];simpa using hps k x k' hx);rw [G] at AC;refine ⟨fn,_,assign,body,AC,roundIn_of_wpIn trivial ?_⟩;let A:au:=bD (jT (w.heap.size+1) (.loop (rec .ready none))::Ci k y)
   have A2:Fr E.n [] (Bq ps.toList x L0) {tmps:=(ps.zip x.toArray).foldl (fun tmps (t,a)=>tmps.setIfInBounds t a) a.tmps,defers:=[]}:=by
    have X:=HI ps.toList x L0 a.tmps (fun t ht=>by have:=dg.1 hpn t ht;rwa [u7] at this) ⟨rfl,hf.size,fun t v hv=>hf.at_ t v (hL t v hv)⟩;rw [← ABq];simpa using X
   have o: ∀ (c:Option Code) (b:Bool),({rec .busy none with state:=if b then .ready else .done,pending:=c}:Loop)=rec (if b then .ready else .done) c:=fun c b=>by rw [G]
   have T: ∀ (c:Option Code) (N:World) (C':List au) (S:BS),St S W (jT (w.heap.size+1) (.loop (rec .busy none))::C') N→
    ∃ M,(Instr.endRound (w.heap.size+1) c).run E.P N= .ok (.bool c.isNone) M∧St S W (jT (w.heap.size+1) (.loop (rec (if c.isNone then .ready else .done) c))::C') M:=fun c N C' S H=>by
    have AB:N.heap[w.heap.size+1]? =some (.loop (rec .busy none)):=H.holds _ (bZ ..);refine ⟨_,run_endRound c AB,?_⟩;have:=H.BP (b:=w.heap.size+1) (A':=jT (w.heap.size+1) (.loop (rec (if c.isNone then .ready else .done) c))) 0 rfl rfl rfl (iB _) (fun _ h=>h) (AAR (eG AB));rw [o];exact this
   refine round k x k' y (w.heap.size+1) (rec .ready none) (rec .busy none) ⟨A.wf,A.fP⟩ W _ (roundPost E.P (w.heap.size+1) (fun e w'=>(e= .returned (.bool true)∧ ∃ B,J k' B∧Mv A B W w')∨(e= .returned (.bool false)∧ ∃ B,Z B∧Mv A B W w'))) (c6 (c6 q.keeps.size (by rw [← R];simp;omega)) A0) hx hy ?_ ?_ ?_ ?_ _ _ A2 (St.Dn hA)
   ·intro L' C' hW a1 N i H;have AB:N.heap[w.heap.size+1]? =some (.loop (rec .ready none)):=H.holds _ (bZ ..);refine ⟨_,run_beginRound AB (by rw [G]),hW _ _ i ?_⟩;have:=H.BP (b:=w.heap.size+1) (A':=jT (w.heap.size+1) (.loop (rec .busy none))) 0 rfl rfl rfl (iB _) (fun _ h=>h) (AAR (eG AB));have e:({rec .ready none with state:= .busy}:Loop)=rec .busy none:=by rw [G]
    rw [e];exact this
   ·intro y' L' C' hy' hC' a1 N i H;obtain ⟨M,V,O⟩:=T none N _ _ (hC' _ H);exact ⟨_,M,V,.inl ⟨U,_,⟨y',hy',U⟩,Mv.of O⟩⟩
   ·intro id z L' C' hz hC' a1 N i H;obtain ⟨M,V,O⟩:=T (some (.exit id)) N _ _ (hC' _ H);exact ⟨_,M,V,.inr ⟨U,_,⟨_,z,.inr ⟨id,U⟩,hz,U⟩,Mv.of O⟩⟩
   ·intro z L' C' hz hC' a1 N i H;obtain ⟨M,V,O⟩:=T (some .ret) N _ _ (hC' _ H);exact ⟨_,M,V,.inr ⟨U,_,⟨_,z,.inl U,hz,U⟩,Mv.of O⟩⟩
  ·intro A hA;obtain ⟨B,hB,hc⟩:=hCp A hA;exact hc.holds _ (Y.holds B (dk _ (dk _ hB)))
  ·intro A hA b hb hb';obtain ⟨B,hB,hc⟩:=hCp A hA;exact ⟨(H B (dk _ hB) b hb (hc.fP b hb')).1,fun h=>h⟩
  ·rintro e w' ⟨v,rfl,hh⟩;have AA:Fr E.n (jB w.heap.size::D) L0 {a with defers:=[jB w.heap.size]++a.defers}:=⟨by simp [hf.defers],hf.size,fun t v hv=>hf.at_ t v (hL t v hv)⟩;have hleave: ∀ (st:LoopState) (c:Option Code) (C':List au),st≠ .busy→Mv (bD (jT (w.heap.size+1) (.loop (rec .ready none))::Ci s0 y0)) (bD (jT (w.heap.size+1) (.loop (rec st c))::C')) W1 w'→
    ∃ M,(Instr.endLoop (w.heap.size+1)).run E.P w'= .ok c M∧St E.S E.w0 (jT w.heap.size (.deferred (some []))::(F++C')) M:=fun st c C' A4 m=>by
    have X:=(Y.mv 0 rfl m).iJ;have h1':St E.S E.w0 ((jT (w.heap.size+1) (.loop (rec st c))::C')++(jT w.heap.size (.deferred (some []))::F)) w':=X;have AB:w'.heap[w.heap.size+1]? =some (.loop (rec st c)):=h1'.holds (jT (w.heap.size+1) (.loop (rec st c))) sm;refine ⟨_,by have:=run_endLoop (P:=E.P) AB (by rw [G];exact A4);rw [this,G],?_⟩;have j:=h1'.BP (b:=w.heap.size+1) (A':=jT (w.heap.size+1) (.loop {rec st c with state:= .exhausted})) 0 rfl rfl rfl (iB _) (fun _ h=>h) (AAR (eG AB));have h3:St E.S E.w0 (C'++(jT w.heap.size (.deferred (some []))::F)) _:=j.take (ABJ _ _);rw [G] at h3;refine h3.perm ?_;exact (AAC).trans sm
   rcases hh with ⟨s,B,A3,⟨y,hy,rfl⟩,m⟩|⟨B,⟨c,z,hc,hz,rfl⟩,m⟩
   ·obtain ⟨M,V,O⟩:=hleave .ready none _ sm m;exact ⟨none,M,V,fin w.heap.size s y A3 hy _ _ AA O⟩
   ·obtain ⟨M,V,O⟩:=hleave .done (some c) _ sm m;refine ⟨some c,M,V,?_⟩;rcases hc with rfl|⟨id,rfl⟩
    ·exact wpIn_ret (finr w.heap.size z hz _ _ AA O)
    ·exact wpIn_exit (finx w.heap.size id z hz _ _ AA O)
end
section
open Go.RowKit
abbrev e_:aa→Value:=fun s=>vA (aa.cells s)
abbrev eN:aI→Value:=fun s=>vA (aI.cells s)
abbrev TM:=List (Int×aa)
abbrev FM:=List (aI×Int)
def gY {α:Type} (m:α) (b:Nat):List Value:=[Value.map (some b)]
def r_ (m:TM) (b:Nat):List au:=[iu iV b (bS e_ m)]
def oM (m:FM) (b:Nat):List au:=[iu eN b (bS iV m)]
theorem m8 {M A:Type} {f:M→A→List au}: ∀ (m:M) (a:A) (w:World),(∀ X∈f m a,X.holds w)→ ∀ X∈f m a,X.holds w:=fun _ _ _ h=>h
/-- untied -/
theorem Jy (i:Nat) (hn:decide (i::(range C.length).filter fun k=>k != i).Nodup=true) (hC:kQ C (i::(range C.length).filter fun k=>k != i)=bD X::C1) (h:RJ E ops Q rest D L (X++C1)):RJ E ops Q rest D L C:=fun a w hf hs=>h a w hf (St.iJ (St.kQ _ hn hC hs))
end
section
def cS (ln:bV) (rd:dA) (e:List Int) (tms:List TM):cw:=⟨rd.Start,rd.hP,e,tms,ln.dp,ln.eZ,(rd.ab.n:Int)⟩
def TP (o:Int×aa):List Value:=[.int .i64 o.1,.agg (aa.cells o.2).toArray]
structure Lx (w:cw):Prop where
 n:w.n≤6
 times:w.BD.length=w.n
 now:0≤w.Start∧w.Start≤w.hP∧w.hP≤86400000
 least: ∀ x∈w.sJ,1≤x∧x≤500000000
 I7: ∀ t∈w.BD,∀ p∈t,(0≤p.1∧p.1≤10)∧0≤p.2.Lo∧p.2.Lo≤p.2.Hi∧p.2.Hi≤86400000
theorem Lx.opt (h:Lx w) {o:Int×aa} (ho:o∈kW w b):(-1≤o.1∧o.1≤10)∧0≤o.2.Lo∧o.2.Lo≤o.2.Hi∧o.2.Hi≤86400000:=by
 unfold kW za at ho;rcases bI.1 ho with rfl|ho
 ·have:=h.now;simp only;omega
 ·cases ht:w.BD[b]? with
  |none=>simp [ht] at ho
  |some t=>
   rw [ht] at ho;have:=h.I7 t (aF ht) o ho;omega
theorem Lx.cW (h:Lx w) (b:Nat):0≤cW w b∧cW w b≤500000000:=by
 unfold Go.Proofs.YtgnlmfdknlbkkaaGreatDoor.cW;cases ht:w.sJ[b]? with
 |none=>simp
 |some x=>have:=h.least x (aF ht);simp only [ABa];omega
theorem yj (s:Int):(0≤(gU s).right∧0≤(gU s).fH)∧(gU s).right+(gU s).fH=1:=by unfold gU;split<;>simp
theorem OP (h:Lx w): ∀ (b:Nat) p,p∈sv w b→(0≤p.2∧p.2≤86400000)∧(0≤p.1.right∧0≤p.1.fH)∧p.1.right+p.1.fH=(b:Int):=by
 intro b
 induction b with
 |zero=>
  intro p hp;simp only [sv,bU] at hp;subst hp;have:=h.now;simp only;omega
 |succ b ih=>
  intro q hq;obtain ⟨p,hp,o,ho,e⟩:=lQ.1 hq;have A:=ih p hp;have B:=h.opt ho;have C:=h.cW b;have D:=h.now;have E:=yj o.1;unfold oG at e;split at e
  ·simp only [k4] at e;subst e;simp only [dY];omega
  ·cases e
theorem XY (h:Lx w): ∀ (k:Nat) p,p∈Ts w k→(-(500000000*(k:Int))≤p.2∧p.2≤86400000)∧(0≤p.1.right∧0≤p.1.fH)∧p.1.right+p.1.fH≤(k:Int):=by
 intro k
 induction k with
 |zero=>
  intro p hp;simp only [Ts,bU] at hp;subst hp;have:=h.now;simp only;omega
 |succ k ih=>
  intro q hq;simp only [Ts,bI,AAx,AAD] at hq;rcases hq with rfl|⟨p,hp,o,ho,e⟩
  ·have:=h.now;simp only;omega
  ·have A:=ih p hp;have B:=h.opt ho;have C:=h.cW (w.n-(k+1));have D:=h.now;have E:=yj o.1;unfold rh at e;split at e
   ·simp only [k4] at e;subst e;simp only [dY];omega
   ·cases e
theorem M4 (h:Lx w) (hp:p∈back w b):(-3000000000≤p.2∧p.2≤86400000)∧(0≤p.1.right∧0≤p.1.fH)∧p.1.right+p.1.fH≤6:=by
 have:=XY h _ _ hp;have:=h.n;omega
theorem zI {t:TM} (ht:w.BD[b]? =some t) {o:Int×aa}:o∈kW w b↔o=(-1,⟨w.Start,w.hP⟩)∨o∈t:=by
 unfold kW za;rw [ht];simp
theorem nM {K:Type} [DecidableEq K] {l:List (K×β)} {x:K} {y:β} (hn:(l.map (·.1)).Nodup) (hm:(x,y)∈l) {o:K×β} (h:o∈l):o∈cJ l x∨o=(x,y):=by
 by_cases e:o.1=x
 ·right;obtain ⟨k,v⟩:=o;simp only at e;subst e;have B:=(ko hn).1 h;have A:=(ko hn).1 hm;rw [B] at A;cases A;rfl
 ·exact .inl (lP.2 ⟨h,e⟩)
theorem KX {K:Type} [DecidableEq K] {t l ys:List (K×β)} {x:K} {y:β} (hn:(l.map (·.1)).Nodup) (hm:(x,y)∈l) (h:∀ o∈t,o∈l∨o∈ys): ∀ o∈t,o∈cJ l x∨o∈ys++[(x,y)]:=fun o ho=>by
 rcases h o ho with h|h
 ·rcases nM hn hm h with h|h
  ·exact .inl h
  ·exact .inr (by simp [h])
 ·exact .inr (by simp [h])
theorem oe {K:Type} [DecidableEq K] {t l:List (K×β)} {x:K} (h:∀ o∈l,o∈t): ∀ o∈cJ l x,o∈t:=fun o ho=>h o (lP.1 ho).1
theorem O0 (h:∀ p∈m,p∈left∨oF w p.1=false) (h0:left=[]):mR w m=false:=by
 unfold mR;rw [ACD];intro p hp;rcases h p hp with q|q
 ·rw [h0] at q;cases q
 ·simp [q]
theorem Rl (hp:p∈m) (h:oF w p.1=true):mR w m=true:=AAm.2 ⟨p,hp,h⟩
theorem M1 {t:aI} {v:Int} (hn:(left.map (·.1)).Nodup) (hm:(t,v)∈left) (h:∀ p∈m,p∈left∨oF w p.1=false) (hf:oF w t=false): ∀ p∈m,p∈cJ left t∨oF w p.1=false:=fun p hp=>by
 rcases h p hp with q|q
 ·rcases nM hn hm q with q|q
  ·exact .inl q
  ·right;rw [q];exact hf
 ·exact .inr q
/-- what the maps of a watch are -/
structure yC (w:cw) (fs:List (List (aI×Int))):Prop where
 len:fs.length=w.n+1
 min: ∀ (b:Nat) m,fs[b]? =some m→wT m (sv w b)
 keys: ∀ (b:Nat) m,fs[b]? =some m→(m.map (·.1)).Nodup
structure vH (w:cw) (bs:List (List (aI×Int))):Prop where
 len:bs.length=w.n+1
 max: ∀ (b:Nat) m,bs[b]? =some m→yu m (back w b)
 keys: ∀ (b:Nat) m,bs[b]? =some m→(m.map (·.1)).Nodup
theorem yC.mem (h:yC w fs) (hm:fs[b]? =some m) (hp:p∈m):p∈sv w b:=(h.min b m hm).1 _ _ ((gj (h.keys b m hm)).1 hp)
theorem vH.mem (h:vH w fs) (hm:fs[b]? =some m) (hp:p∈m):p∈back w b:=(h.max b m hm).1 _ _ ((gj (h.keys b m hm)).1 hp)
theorem LQ {t l ys:List (Int×aa)} (ht:w.BD[b]? =some t) (h:∀ o∈t,o∈l∨o∈ys) (h0:l=[]) (hs:(-1,(⟨w.Start,w.hP⟩:aa))∈ys): ∀ o∈kW w b,o∈ys:=fun o ho=>by
 rcases (zI ht).1 ho with rfl|ho
 ·exact hs
 ·rcases h o ho with q|q
  ·rw [h0] at q;cases q
  ·exact q
end
section
/-- by these options all is yielded -/
def nu (w:cw) (b:Nat) (mf mb:List (aI×Int)) (os ys:List (Int×aa)):Prop:= ∀ o∈os,∀ p∈mf,∀ u∈mb,∀ q,ot w b p u o=some q→q∈ys
def pJ (w:cw) (b:Nat) (mf mb:List (aI×Int)) (o:Int×aa) (left:List (aI×Int)) (ys:List (Int×aa)):Prop:= ∀ p∈mf,p∈left∨ ∀ u∈mb,∀ q,ot w b p u o=some q→q∈ys
def pf (w:cw) (b:Nat) (mb:List (aI×Int)) (o:Int×aa) (p:aI×Int) (left:List (aI×Int)) (ys:List (Int×aa)):Prop:= ∀ u∈mb,u∈left∨ ∀ q,ot w b p u o=some q→q∈ys
variable {w:cw} {b:Nat} {mf mb left:List (aI×Int)} {o x:Int×aa} {os ys:List (Int×aa)} {p u:aI×Int}
theorem nu.nil:nu w b mf mb [] ys:=fun o ho=>by cases ho
theorem nu.app (h:nu w b mf mb os ys):nu w b mf mb os (ys++[x]):=fun o ho p hp u hu q e=>m1 _ (h o ho p hp u hu q e)
theorem pJ.app (h:pJ w b mf mb o left ys):pJ w b mf mb o left (ys++[x]):=fun p hp=>(h p hp).imp id fun h u hu q e=>m1 _ (h u hu q e)
theorem pJ.start:pJ w b mf mb o mf ys:=fun p hp=> .inl hp
theorem pf.start:pf w b mb o p mb ys:=fun p hp=> .inl hp
theorem pf.skip {t:aI} {v:Int} (hn:(left.map (·.1)).Nodup) (hm:(t,v)∈left) (h:pf w b mb o p left ys) (he:ot w b p (t,v) o=none):pf w b mb o p (cJ left t) ys:=fun u hu=>by
 rcases h u hu with q|q
 ·rcases nM hn hm q with q|q
  ·exact .inl q
  ·right;intro z hz;rw [q,he] at hz;cases hz
 ·exact .inr q
theorem pf.Z_ {t:aI} {v:Int} (hn:(left.map (·.1)).Nodup) (hm:(t,v)∈left) (h:pf w b mb o p left ys) (he:ot w b p (t,v) o=some x):pf w b mb o p (cJ left t) (ys++[x]):=fun u hu=>by
 rcases h u hu with q|q
 ·rcases nM hn hm q with q|q
  ·exact .inl q
  ·right;intro z hz;rw [q,he] at hz;cases hz;simp
 ·right;intro z hz;exact m1 _ (q z hz)
theorem pJ.next {t:aI} {v:Int} {l2:List (aI×Int)} (hn:(left.map (·.1)).Nodup) (hm:(t,v)∈left) (h:pJ w b mf mb o left ys) (hq:pf w b mb o (t,v) l2 ys) (h0:l2=[]):pJ w b mf mb o (cJ left t) ys:=fun p hp=>by
 rcases h p hp with q|q
 ·rcases nM hn hm q with q|q
  ·exact .inl q
  ·right;intro u hu z hz;subst q;rcases hq u hu with q|q
   ·rw [h0] at q;cases q
   ·exact q z hz
 ·exact .inr q
theorem nu.next (h:nu w b mf mb os ys) (hp:pJ w b mf mb o left ys) (h0:left=[]):nu w b mf mb (os++[o]) ys:=fun o' ho p hp' u hu q e=>by
 rcases dZ.1 ho with ho|ho
 ·exact h o' ho p hp' u hu q e
 ·simp only [bU] at ho;subst ho;rcases hp p hp' with z|z
  ·rw [h0] at z;cases z
  ·exact z u hu q e
theorem nu.fin (h:nu w b mf mb os ys) (ho: ∀ o∈kW w b,o∈os): ∀ q∈sI w b mf mb,q∈ys:=fun q hq=>by
 obtain ⟨o,A,p,B,u,C,e⟩:=kj.1 hq;exact h o (ho o A) p B u C q e
theorem Mo (h:max (p.2+cW w b) o.2.Lo≤min u.2 o.2.Hi) (h2:oF w (dY (dY p.1 u.1) (gU o.1))=true):ot w b p u o=some (o.1,⟨max (p.2+cW w b) o.2.Lo,min u.2 o.2.Hi⟩):=by
 unfold ot mD Cc;rw [c0 ⟨h,h2⟩]
theorem OI (h: ¬ max (p.2+cW w b) o.2.Lo≤min u.2 o.2.Hi):ot w b p u o=none:=by
 unfold ot mD;rw [c1 (fun q=>h q.1)]
theorem Lc (h2:oF w (dY (dY p.1 u.1) (gU o.1))=false):ot w b p u o=none:=by
 unfold ot Cc;rw [c1 (fun q=>by rw [h2] at q;exact absurd q.2 dc)]
theorem pB {v:Int} (h:w.sJ[b]? =some v):cW w b=v:=by unfold cW;rw [h];rfl
theorem EV {t q:aI} {v z y:Int} (hy:w.sJ[b]? =some y) (h:max (v+y) o.2.Lo≤min z o.2.Hi) (h2:oF w (dY (dY t q) (gU o.1))=true):ot w b (t,v) (q,z) o=some (o.1,⟨max (v+y) o.2.Lo,min z o.2.Hi⟩):=by
 have e:=pB hy;subst e;exact Mo h h2
theorem Kv {t q:aI} {v z y:Int} (hy:w.sJ[b]? =some y) (h: ¬ max (v+y) o.2.Lo≤min z o.2.Hi):ot w b (t,v) (q,z) o=none:=by
 have e:=pB hy;subst e;exact OI h
theorem pU {k:aI} {y:Int} (h:(m.map (·.1)).Nodup):((d_ m k y).map (·.1)).Nodup:=by
 unfold d_;by_cases hx:(m.lookup k).isSome
 ·rw [c0 hx,map_map];have e:m.map ((fun p=>p.1)∘fun p=>if p.1=k then (k,y) else p)=m.map (·.1):=by
   apply AB1;intro p _;simp only [Function.comp];split
   ·rename_i e;exact e.symm
   ·rfl
  rw [e];exact h
 ·rw [c1 hx,AAF,ABs];refine ⟨h,sm,?_⟩;intro a ha c hc;simp only [m2,map_nil,bU] at hc;rw [hc];obtain ⟨p,hp,rfl⟩:=cu.1 ha;have hn:m.lookup k=none:=by cases h0:m.lookup k with
   |none=>rfl
   |some v=>exact absurd (by rw [h0];rfl) hx
  exact ja.1 hn p hp
theorem Gf (h:(m.map (·.1)).Nodup):((rq m q).map (·.1)).Nodup:=by
 unfold rq;split
 ·exact pU h
 ·split
  ·exact pU h
  ·exact h
theorem Fu (h:(m.map (·.1)).Nodup):((rm m q).map (·.1)).Nodup:=by
 unfold rm;split
 ·exact pU h
 ·split
  ·exact pU h
  ·exact h
/-- a map of the first times, on its way -/
structure Ah (w:cw) (b:Nat) (m:List (aI×Int)):Prop where
 snd:yr m (sv w (b+1))
 keys:(m.map (·.1)).Nodup
structure yL (w:cw) (b:Nat) (m:List (aI×Int)):Prop where
 snd:yr m (back w b)
 keys:(m.map (·.1)).Nodup
 zero: ∃ v,m.lookup ⟨0,0⟩=some v∧w.hP≤v
theorem NB (h:max (p.2+cW w b) o.2.Lo≤min o.2.Hi w.hP):oG w b p o=some (dY p.1 (gU o.1),max (p.2+cW w b) o.2.Lo):=by unfold oG;rw [c0 h]
theorem Rh (h: ¬ max (p.2+cW w b) o.2.Lo≤min o.2.Hi w.hP):oG w b p o=none:=by unfold oG;rw [c1 h]
theorem Nd (h:o.2.Lo≤min p.2 o.2.Hi):rh w b p o=some (dY p.1 (gU o.1),min p.2 o.2.Hi-cW w b):=by unfold rh;rw [c0 h]
theorem Rt (h: ¬ o.2.Lo≤min p.2 o.2.Hi):rh w b p o=none:=by unfold rh;rw [c1 h]
theorem Ah.start:Ah w b []:=⟨fun t v h=>by simp at h,ABt⟩
theorem Ah.add (h:Ah w b m) (hp:p∈sv w b) (ho:o∈kW w b) (he:oG w b p o=some q):Ah w b (rq m q):=⟨KP h.snd (lQ.2 ⟨p,hp,o,ho,he⟩),Gf h.keys⟩
theorem yL.start (hb:b<w.n):yL w b [(⟨0,0⟩,w.hP)]:=⟨fun t v h=>by
 obtain ⟨rfl,rfl⟩:=re.1 h;exact (qC hb).2 (.inl U),sm,w.hP,re.2 ⟨U,U⟩,wt _⟩
theorem yL.add (hb:b<w.n) (h:yL w b m) (hp:p∈back w (b+1)) (ho:o∈kW w b) (he:rh w b p o=some q):yL w b (rm m q):=⟨L_ h.snd ((qC hb).2 (.inr ⟨p,hp,o,ho,he⟩)),Fu h.keys,by
 obtain ⟨v,A,C⟩:=h.zero;obtain ⟨v',B,D⟩:=sS (q:=q) _ _ A;exact ⟨v',B,I⟩⟩
theorem j8.none_ (h:j8 w b m p os) (he:oG w b p o=none):j8 w b m p (os++[o]):=h.add (zV.refl _) fun q hq=>by rw [he] at hq;cases hq
theorem j8.Ob (h:j8 w b m p os) (he:oG w b p o=some q):j8 w b (rq m q) p (os++[o]):=h.add yl fun q' hq=>by rw [he] at hq;cases hq;exact LZ
theorem j9.none_ (h:j9 w b m p os) (he:rh w b p o=none):j9 w b m p (os++[o]):=h.add (Al.refl _) fun q hq=>by rw [he] at hq;cases hq
theorem j9.Ob (h:j9 w b m p os) (he:rh w b p o=some q):j9 w b (rm m q) p (os++[o]):=h.add sS fun q' hq=>by rw [he] at hq;cases hq;exact Mk
/-- what of a map of the beam before is used already -/
def lg (w:cw) (b:Nat) (mb m left:List (aI×Int)):Prop:= ∀ p∈mb,p∈left∨j8 w b m p (kW w b)
def kR (w:cw) (b:Nat) (mb m left:List (aI×Int)):Prop:= ∀ p∈mb,p∈left∨j9 w b m p (kW w b)
theorem lg.start:lg w b mb m mb:=fun p hp=> .inl hp
theorem kR.start:kR w b mb m mb:=fun p hp=> .inl hp
theorem lg.lower (h:lg w b mb m left) (hl:zV m m'):lg w b mb m' left:=fun p hp=>(h p hp).imp id fun h=>h.lower hl
theorem kR.upper (h:kR w b mb m left) (hl:Al m m'):kR w b mb m' left:=fun p hp=>(h p hp).imp id fun h=>h.upper hl
theorem lg.next {t:aI} {v:Int} (hn:(left.map (·.1)).Nodup) (hm:(t,v)∈left) (h:lg w b mb m left) (hd:j8 w b m (t,v) os) (ho:∀ o∈kW w b,o∈os):lg w b mb m (cJ left t):=fun p hp=>by
 rcases h p hp with q|q
 ·rcases nM hn hm q with q|q
  ·exact .inl q
  ·right;rw [q];exact hd.sub ho
 ·exact .inr q
theorem kR.next {t:aI} {v:Int} (hn:(left.map (·.1)).Nodup) (hm:(t,v)∈left) (h:kR w b mb m left) (hd:j9 w b m (t,v) os) (ho:∀ o∈kW w b,o∈os):kR w b mb m (cJ left t):=fun p hp=>by
 rcases h p hp with q|q
 ·rcases nM hn hm q with q|q
  ·exact .inl q
  ·right;rw [q];exact hd.sub ho
 ·exact .inr q
theorem lg.fin (h:lg w b mb m left) (h0:left=[]): ∀ p∈mb,j8 w b m p (kW w b):=fun p hp=>by
 rcases h p hp with q|q
 ·rw [h0] at q;cases q
 ·exact q
theorem kR.fin (h:kR w b mb m left) (h0:left=[]): ∀ p∈mb,j9 w b m p (kW w b):=fun p hp=>by
 rcases h p hp with q|q
 ·rw [h0] at q;cases q
 ·exact q
end
section
def nq (sg:List aR) (i:Nat):aR:=if i=0 then ⟨-1,0⟩ else (sg[i-1]?).getD ⟨-1,0⟩
theorem lB {s:aR} (h:sg[i]? =some s):nq sg (i+1)=s:=by unfold nq;rw [c1 I,AA_,h];rfl
def k7 (l:bf) (s:aR):Prop:=(0≤s.fR∧s.fR≤(l.ai.length:Int)-1)∧0≤s.Read∧s.Read≤86400000
def j3 (l:bf) (sg:List aR) (i:Nat) (s:aR):Prop:=k7 l s∧ ¬ s.fR<(nq sg i).fR∧ ¬ (s.fR=(nq sg i).fR∧s.Read≤(nq sg i).Read)
def qt (l:bf) (sg:List aR) (i:Nat):Prop:= ∀ (j:Nat) s,j<i→sg[j]? =some s→j3 l sg j s
structure gp (l:bf) (r:c_):Prop where
 time:0≤r.Start∧r.Start≤r.hP∧r.hP≤86400000
 len:r.ab.length≤10
 sig: ∀ (i:Nat) s,r.ab[i]? =some s→j3 l r.ab i s
noncomputable instance (l:bf) (r:c_):Decidable (gp l r):=Classical.propDecidable _
theorem yi:qt l sg 0:=fun j s hj=>absurd hj (s4 _)
theorem kb {s:aR} (h:qt l sg i) (hs:sg[i]? =some s) (ho:j3 l sg i s):qt l sg (i+1):=fun j z hj hz=>by
 rcases r4 j i with q|q
 ·exact h j z q hz
 ·obtain rfl:j=i:=by omega
  rw [hs] at hz;cases hz;exact ho
theorem zy (h1:0≤r.Start∧r.Start≤r.hP∧r.hP≤86400000) (h2:r.ab.length≤10) (h:qt l r.ab i) (hi:r.ab.length≤i):gp l r:=
 ⟨h1,h2,fun j s hs=>h j s (by have:=(aT.1 hs).1;omega) hs⟩
noncomputable def wB (l:bf) (sg:List aR) (b k:Nat):Option (Int×aa):=(sg[k]?).bind fun s=>if s.fR=(b:Int)∧(dw l s).Lo≤(dw l s).Hi then some ((k:Int),dw l s) else none
noncomputable def qu (l:bf) (sg:List aR) (i b:Nat):TM:=(range i).filterMap (wB l sg b)
noncomputable def cM (l:bf) (sg:List aR) (i:Nat):List TM:=(range l.ai.length).map (qu l sg i)
noncomputable def cv (l:bf) (n:Nat):List Int:=(range n).map (ew l)
theorem tD {n:Nat}:cv l (n+1)=cv l n++[ew l n]:=by simp [cv,AAV]
theorem dH {n:Nat}:(cv l n).length=n:=by simp [cv]
theorem ib:(cM l sg i).length=l.ai.length:=by simp [cM]
theorem rl (h:b<l.ai.length):(cM l sg i)[b]? =some (qu l sg i b):=by simp [cM,h]
theorem r9 {q:Int×aa}:wB l sg b k=some q↔ ∃ s,sg[k]? =some s∧(s.fR=(b:Int)∧(dw l s).Lo≤(dw l s).Hi)∧q=((k:Int),dw l s):=by
 unfold wB;cases h:sg[k]? with
 |none=>simp
 |some s=>
  simp only [r7,k4];by_cases e:s.fR=(b:Int)∧(dw l s).Lo≤(dw l s).Hi
  ·rw [c0 e];constructor
   ·intro h;cases h;exact ⟨s,rfl,e,rfl⟩
   ·rintro ⟨s',rfl,_,rfl⟩;rfl
  ·rw [c1 e];constructor
   ·intro h;cases h
   ·rintro ⟨s',rfl,e',_⟩;exact absurd e' e
theorem vn {q:Int×aa}:q∈qu l sg i b↔ ∃ k,k<i∧ ∃ s,sg[k]? =some s∧(s.fR=(b:Int)∧(dw l s).Lo≤(dw l s).Hi)∧q=((k:Int),dw l s):=by
 unfold qu;simp only [AAD,AAd,r9]
theorem tw:qu l sg (i+1) b=qu l sg i b++(wB l sg b i).toList:=by
 unfold qu;rw [AAV,AAh];congr 1
theorem zW:cM l sg 0=List.replicate l.ai.length []:=by
 unfold cM;rw [List.eq_replicate_iff];refine ⟨sm,fun t ht=>?_⟩;obtain ⟨b,_,rfl⟩:=cu.1 ht;rfl
theorem rM {s:aR} (hs:sg[i]? =some s) (h:¬ (dw l s).Lo≤(dw l s).Hi):cM l sg (i+1)=cM l sg i:=by
 unfold cM;apply AB1;intro b _;rw [tw];have:wB l sg b i=none:=by
  cases e:wB l sg b i with
  |none=>rfl
  |some q=>obtain ⟨s',A,⟨_,B⟩,_⟩:=r9.1 e;rw [hs] at A;cases A;exact absurd B h
 rw [this];simp
theorem uC {s:aR} (hs:sg[i]? =some s) (hb:0≤s.fR∧s.fR≤(l.ai.length:Int)-1) (h:(dw l s).Lo≤(dw l s).Hi) {x:TM} (hx:(cM l sg i)[s.fR.toNat]? =some x):
 (cM l sg i).set s.fR.toNat (d_ x (i:Int) (dw l s))=cM l sg (i+1):=by
 have A:s.fR.toNat<l.ai.length:=by omega
 rw [rl A] at hx;cases hx;have B:d_ (qu l sg i s.fR.toNat) (i:Int) (dw l s)=qu l sg (i+1) s.fR.toNat:=by
  have hn:(qu l sg i s.fR.toNat).lookup (i:Int)=none:=ja.2 fun p hp e=>by
   obtain ⟨k,hk,_,_,_,rfl⟩:=vn.1 hp;simp only at e;omega
  have ho:wB l sg s.fR.toNat i=some ((i:Int),dw l s):=r9.2 ⟨s,hs,⟨I,h⟩,rfl⟩;rw [tw,ho];unfold d_;rw [hn];rfl
 rw [B];apply ABF;intro b;rw [AAO];by_cases e:s.fR.toNat=b
 ·rw [c0 e,ib,← e,c0 A,rl A]
 ·rw [c1 e];by_cases hb':b<l.ai.length
  ·rw [rl hb',rl hb',tw];have:wB l sg b i=none:=by
    cases e2:wB l sg b i with
    |none=>rfl
    |some q=>obtain ⟨s',C,⟨D,_⟩,_⟩:=r9.1 e2;rw [hs] at C;cases C;exact absurd I e
   rw [this];simp
  ·rw [AAo (by rw [ib];omega),AAo (by rw [ib];omega)]
noncomputable def dW (l:bf) (r:c_):cw:=⟨r.Start,r.hP,cv l l.ai.length,cM l r.ab r.ab.length,l.dp,l.eZ,(r.ab.length:Int)⟩
theorem QC (ht:cD l.bQ=true) (h:nz l) (hi:i<l.ai.length):1≤ew l i∧ew l i≤500000000:=by
 have A:=BY ht h.vJ i;have B:=h.Um i hi;have C:=h.head.1;unfold ew qz;refine ⟨(Int.le_ediv_iff_mul_le I).2 I,?_⟩;have:(1000*mM l i+l.g7-1)/l.g7≤1000*mM l i+l.g7-1:=ACG _ I;omega
theorem SZ (l:bf) (s:aR):0≤(dw l s).Lo∧(dw l s).Hi≤86400000:=by
 have A:=jG (p:=iT (sw l s) s.Read) (n:=86400001);have B:=jG (p:=iS (sw l s) s.Read) (n:=86400001);unfold dw ET;simp only;omega
theorem n_ (ht:cD l.bQ=true) (h:nz l) (hr:gp l r):Lx (dW l r):=by
 have hh:=h.head;unfold fg at hh;refine ⟨?_,by simp [dW,ib,cw.n,dH],hr.time,fun x hx=>?_,fun t A p hp=>?_⟩
 ·show (cv l l.ai.length).length≤6
  rw [dH];omega
 ·obtain ⟨i,hi,rfl⟩:=cu.1 hx;exact QC ht h (AAd.1 hi)
 ·obtain ⟨b,hb,rfl⟩:=cu.1 A;obtain ⟨k,hk,s,hs,⟨_,B⟩,rfl⟩:=vn.1 hp;have C:=SZ l s;have D:=hr.len;simp only;omega
noncomputable def fK (l:bf) (r:c_) (me:Int):Int:=if dU l=0 then (if gp l r then (if me=0 then (if n8 (dW l r)=[] then 8 else 0) else me) else 51) else dU l
theorem oo (h:¬ dU l=0):fK l r me=dU l:=c1 h
theorem fY (h:dU l=0) (h2:¬ gp l r):fK l r me=51:=by unfold fK;rw [c0 h,c1 h2]
theorem EZ (h:dU l=0) (h2:gp l r) (h3:¬ me=0):fK l r me=me:=by unfold fK;rw [c0 h,c0 h2,c1 h3]
theorem vq (h:dU l=0) (h2:gp l r) (h3:me=0) (h4:n8 (dW l r)=[]):fK l r me=8:=by unfold fK;rw [c0 h,c0 h2,c0 h3,c0 h4]
theorem xp (h:dU l=0) (h2:gp l r) (h3:me=0) (h4:¬ n8 (dW l r)=[]):fK l r me=0:=by unfold fK;rw [c0 h,c0 h2,c0 h3,c1 h4]
theorem jQ (h:fK l r me=0):dU l=0∧gp l r∧me=0∧ ¬ n8 (dW l r)=[]:=by
 unfold fK at h;split at h
 ·split at h
  ·split at h
   ·split at h
    ·omega
    ·exact ⟨asm,asm,asm,asm⟩
   ·omega
  ·omega
 ·omega
end
section
def rZ (l:List Int):Int:=(l.drop 1).foldl min (l.headD 0)
theorem Ou {l:List Int} {x:Int} (h:l[i]? =some x) (hi:1≤i):rZ (l.take (i+1))=min (rZ (l.take i)) x:=by
 have e:l.take (i+1)=l.take i++[x]:=by rw [l1,h];rfl
 have hl:1≤(l.take i).length:=by have:=(aT.1 h).1;rw [k5];omega
 rw [e];cases ht:l.take i with
 |nil=>rw [ht] at hl;simp at hl
 |cons y ys=>simp [rZ,List.foldl_append]
theorem K_ {l:List Int} {x:Int} (h:l[0]? =some x):rZ (l.take 1)=x:=by
 cases l with
 |nil=>simp at h
 |cons y ys=>simp at h;subst h;simp [rZ]
theorem F2: ∀ (l:List Int) (a:Int),(l.foldl min a=a∨l.foldl min a∈l)∧l.foldl min a≤a∧ ∀ x∈l,l.foldl min a≤x
 |[],a=>⟨.inl rfl,sm,sm⟩
 |y::l,a=>by
  obtain ⟨A,C,B⟩:=F2 l (min a y);simp only [ACN];refine ⟨?_,I,?_⟩
  ·rcases A with A|A
   ·rw [A];rcases Int.le_total a y with q|q
    ·left;omega
    ·right;rw [show min a y=y by omega];simp
   ·right;exact dk _ A
  ·intro x hx;rcases bI.1 hx with rfl|hx
   ·omega
   ·exact B x hx
theorem Tr {l:List Int} (h:l≠[]):rZ l∈l∧ ∀ x∈l,rZ l≤x:=by
 cases l with
 |nil=>exact absurd rfl h
 |cons y ys=>
  obtain ⟨A,B,C⟩:=F2 ys y;refine ⟨?_,fun x hx=>?_⟩
  ·rcases A with A|A
   ·simp [rZ,A]
   ·exact dk _ (by simpa [rZ] using A)
  ·rcases bI.1 hx with rfl|hx
   ·simpa [rZ] using B
   ·simpa [rZ] using C x hx
noncomputable def lU (l:bf) (r:c_):List Int:=if fK l r 0=0 then n8 (dW l r) else []
theorem Cz (h:fK l r 0=0):lU l r=n8 (dW l r):=c0 h
theorem CK (h:¬ fK l r 0=0):lU l r=[]:=c1 h
theorem B6 (h:fK l r 0=0):lU l r≠[]:=by rw [Cz h];exact (jQ h).2.2.2
theorem GV (h:fK l r 0=0):1≤(lU l r).length:=ACT.2 (B6 h)
theorem G0:(lU l r).length≤100:=by
 unfold lU;split
 ·rename_i h;obtain ⟨A,B,_⟩:=jQ h;obtain ⟨ht,ho⟩:=er A;have:=(n_ ht ho B).n;have C:=vf (w:=dW l r) (k:=(dW l r).n+1);unfold n8;omega
 ·simp
noncomputable def lR (l:bf) (b:Int):Int:=if 0≤b∧b≤(l.ai.length:Int)-1 then 0 else 2
theorem Ad {b:Int} (h:0≤b∧b≤(l.ai.length:Int)-1):lR l b=0:=c0 h
theorem GJ {b:Int} (h:lR l b=0):0≤b∧b≤(l.ai.length:Int)-1:=by
 unfold lR at h;split at h
 ·assumption
 ·omega
noncomputable def pb (l:bf) (r:c_) (b:Nat):aa:=As (u_ (dW l r) b)
noncomputable def eT (l:bf) (r:c_) (b:Int):Int:=if fK l r (lR l b)=0 then (if pb l r b.toNat=oN then 6 else 0) else fK l r (lR l b)
noncomputable def eL (l:bf) (r:c_) (b:Int):aa:=if eT l r b=0 then pb l r b.toNat else gP
theorem nH {b:Int} (h:¬ fK l r (lR l b)=0):eT l r b=fK l r (lR l b)∧eL l r b=gP:=by
 have e:eT l r b=fK l r (lR l b):=c1 h;exact ⟨e,by unfold eL;rw [c1 (by rw [e];exact h)]⟩
theorem th (h:fK l r (lR l b)=0) (h2:pb l r b=oN):eT l r b=6∧eL l r b=gP:=by
 have e:eT l r b=6:=by unfold eT;rw [c0 h,AAP,c0 h2]
 exact ⟨e,by unfold eL;rw [c1 (by rw [e];omega)]⟩
theorem td (h:fK l r (lR l b)=0) (h2:¬ pb l r b=oN):eT l r b=0∧eL l r b=pb l r b:=by
 have e:eT l r b=0:=by unfold eT;rw [c0 h,AAP,c1 h2]
 exact ⟨e,by unfold eL;rw [c0 e,AAP]⟩
theorem Qm (h:Lx w) {q:Int×aa} (hq:q∈u_ w b):0≤q.2.Lo∧q.2.Lo≤q.2.Hi∧q.2.Hi≤86400000:=by
 have A:=qi hq;obtain ⟨o,ho,p,hp,u,hu,e⟩:=kj.1 hq;obtain ⟨_,_,rfl⟩:=mw.1 e;have B:=h.opt ho;simp only [mD] at A ⊢;omega
theorem wm {b:Int} (h:eT l r b=0):0≤(eL l r b).Lo∧(eL l r b).Lo≤(eL l r b).Hi∧(eL l r b).Hi≤86400000:=by
 have ho:fK l r (lR l b)=0:=by
  by_cases e:fK l r (lR l b)=0
  ·exact e
  ·rw [(nH e).1] at h;exact absurd h e
 obtain ⟨B,C,_⟩:=jQ ho;obtain ⟨ht,A⟩:=er B;have hw:=n_ ht A C;have hv:eL l r b=pb l r b.toNat:=by unfold eL;rw [c0 h]
 have hn:pb l r b.toNat≠oN:=fun e=>by unfold eT at h;rw [c0 ho,c0 e] at h;omega
 have hh:=x8 (l:=u_ (dW l r) b.toNat) fun q hq=>qi hq;rw [hv];unfold pb at hn ⊢;rcases hh with ⟨_,e⟩|hh
 ·exact absurd e hn
 ·obtain ⟨x,hx,ex⟩:=hh.lo;obtain ⟨y,hy,ey⟩:=hh.hi;have:=Qm hw hx;have:=Qm hw hy;have:=hh.le;omega
noncomputable def F0 (l:bf) (r:c_):aa:=if eT l r l.b_=0 then ⟨(eL l r l.b_).Lo-r.Start,(eL l r l.b_).Hi-r.Start⟩ else gP
theorem Hk (h:eT l r l.b_=0):F0 l r=⟨(eL l r l.b_).Lo-r.Start,(eL l r l.b_).Hi-r.Start⟩:=c0 h
theorem H7 (h:¬ eT l r l.b_=0):F0 l r=gP:=c1 h
theorem yK {b:Int} (h:eT l r b=0):gp l r:=by
 by_cases e:fK l r (lR l b)=0
 ·exact (jQ e).2.1
 ·rw [(nH e).1] at h;exact absurd h e
theorem BU {k:List (Int×aa)} {h:aa} {q:Int×aa} (hh:lT k h) (hq:q.2.Lo≤q.2.Hi) (hz:oy h q.2=z):lT (k++[q]) z:=by subst hz;exact xu hh hq
end
section
def nO (l:bf):Prop:=(20<(l.bQ.length:Int)∨8<(l.aC.length:Int)∨10<(l.ai.length:Int))∨ ∃ c∈l.aC,10<(c.bo.length:Int)
noncomputable instance (l:bf):Decidable (nO l):=Classical.propDecidable _
/-- what is asked of a line that comes in -/
structure wK (l:bf) (az:List RA):Prop where
 sQ:l.bQ.length≤9223372036854775807
 side: ∀ x∈l.bQ,0≤x.gu∧x.gu≤255
 sR:l.aC.length≤9223372036854775807
 mE:az.length=l.aC.length
 sP:l.ai.length≤9223372036854775807
 UP: ∀ (k:Nat) m (a:RA),l.aC[k]? =some m→az[k]? =some a→m.bo.length≤a.2∧m.bo.length≤9223372036854775807
def C9 (l:bf) (i:Nat):Prop:= ∀ (j:Nat) c,j<i→l.aC[j]? =some c→(c.bo.length:Int)≤10
theorem Pv (h:¬ (20<(l.bQ.length:Int))∧ ¬ (8<(l.aC.length:Int))∧ ¬ (10<(l.ai.length:Int))) (hi:l.aC.length≤i) (hs:C9 l i): ¬ nO l:=by
 rintro (A|⟨c,hc,B⟩)
 ·omega
 ·obtain ⟨k,hk⟩:=s3 hc;have:=hs k c (by have:=(aT.1 hk).1;omega) hk;omega
theorem PL (hc:l.aC[i]? =some c) (h:10<(c.bo.length:Int)):nO l:= .inr ⟨c,aF hc,h⟩
theorem nK {l:List α} {P:Nat→α→Prop} {x:α} (h:∀ (j:Nat) y,j<i→l[j]? =some y→P j y) (hx:l[i]? =some x) (hp:P i x): ∀ (j:Nat) y,j<i+1→l[j]? =some y→P j y:=fun j y hj hy=>by
 by_cases e:j=i
 ·subst e;rw [hx] at hy;cases hy;exact hp
 ·exact h j y I hy
theorem zl {l:List α} {P:Nat→α→Prop} (hi:l.length≤i) (h:∀ (j:Nat) y,j<i→l[j]? =some y→P j y): ∀ (j:Nat) y,l[j]? =some y→P j y:=fun j y hy=>h j y (by have:=(aT.1 hy).1;omega) hy
theorem Au {l:List α} {P:α→Prop} (hi:l.length≤i) (h:∀ (j:Nat) y,j<i→l[j]? =some y→P y): ∀ y∈l,P y:=fun y hy=>by
 obtain ⟨k,hk⟩:=s3 hy;exact zl (P:=fun _ y=>P y) hi h k y hk
theorem zn (h:¬ nO l):(l.bQ.length:Int)≤20∧(l.aC.length:Int)≤8∧(l.ai.length:Int)≤10∧ ∀ c∈l.aC,(c.bo.length:Int)≤10:=by
 unfold nO at h;rw [not_or] at h;refine ⟨I,I,I,fun c hc=>?_⟩;have:=h.2;rcases AAe 10 (c.bo.length:Int) with q|q
 ·exact absurd ⟨c,hc,q⟩ this
 ·exact q
theorem wK.small (h:wK l az) (hg:¬ nO l):dX l az:=by
 have A:=zn hg;exact ⟨I,h.side,I,h.mE,I,fun k m a hm ha=>⟨(h.UP k m a hm ha).1,by have:=A.2.2.2 m (aF hm);omega⟩⟩
def Ik (c:aS) (x:cP) (k:Nat):Prop:= ∀ (j:Nat) o,j<k→c.bo[j]? =some o→qm c x o
def wL (c:aS) (m:Nat):Prop:= ∀ (i:Nat) x,i<m→c.bo[i]? =some x→Ik c x i
theorem M0 {m:Nat} (h1:0≤c.dI∧c.dI≤1000) (h2:1≤c.bo.length∧c.bo.length≤5) (hs:∀ (i:Nat) x,c.bo[i]? =some x→gD c i x) (hm:c.bo.length≤m) (hp:wL c m):fD c:=
 ⟨h1,h2,hs,fun i k x o hx hk ho=>hp i x (by have:=(aT.1 hx).1;omega) hx k o hk ho⟩
theorem HO {m:Nat} (h:wL c m) (hk:∀ y,c.bo[m]? =some y→Ik c y k) (e:k=m):wL c (m+1):=by
 subst e;intro i x hi hx;by_cases e:i=k
 ·subst e;exact hk x hx
 ·exact h i x I hx
noncomputable def mm (c:aS) (at_:Int) (i:Nat):aa:=if i=0 then gP else ia c at_ i
theorem HZ (h:fD c) (hi:c.bo.length≤i):mm c at_ i=jm c at_:=by
 have:=h.len;unfold mm;rw [c1 I,pI hi]
theorem Dl {x:cP} (h:fD c) (ha:0≤at_∧at_≤90000000) (hx:c.bo[i]? =some x) (hi:i=0):
 mm c at_ (i+1)=⟨max (x.eA.Lo-vj c at_ x) (x.eA.Lo-vj c at_ x),min (x.eA.Hi+vj c at_ x) (x.eA.Hi+vj c at_ x)⟩:=by
 subst hi;have hb:=h.yk hx;have ho:=x4 h.u0 ha hb.1;unfold mm;rw [c1 I,lz hx];unfold nP ia;simp only [List.take_zero,List.foldl_nil,aa.mk.injEq];omega
theorem Fi {x:cP} (hx:c.bo[i]? =some x) (hi:¬ i=0):mm c at_ (i+1)=⟨max (mm c at_ i).Lo (x.eA.Lo-vj c at_ x),min (mm c at_ i).Hi (x.eA.Hi+vj c at_ x)⟩:=by
 unfold mm;rw [c1 I,c1 hi,lz hx];rfl
def iZ (ts:List ag) (n:Nat):List aa:=(range n).map fun k=>eV ts 0 k
theorem Ec {n:Nat}:iZ ts (n+1)=iZ ts n++[eV ts 0 n]:=by simp [iZ,AAV]
theorem qv {n:Nat}:(iZ ts n).length=n:=by simp [iZ]
theorem rT {n:Nat} {x:aa} (h:(iZ ts n)[k]? =some x):x=eV ts 0 k:=by
 unfold iZ at h;rw [gO] at h;cases hk:(range n)[k]? with
 |none=>simp [hk] at h
 |some v=>
  have:=aT.1 hk;simp at this;simp [hk] at h;rw [← h,← this.2]
theorem GG {a b:cY} (h:b.bk<a.bk):lq ts a b=pR (lq ts b a):=by
 unfold lq;rw [c0 h,c1 I];unfold Ao;rw [Int.min_comm b.bk a.bk,Int.max_comm b.bk a.bk];unfold pR oh;simp only [aa.mk.injEq];omega
theorem tf {a b:cY} (h:¬ b.bk<a.bk):lq ts a b=oh (oh (eV ts a.bk.toNat (b.bk-a.bk).toNat) b.mO) (pR a.mO):=by
 unfold lq Ao;rw [c1 h,Int.min_eq_left I,ACh I]
end
section
def nm (m:List ak) (a:cq):List au:=rd a.1.1 m.length 7 (zipWith ak.cells m a.2)::bB ak.lf m a.2
structure Vt (h:List ak) (a:cq):Prop where
 len:h.length≤1000000
 mE:a.2.length=h.length
 sig: ∀ d∈h,d.bp.ab.length≤1000000
structure gI (r:cN) (az:List RA) (ha:List cq):Prop where
 line:dX r.ar az
 g9:r.a_.length≤1000000
 draw:r.db.length≤12
 g_:r.ax.length≤1000000
 has:ha.length=r.ax.length
 fE: ∀ (k:Nat) h (a:cq),r.ax[k]? =some h→ha[k]? =some a→Vt h a
structure wZ (r:cN) (az:List RA) (ha:List cq):Prop where
 line:wK r.ar az
 g9:r.a_.length≤9223372036854775807
 draw:r.db.length≤9223372036854775807
 g_:r.ax.length≤9223372036854775807
 has:ha.length=r.ax.length
 fE: ∀ (k:Nat) h (a:cq),r.ax[k]? =some h→ha[k]? =some a→h.length≤9223372036854775807∧a.2.length=h.length∧ ∀ d∈h,d.bp.ab.length≤9223372036854775807
def qO (h:List ak):Prop:=8<(h.length:Int)∨ ∃ d∈h,15<(d.bp.ab.length:Int)
def lY (r:cN):Prop:=(nO r.ar∨8<(r.a_.length:Int)∨8<(r.db.length:Int)∨5<(r.ax.length:Int))∨ ∃ h∈r.ax,qO h
noncomputable instance (r:cN):Decidable (lY r):=Classical.propDecidable _
theorem zd {r:cN} (h: ¬ lY r): ¬ nO r.ar∧(r.a_.length:Int)≤8∧(r.db.length:Int)≤8∧(r.ax.length:Int)≤5∧ ∀ h∈r.ax,(h.length:Int)≤8∧ ∀ d∈h,(d.bp.ab.length:Int)≤15:=by
 unfold lY at h;obtain ⟨A,B⟩:=not_or.1 h;obtain ⟨C,E⟩:=not_or.1 A;refine ⟨C,I,I,I,fun x hx=>?_⟩;have hn: ¬ qO x:=fun q=>B ⟨x,hx,q⟩;obtain ⟨F,D⟩:=not_or.1 hn;refine ⟨I,fun d hd=>?_⟩;rcases AAe 15 (d.bp.ab.length:Int) with q|q
 ·exact absurd ⟨d,hd,q⟩ D
 ·exact q
theorem wZ.small {r:cN} {ha:List cq} (h:wZ r az ha) (hg:¬ lY r):gI r az ha:=by
 have B:=zd hg;refine ⟨h.line.small B.1,I,I,I,h.has,fun k x a hx A=>?_⟩;have C:=B.2.2.2.2 x (aF hx);have D:=h.fE k x a hx A;exact ⟨I,D.2.1,fun d hd=>by have:=C.2 d hd;omega⟩
def oi (r:c_):Prop:=r.Start=0∧r.hP=0∧(r.ab.length:Int)=0
instance (r:c_):Decidable (oi r):=by unfold oi;infer_instance
def ir (s:aa):Prop:=1≤s.Lo∧s.Lo≤s.Hi∧s.Hi≤600000
instance (s:aa):Decidable (ir s):=by unfold ir;infer_instance
def jl (l:bf) (d:ak):Prop:=if d.Out=true then d.cZ=false∧d.Time=gP∧oi d.bp else if d.cZ=true then ir d.Time∧oi d.bp else eT l d.bp l.b_=0∧d.Time=gP
noncomputable instance (l:bf) (d:ak):Decidable (jl l d):=Classical.propDecidable _
noncomputable def gf (l:bf) (d:ak):aa:=if d.Out=true∨d.cZ=true then d.Time else F0 l d.bp
/-- which kind a descent is of -/
def qp (d:ak):Int:=if d.Out=true then 0 else if d.cZ=true then 1 else 2
theorem Tm (h:Lx w): ∀ (b:Nat) (p:aI×Int),p∈sv w b→w.Start≤p.2:=by
 have hl: ∀ b,0≤cW w b:=fun b=>by
  unfold cW;cases e:w.sJ[b]? with
  |none=>simp
  |some x=>have:=h.least x (aF e);simp;omega
 intro b
 induction b with
 |zero=>intro p hp;simp only [sv,bU] at hp;subst hp;exact wt _
 |succ b ih=>
  intro q hq;obtain ⟨p,hp,o,ho,e⟩:=lQ.1 hq;unfold oG at e;split at e
  ·simp only [k4] at e;subst e;have:=ih p hp;have:=hl b;simp only;omega
  ·cases e
theorem Sc {b:Int} (h:eT l r b=0):r.Start≤(eL l r b).Lo:=by
 have ho:fK l r (lR l b)=0:=by
  by_cases e:fK l r (lR l b)=0
  ·exact e
  ·rw [(nH e).1] at h;exact absurd h e
 obtain ⟨B,C,_⟩:=jQ ho;obtain ⟨ht,A⟩:=er B;have hw:=n_ ht A C;have hv:eL l r b=pb l r b.toNat:=by unfold eL;rw [c0 h]
 have hn:pb l r b.toNat≠oN:=fun e=>by unfold eT at h;rw [c0 ho,c0 e] at h;omega
 have hh:=x8 (l:=u_ (dW l r) b.toNat) fun q hq=>qi hq;rw [hv];unfold pb at hn ⊢;rcases hh with ⟨_,e⟩|hh
 ·exact absurd e hn
 ·obtain ⟨x,hx,ex⟩:=hh.lo;obtain ⟨o,ho,p,hp,u,hu,e⟩:=kj.1 hx;obtain ⟨_,_,rfl⟩:=mw.1 e;have D:r.Start≤p.2:=Tm hw _ p hp;have E:0≤cW (dW l r) b.toNat:=by
   unfold cW;cases e:(dW l r).sJ[b.toNat]? with
   |none=>simp
   |some x=>have:=hw.least x (aF e);simp;omega
  simp only [mD] at ex;omega
theorem IF {d:ak} (h:jl l d):0≤(gf l d).Lo∧(gf l d).Lo≤(gf l d).Hi∧(gf l d).Hi≤86400000:=by
 unfold jl at h;unfold gf;split at h
 ·rename_i q;rw [c0 (Or.inl q),h.2.1];simp [gP]
 ·rename_i q;split at h
  ·rename_i A;rw [c0 (Or.inr A)];obtain ⟨⟨B,C,D⟩,_⟩:=h;omega
  ·rename_i A;rw [c1 (fun z=>z.elim q A),Hk h.1];have B:=wm h.1;have C:=(yK h.1).time;have D:=Sc h.1;simp only;omega
theorem IM {d:ak} (h:d.Out=true):gf l d=d.Time:=c0 (Or.inl h)
theorem Du {d:ak} (h:d.Out=false∧d.cZ=true):gf l d=d.Time:=c0 (Or.inr h.2)
theorem Jc {d:ak} (h:d.Out=false∧d.cZ=false):gf l d=F0 l d.bp:=c1 (by simp [h])
theorem s_ {d:ak} (h:d.Out=true):jl l d=(d.cZ=false∧d.Time=gP∧oi d.bp):=c0 h
theorem tS {d:ak} (h:d.Out=false∧d.cZ=true):jl l d=(ir d.Time∧oi d.bp):=by unfold jl;rw [c1 (by simp [h]),c0 h.2]
theorem AV {d:ak} (h:d.Out=false∧d.cZ=false):jl l d=(eT l d.bp l.b_=0∧d.Time=gP):=by unfold jl;rw [c1 (by simp [h]),c1 (by simp [h])]
structure fq (r:cN):Prop where
 num:1≤(r.a_.length:Int)∧(r.a_.length:Int)≤5
 Bt:0≤r.jz∧r.jz≤5
 nh:1≤(r.ax.length:Int)∧(r.ax.length:Int)≤3
 ids: ∀ (i:Nat) x,r.a_[i]? =some x→(0≤x∧x≤9999)∧ ∀ y,0<i→r.a_[i-1]? =some y→y<x
 draw:r.db.Perm ((range r.a_.length).map fun (k:Nat)=>(k:Int))
 fE: ∀ h∈r.ax,h.length=r.a_.length∧ ∀ d∈h,jl r.ar d
noncomputable instance (r:cN):Decidable (fq r):=Classical.propDecidable _
noncomputable def eK (r:cN):Int:=if dU r.ar=0 then (if fq r then 0 else 60) else dU r.ar
abbrev DI (r:cN) (kA:Option Addr) (az:List RA) (cA bA:Option Addr) (slA drA:Option Addr) (ha:List cq) (heA:Option Addr):List au:=[(rd kA r.ar.bQ.length 9 (r.ar.bQ.map ag.cells)),(rd cA r.ar.aC.length 2 (zipWith aS.cells r.ar.aC az)),(iU (bB aS.lf r.ar.aC az)),(rd bA r.ar.ai.length 4 (r.ar.ai.map df.cells)),(rd slA r.a_.length 1 (r.a_.map iC)),(rd drA r.db.length 1 (r.db.map iC)),(rd heA r.ax.length 1 (zipWith di r.ax ha)),(iU (bB nm r.ax ha))]
end
end Go.Proofs.YtgnlmfdknlbkkaaGreatDoor
