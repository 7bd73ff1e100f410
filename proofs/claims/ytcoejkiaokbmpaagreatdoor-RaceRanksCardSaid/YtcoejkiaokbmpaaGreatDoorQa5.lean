/-
 The statement raceRanks_said, part 5 of 8: Bits, B1, Rc1, Rs5, CloneM, Rs1, S2, Rs2, B4, B2, B3, B5, B6, NestS, Frozen, MarkD, Marks, Follow, OpenM, V2, V1, V4, V3, V5, V6.
 Conditions: none.
-/
import Derived.Test.YtcoejkiaokbmpaaGreatDoorQa1
import Derived.Test.YtcoejkiaokbmpaaGreatDoorQa2
import Derived.Test.YtcoejkiaokbmpaaGreatDoorQa3
import Derived.Test.YtcoejkiaokbmpaaGreatDoorQa4
import Derived.KernelRfl
import Derived.MapKept
import Derived.Laws.Externs
namespace Go.Proofs.YtcoejkiaokbmpaaGreatDoor
set_option maxRecDepth 100000
set_option maxHeartbeats 4000000
set_option linter.unusedVariables false
section
open Go.RowKit
section
variable {P:Program} {t:TypeId} {x y:Operand}
end
section
variable {E:e9} {ops:Array Oper} {Q:dj} {rest:List Oper} {D:List Deferred} {L:List (Nat×Value)} {C:List aq}
variable {dst:Option Tmp} {d:Nat} {ty:TypeId} {ps:String} {af:Array Edge} {g:Option (Nat×Bool)}
theorem Kt {a:OA} {c e sz:Nat} {es:List (List Value)} (i:Nat) (hC:C[i]? =some (own a c e sz es)) (k:es.length≤c→RJ E ops Q rest D L C):RJ E ops Q rest D L C:=fun act w hf hs=>
 k (Ik (hs.holds _ (aw hC))) act w hf hs
theorem mg {A:aq} (i:Nat) (h:C[i]? =some A.ro):ji C A.holds:=fun w hw=>by
 have h2:=hw A.ro (aw h)
 exact h2
/-- the end of a row is set to zero: it is no more of it -/
theorem Io {x:Operand} {t e sz by_ k n c c':Nat} {z:Value} {a:OA} {es:List (List Value)} (i:Nat) (hg:ju ops L g=true) (hx:ev L x=some (.slice (D0 a c k sz) (n-k) c')) (ht:tA E.P t=some (e,sz,by_,z)) (hz1: ∀ v∈z.cells.toList,v.oneCell'=true)
 (hC:C[i]? =some (own a c e sz es)) (hn:n=es.length) (hk:k≤n) (K:RJ E ops Q rest D L (C.set i (own a c e sz (es.take k)))):
 RJ E ops Q (⟨none,.call {callee:= .builtin .clear,args:= #[x],argTypes:= #[t]},ty,ps,af,g⟩::rest) D L C:=by
 intro act w hfr hst
 obtain ⟨inf,hu,hi,hzr,h3,h4,h5⟩:=Bt ht
 unfold qf
 rw [if_pos (dH hfr hg)]
 subst hn
 obtain ⟨hl1,hown⟩:(own a c e sz es).holds w:=hst.holds _ (aw hC)
 have hle: ∀ y∈es.take k,y.length=sz:=fun y hy=>hl1 y (List.mem_of_mem_take hy)
 have hfl:(es.take k).flatten=es.flatten.take (k*sz):=by
  have h:=List.take_append_drop k es
  have h6:es.flatten=(es.take k).flatten++(es.drop k).flatten:=by rw [← List.flatten_append,h]
  have h7:(es.take k).flatten.length=k*sz:=by rw [ik hle,List.length_take]; congr 1; omega
  rw [h6,← h7,List.take_left]
 by_cases h0:es.length-k=0
 ·have hek:es.take k=es:=List.take_of_length_le om
  refine gz sm (w':=w) (v:= .tuple #[]) ?_ ?_
  ·rw [h0] at hx
   cases hs:D0 a c k sz with
   |none=>rw [hs] at hx; simp [execOp,resolve,invoke,builtin,Builtin.clear_,hfr.ev hx,run_underlying hu]
   |some q=>rw [hs] at hx; simp [execOp,resolve,invoke,builtin,Builtin.clear_,hfr.ev hx,run_underlying hu]
  ·rw [hek] at K
   exact K _ _ hfr (by
    have:C.set i (own a c e sz es)=C:=by
     apply List.ext_getElem?
     intro q
     rw [List.getElem?_set]
     by_cases e1:i=q
     ·subst e1; rw [if_pos rfl,if_pos (List.getElem?_eq_some_iff.1 hC).1,hC]
     ·rw [if_neg e1]
    rw [this]; exact hst)
 ·rcases hown.2 with ⟨h6,h7⟩|⟨gg,cap,cur,hv,hbg,hgg,hnc,hcm,hcs,htake⟩
  ·omega
  ·injection hv with hv1 hv2 hv3
   subst hv1 hv3
   have hsub:D0 (some (⟨gg,0,none⟩:Addr)) c k sz=some ⟨gg,k*sz,none⟩:=by
    unfold D0; rw [if_neg om]; simp [Addr.add_lit]
   rw [hsub] at hx
   have hzl:(Builtin.zeroCells z.cells (es.length-k)).toList.length=(es.length-k)*sz:=by
    rw [Array.length_toList,size_zeroCells,h5]
   have hsum:k*sz+(es.length-k)*sz=es.length*sz:=by rw [← Nat.add_mul]; congr 1; omega
   have hle2:es.length*sz≤cur.size:=by rw [hcs]; exact Nat.mul_le_mul_right _ hnc
   have h1': ∀ v∈(Builtin.zeroCells z.cells (es.length-k)).toList,v.oneCell'=true:=fun v hv=>by
    refine hz1 v ?_
    simp [Builtin.zeroCells] at hv
    obtain ⟨q,hq,hv⟩:=hv
    have hpos:0<z.cells.size:=by
     rcases Nat.eq_zero_or_pos z.cells.size with h8|h8
     ·rw [h8] at hq; simp at hq
     ·exact h8
    have hlt:q % z.cells.size<z.cells.size:=Nat.mod_lt _ hpos
    rw [getElem!_pos z.cells _ hlt] at hv
    rw [← hv]; simp
   have hst':=run_storeCells_at E.P gg (k*sz) e (Builtin.zeroCells z.cells (es.length-k)).toList 0 cur w hgg (by rw [hzl]; omega) h1'
   simp only [Nat.add_zero] at hst'
   obtain ⟨q,hq⟩: ∃ q,es.length-k=q+1:=⟨es.length-k-1,om⟩
   refine gz sm (w':=w.setRow gg (cur.toList.take (k*sz)++(Builtin.zeroCells z.cells (es.length-k)).toList++cur.toList.drop (k*sz+(Builtin.zeroCells z.cells (es.length-k)).toList.length)).toArray) (v:= .tuple #[]) ?_ ?_
   ·rw [hq] at hx hst' ⊢
    simp [execOp,resolve,invoke,builtin,Builtin.clear_,hfr.ev hx,run_underlying hu,zeroValue,typeInfo,hi,hzr,hst']
   ·refine K _ _ hfr ?_
    refine hst.move i hC (row:=some gg) (fun b hb=>by cases hb; exact ⟨_,rfl,rfl⟩) rfl ⟨rfl,rfl,rfl,sm,fun k' _ hk'=>setRow_other w gg k' _ (fun e=>hk' (by simp [e]))⟩ (fun y hy=>by
     obtain ⟨ad,h8,rfl⟩:=hy
     cases h8; exact .inl rfl) ?_
    refine ⟨hle,?_,.inr ⟨gg,c,_,rfl,Nat.zero_le _,setRow_heap w gg cur _ e _ hgg,?_,hcm,?_,?_⟩⟩
    ·exact ik hle
    ·rw [List.length_take]; omega
    ·simp only [List.size_toArray,List.length_append,List.length_take,List.length_drop,Array.length_toList,hzl]
     have:=hcs
     simp only [Array.length_toList] at hzl
     omega
    ·have h9:(es.take k).length*sz=k*sz:=by rw [List.length_take]; congr 1; omega
     have h10:(cur.toList.take (k*sz)).length=k*sz:=by rw [List.length_take,Array.length_toList]; omega
     rw [h9,hfl,← htake,List.take_take,Nat.min_eq_left om]
     show List.take (k*sz) (_++_++_)=_
     rw [List.append_assoc,List.take_left' h10]
end
end
section
open Go.RowKit
theorem nD (n lo hi:Int):
 eu Tryz.prog 117 [(vI n),(vI lo),(vI hi)] [] (vB (decide (lo≤n∧n≤hi))):=by
 refine bu kr Tryz.func117 rfl rfl fun w0 Q hQ hN=>?_
 try dsimp only
 refine WS fun _ hK1=>rP 1 [] mn ?_
 refine RK hK1<|WS fun _ hK2=>rP 4 [] mn ?_
 refine c8 (t:=10) rfl (aP fun h3=>?_) (aQ fun h3=>?_)
 ·refine rP 5 [] mn ?_
  refine RK hK2<|an<|Q1 hQ rfl rfl rfl ?_
  exact cB (decide_eq_decide.2 om)
 refine rP 5 [] mn ?_
 refine RK hK2<|an<|Q1 hQ rfl rfl rfl ?_
 exact cB (a7 om).symm
theorem oy (s:aa) (lo hi:Int):
 eu Tryz.prog 118 [(vA (aa.cells s)),(vI lo),(vI hi)] [] (vB (decide (s.Lo≤s.Hi∧lo≤s.Lo∧s.Hi≤hi))):=by
 refine bu kr Tryz.func118 rfl rfl fun w0 Q hQ hN=>?_
 try dsimp only
 refine WS fun _ hK1=>fP rfl fun b2=>rP 1 [] mn ?_
 refine RK hK1<|WS fun _ hK3=>rP 5 [] (mc 0 rfl mn) ?_
 refine rS (CL (nD s.Lo lo s.Hi) (aT) rfl)<|rP 1 [] mn ?_
 refine dp (t:=13) rfl (aQ fun h4=>?_) (aP fun h4=>?_)
 ·refine rP 6 [] mn ?_
  refine RK hK3<|an<|Q1 hQ rfl rfl rfl ?_
  exact cB (a7 om).symm
 refine rP 6 [] (mc 0 rfl mn) ?_
 refine RK hK3<|an<|Q1 hQ rfl rfl rfl ?_
 exact cB (decide_eq_decide.2 om)
theorem HA (t:List ah) (tA:OA) (tC:Nat):
 eu Tryz.prog 61 [(vA (bL.cells (bL.mk (bB.mk tA t.length tC))))] [(rd tA t.length 9 (t.map ah.cells))] (vB (decide (20<(t.length:Int)))):=by
 refine bu kr Tryz.func61 rfl rfl fun w0 Q hQ hN=>?_
 try dsimp only
 refine WS fun _ hK1=>fP rfl fun b2=>rP 1 [] mn ?_
 refine RK hK1<|WS fun _ hK3=>rP 5 [] (mc 0 rfl mn) ?_
 refine RK hK3<|an ?_
 exact Q1 hQ rfl rfl rfl rfl
theorem Hf (l:List Int) (lA:OA) (lC:Nat) (f:Value) (p:Int→Bool) (X:aq) (hf: ∀ x0,x0∈l→Ev Tryz.prog f [.int .i64 x0] [X] (.bool (p x0))) (hlen:l.length≤1000000):
 eu Tryz.prog 96 [(vS lA l.length lC),f] [(rd lA l.length 1 (l.map iC)),X] (vI (ru p l)):=by
 refine bu kr Tryz.func96 rfl rfl fun w0 Q hQ hN=>?_
 try dsimp only
 refine WS fun _ hK1=>rP 1 [] mn ?_
 refine RK hK1<|ai fun _ hK2=>WS fun _ hK3=>rP 3 [] mn ?_
 refine RK hK3<|av ?_
 have hinit:(0≤l.length)∧((l.take 0).any p=false):=by simp
 refine cp (ι:={z:Nat // (z≤l.length)∧((l.take z).any p=false)}) (fun z=>[(0,(vS lA l.length lC)),(1,f),(7,(vI ((l.length:Nat):Int))),(8,(vI (z.1:Int)))]) (fun z=>[(rd lA l.length 1 (l.map iC)).ro,X.ro]) (fun z=>l.length-z.1) ⟨0,hinit⟩ (aL rfl) (aG [0,1]) ?_
 clear hinit
 rintro ⟨i,⟨hl0_0,hl0_1⟩⟩ J4 hJ4
 try dsimp only
 refine WS fun _ hK5=>rP 1 [] mn ?_
 refine RK hK5<|ai fun _ hK6=>?_
 refine bM rfl (aQ fun h7=>?_) (aP fun h7=>?_)
 ·refine bp ?_
  refine ae<|ae<|au<|KK hK2<|WS fun _ hK12=>rP 1 [] mn ?_
  refine RK hK12<|an<|Q1 hQ rfl rfl rfl ?_
  first|exact cI (ny hx hp hl0_1).symm|exact cI (kW om hl0_1).symm
 refine WK hK6<|ai fun _ hK8=>av<|WS fun _ hK9=>rP 2 [] mn ?_
 refine RK hK9<|WS fun _ hK10=>rP 3 [] mn ?_
 obtain ⟨x,hx⟩:=aO l i om
 have hxm:=bI iC hx
 refine rS (IA i rfl (aA 0 rfl) dB dc om om)<|rS (gU i 0 (vI x) rfl bJ (aA 0 rfl) hxm rfl dc rfl)<|rS (SX (sr rfl rfl rfl (hf x (aw hx)) (bh [1])) rfl rfl)<|RK hK10 ?_
 refine cP rfl (fun hp=>?_) (fun hp=>?_)
 ·refine WS fun _ hK11=>?_
  refine rP 2 [] mn ?_
  refine RK hK11<|an<|Q1 hQ rfl rfl rfl ?_
  first|exact cI (ny hx hp hl0_1).symm|exact cI (kW om hl0_1).symm
 refine bZ<|ax<|KK hK8<|ak<|rP 2 [] mn ?_
 refine aB ?_
 refine aN (hJ4 ⟨(i+1),⟨om,vH hx hl0_1 hp⟩⟩ _ _ _ rfl os (aL rfl) (aG [0,1]))
theorem qu (l:List Int) (lA:OA) (lC:Nat) (f:Value) (p:Int→Bool) (X:aq) (hf: ∀ x0,x0∈l→Ev Tryz.prog f [.int .i64 x0] [X] (.bool (p x0))) (hlen:l.length≤1000000):
 eu Tryz.prog 72 [(vS lA l.length lC),f] [(rd lA l.length 1 (l.map iC)),X] (vB (l.any p)):=by
 refine bu kr Tryz.func72 rfl rfl fun w0 Q hQ hN=>?_
 try dsimp only
 refine WS fun _ hK1=>rP 1 [] mn ?_
 refine RK hK1<|WS fun _ hK2=>rP 2 [] mn ?_
 refine rS (CL (Hf l lA lC f p X (by exact hf) hlen) (bh [0,1]) rfl)<|rP 2 [] mn ?_
 refine RK hK2<|an<|Q1 hQ rfl rfl rfl ?_
 exact cB sB
theorem DD (n lo hi:Int) (g1 g2:Nat):
 eu Tryz.prog 152 [(vI n),(vP g1),(vP g2)] [(br g1 3 [(vI lo)]),(br g2 3 [(vI hi)])] (vB (decide (n<lo∨hi<n))):=by
 refine bu kr Tryz.func152 rfl rfl fun w0 Q hQ hN=>?_
 try dsimp only
 refine WS fun _ hK1=>rP 1 [] mn ?_
 refine RK hK1<|WS fun _ hK2=>rP 4 [] (mr 0 rfl mn) ?_
 refine c8 (t:=8) rfl (aP fun h3=>?_) (aQ fun h3=>?_)
 ·refine rP 5 [] mn ?_
  refine RK hK2<|an<|Q1 hQ rfl rfl rfl ?_
  exact cB (bW om).symm
 refine rP 5 [] (mr 1 rfl mn) ?_
 refine RK hK2<|an<|Q1 hQ rfl rfl rfl ?_
 exact cB (decide_eq_decide.2 om)
theorem nO (lo hi:Int) (l:List Int) (lA:OA) (lC:Nat) (hlen:l.length≤1000000):
 eu Tryz.prog 125 [(vI lo),(vI hi),(vS lA l.length lC)] [(rd lA l.length 1 (l.map iC))] (vB (oT lo hi l)):=by
 refine bu kr Tryz.func125 rfl rfl fun w0 Q hQ hN=>?_
 try dsimp only
 refine WS fun _ hK1=>t_ rfl rfl fun b2=>t_ rfl rfl fun b3=>rP 1 [] mn ?_
 refine RK hK1<|WS fun _ hK4=>rP 1 [] mn ?_
 refine rS (FU rfl)<|rS (CL (qu l lA lC (Value.func (.func 152) [].toArray [(vP b2),(vP b3)].toArray) (fun u5=>(decide (u5<lo∨hi<u5))) (du [(br b2 3 [(vI lo)]),(br b3 3 [(vI hi)])]) (by intro u5 _; exact ob (fi:=[]) (ca:=[(vP b2),(vP b3)]) (mW (DD u5 lo hi b2 b3) (bh [0,1]))) hlen) (cw 2 rfl rfl<|bq (mY (bh [1,0]))<|aT) rfl)<|rP 2 [] mn ?_
 refine RK hK4<|an ?_
 exact Q1 hQ rfl rfl rfl rfl
theorem uw (s:aa) (lo hi:Int):
 eu Tryz.prog 126 [(vA (aa.cells s)),(vI lo),(vI hi)] [] (vB (decide (s.Lo≤s.Hi∧lo≤s.Lo∧s.Hi≤hi))):=by
 refine bu kr Tryz.func126 rfl rfl fun w0 Q hQ hN=>?_
 try dsimp only
 refine WS fun _ hK1=>fP rfl fun b2=>rP 1 [] mn ?_
 refine RK hK1<|WS fun _ hK3=>rP 6 [] (mc 0 rfl mn) ?_
 refine fc (xs:=[.tmp 10,.tmp 12]) (cs:=[(vI s.Lo),(vI s.Hi)]) rfl dB lT rfl rfl rfl rfl (by simp [Value.cells]) rfl rfl fun b4=>rS (CL (eu.eq (nO lo hi ([s.Lo,s.Hi]) (some ⟨b4,0,none⟩) 2 sd) p6) (bq (a_ 0 rfl rfl (by simp [bT]) rfl)<|aT) rfl)<|rP 1 [] mn ?_
 refine dp (t:=15) rfl (aQ fun h5=>?_) (aP fun h5=>?_)
 ·refine rP 7 [] mn ?_
  refine RK hK3<|an<|Q1 hQ rfl rfl rfl ?_
  exact cB (a7 om).symm
 refine rP 7 [] (mc 1 rfl mn) ?_
 refine RK hK3<|an<|Q1 hQ rfl rfl rfl ?_
 exact cB (decide_eq_decide.2 om)
theorem uh (ts:List ah) (tsA:OA) (tsC:Nat) (hlen:ts.length≤1000000):
 eu Tryz.prog 89 [(vA (bL.cells (bL.mk (bB.mk tsA ts.length tsC))))] [(rd tsA ts.length 9 (ts.map ah.cells))] (vB (cx ts)):=by
 refine bu kr Tryz.func89 rfl rfl fun w0 Q hQ hN=>?_
 try dsimp only
 refine WS fun _ hK1=>fP rfl fun b2=>rP 1 [] mn ?_
 refine RK hK1<|ai fun _ hK3=>WS fun _ hK4=>rP 3 [] (mc 0 rfl mn) ?_
 refine rS (CL (nD ((ts.length:Nat):Int) 1 12) (aT) rfl)<|rP 1 [] mn ?_
 refine RK hK4 ?_
 refine cP rfl (bk fun h5=>?_) (bj fun h5=>?_)
 ·refine WS fun _ hK6=>?_
  refine rP 1 [] mn ?_
  refine RK hK6<|an<|Q1 hQ rfl rfl rfl ?_
  first|exact cB (ct om).symm|exact cB (cQ hl0_1 hx (by simp only [bo,di]; omega)).symm|exact cB (cu hl0_1 om om).symm
 refine WK hK3<|ai fun _ hK7=>WS fun _ hK8=>rP 1 [] mn ?_
 refine RK hK8<|av ?_
 have hinit:(0≤ts.length)∧(ew (-1) ts=ew (fw ts 0) (ts.drop 0))∧(-1≤fw ts 0):=by (refine ⟨om,rfl,by simp [fw]⟩)
 refine cp (ι:={z:Nat // (z≤ts.length)∧(ew (-1) ts=ew (fw ts z) (ts.drop z))∧(-1≤fw ts z)}) (fun z=>[(1,(vP b2)),(3,(vI (z.1:Int)))]) (fun z=>[(br b2 24 (bL.cells (bL.mk (bB.mk tsA ts.length tsC)))),(rd tsA ts.length 9 (ts.map ah.cells)).ro]) (fun z=>ts.length-z.1) ⟨0,hinit⟩ (aL rfl) (aG [0,1]) ?_
 clear hinit
 rintro ⟨i,⟨hl0_0,hl0_1,hl0_2⟩⟩ J9 hJ9
 try dsimp only
 have hz:i=0→fw ts i= -1:=zw
 refine ai fun _ hK10=>WS fun _ hK11=>rP 5 [] (mc 0 rfl mn) ?_
 refine RK hK11 ?_
 refine bM rfl (aQ fun h12=>?_) (aP fun h12=>?_)
 ·refine bp ?_
  refine ae<|ae<|au<|KK hK7<|WS fun _ hK77=>rP 1 [] mn ?_
  refine RK hK77<|an<|Q1 hQ rfl rfl rfl ?_
  first|exact cB (ct om).symm|exact cB (cQ hl0_1 hx (by simp only [bo,di]; omega)).symm|exact cB (cu hl0_1 om om).symm
 refine WK hK10<|ai fun _ hK13=>av<|WS fun _ hK14=>rP 3 [] (mc 0 rfl mn) ?_
 obtain ⟨x,hx⟩:=aO ts i om
 have hxm:=bI ah.cells hx
 refine rS (IA i rfl (aA 1 rfl) yJ dc om om)<|rS (n9 i 0 (ah.cells x) rfl bJ (aA 1 rfl) hxm rfl dc rfl rfl)<|AL rfl Fh fun b15=>f_ rfl EW rfl<|RK hK14<|ai fun _ hK16=>ai fun _ hK17=>dC cD 38 kr<|dP 2 [] (mc 0 rfl mn) ?_
 refine dS (CL (nD x.Id 0 9999) (aT) rfl)<|dP 2 [] mn ?_
 refine iL (t:=26) rfl (bk fun h18=>?_) (bj fun h18=>?_)
 ·refine dP 11 [] mn ?_
  refine dP 22 [] mn ?_
  refine cO<|RK hK17<|aI rfl<|WS fun _ hK19=>rP 1 [] mn ?_
  refine RK hK19<|an<|Q1 hQ rfl rfl rfl ?_
  first|exact cB (ct om).symm|exact cB (cQ hl0_1 hx (by simp only [bo,di]; omega)).symm|exact cB (cu hl0_1 om om).symm
 refine dP 3 [] mn ?_
 refine jT (t:=29) rfl (aQ fun h20=>?_) (aP fun h20=>?_)
 ·refine dP 8 [] mn ?_
  refine dP 6 [] mn ?_
  refine dS (LP (aa.cells x.j5) 0 rfl bJ rfl rfl rfl)<|dS (CL (oy x.j5 1 30000) (aT) rfl)<|dP 3 [] mn ?_
  refine iL (t:=48) rfl (bk fun h50=>?_) (bj fun h50=>?_)
  ·refine dP 11 [] mn ?_
   refine cO<|RK hK17<|aI rfl<|WS fun _ hK51=>rP 1 [] mn ?_
   refine RK hK51<|an<|Q1 hQ rfl rfl rfl ?_
   first|exact cB (ct om).symm|exact cB (cQ hl0_1 hx (by simp only [bo,di]; omega)).symm|exact cB (cu hl0_1 om om).symm
  refine dP 1 [] mn ?_
  refine dS (LP (aa.cells x.kU) 0 rfl bJ rfl rfl rfl)<|dS (CL (oy x.kU 0 5000) (aT) rfl)<|dP 3 [] mn ?_
  refine iL (t:=54) rfl (bk fun h52=>?_) (bj fun h52=>?_)
  ·refine dP 5 [] mn ?_
   refine cO<|RK hK17<|aI rfl<|WS fun _ hK53=>rP 1 [] mn ?_
   refine RK hK53<|an<|Q1 hQ rfl rfl rfl ?_
   first|exact cB (ct om).symm|exact cB (cQ hl0_1 hx (by simp only [bo,di]; omega)).symm|exact cB (cu hl0_1 om om).symm
  refine dP 2 [] (mc 0 rfl mn) ?_
  refine dS (CL (nD x.xH 0 5000) (aT) rfl)<|dP 2 [] mn ?_
  refine cO<|RK hK17 ?_
  refine cP rfl (bk fun h54=>?_) (bj fun h54=>?_)
  ·refine WS fun _ hK55=>?_
   refine rP 1 [] mn ?_
   refine RK hK55<|an<|Q1 hQ rfl rfl rfl ?_
   first|exact cB (ct om).symm|exact cB (cQ hl0_1 hx (by simp only [bo,di]; omega)).symm|exact cB (cu hl0_1 om om).symm
  refine WK hK16<|WS fun _ hK56=>rP 2 [] (mc 0 rfl mn) ?_
  refine RK hK56<|av<|WS fun _ hK57=>rS (BI rfl oR)<|rP 1 [] mn ?_
  refine RK hK57 ?_
  refine cP rfl (aP fun h58=>?_) (aQ fun h58=>?_)
  ·refine WS fun _ hK59=>?_
   refine rP 5 [] (mc 0 rfl mn) ?_
   refine c8 (t:=68) rfl (bk fun h60=>?_) (bj fun h60=>?_)
   ·refine rP 5 [] mn ?_
    refine RK hK59<|aI rfl<|WS fun _ hK61=>rP 1 [] mn ?_
    refine RK hK61<|an<|Q1 hQ rfl rfl rfl ?_
    first|exact cB (ct om).symm|exact cB (cQ hl0_1 hx (by simp only [bo,di]; omega)).symm|exact cB (cu hl0_1 om om).symm
   refine rP 5 [] (mc 0 rfl mn) ?_
   refine RK hK59 ?_
   refine bM rfl (bj fun h62=>?_) (bk fun h62=>?_)
   ·refine bZ ?_
    refine ax<|ax<|KK hK13<|ak<|rP 3 [] mn ?_
    refine aB ?_
    refine aN (hJ9 ⟨(i+1),⟨om,gE hl0_1 hx (by simp only [bo,di]; omega),by rw [fH hx]; omega⟩⟩ _ _ _ rfl os (aL rfl) (aG [1,2]))
   refine WS fun _ hK63=>rP 1 [] mn ?_
   refine RK hK63<|an<|Q1 hQ rfl rfl rfl ?_
   first|exact cB (ct om).symm|exact cB (cQ hl0_1 hx (by simp only [bo,di]; omega)).symm|exact cB (cu hl0_1 om om).symm
  refine ai fun _ hK64=>WS fun _ hK65=>rS (BI rfl oR)<|rP 1 [] mn ?_
  refine RK hK65 ?_
  refine cP rfl (aP fun h66=>?_) (aQ fun h66=>?_)
  ·refine WK hK64 ?_
   refine bM rfl (aQ fun h67=>?_) (aP fun h67=>?_)
   ·refine WS fun _ hK71=>?_
    refine rP 1 [] mn ?_
    refine RK hK71<|an<|Q1 hQ rfl rfl rfl ?_
    first|exact cB (ct om).symm|exact cB (cQ hl0_1 hx (by simp only [bo,di]; omega)).symm|exact cB (cu hl0_1 om om).symm
   refine WS fun _ hK68=>rP 1 [] mn ?_
   refine rS (LP (aa.cells x.dR) 0 rfl bJ rfl rfl rfl)<|rS (CL (oy x.dR 500 20000) (aT) rfl)<|rP 1 [] mn ?_
   refine RK hK68 ?_
   refine bM rfl (bj fun h69=>?_) (bk fun h69=>?_)
   ·refine bZ ?_
    refine ax<|ax<|KK hK13<|ak<|rP 3 [] mn ?_
    refine aB ?_
    refine aN (hJ9 ⟨(i+1),⟨om,gE hl0_1 hx (by simp only [bo,di]; omega),by rw [fH hx]; omega⟩⟩ _ _ _ rfl os (aL rfl) (aG [1,2]))
   refine WS fun _ hK70=>rP 1 [] mn ?_
   refine RK hK70<|an<|Q1 hQ rfl rfl rfl ?_
   first|exact cB (ct om).symm|exact cB (cQ hl0_1 hx (by simp only [bo,di]; omega)).symm|exact cB (cu hl0_1 om om).symm
  refine ak<|rS (BI rfl oR)<|rP 1 [] mn ?_
  refine RK hK64 ?_
  refine bM rfl (aQ fun h72=>?_) (aP fun h72=>?_)
  ·refine WS fun _ hK76=>?_
   refine rP 1 [] mn ?_
   refine RK hK76<|an<|Q1 hQ rfl rfl rfl ?_
   first|exact cB (ct om).symm|exact cB (cQ hl0_1 hx (by simp only [bo,di]; omega)).symm|exact cB (cu hl0_1 om om).symm
  refine WS fun _ hK73=>rP 1 [] mn ?_
  refine rS (LP (aa.cells x.dR) 0 rfl bJ rfl rfl rfl)<|rS (CL (oy x.dR 500 20000) (aT) rfl)<|rP 1 [] mn ?_
  refine RK hK73 ?_
  refine bM rfl (bj fun h74=>?_) (bk fun h74=>?_)
  ·refine bZ ?_
   refine ax<|ax<|KK hK13<|ak<|rP 3 [] mn ?_
   refine aB ?_
   refine aN (hJ9 ⟨(i+1),⟨om,gE hl0_1 hx (by simp only [bo,di]; omega),by rw [fH hx]; omega⟩⟩ _ _ _ rfl os (aL rfl) (aG [1,2]))
  refine WS fun _ hK75=>rP 1 [] mn ?_
  refine RK hK75<|an<|Q1 hQ rfl rfl rfl ?_
  first|exact cB (ct om).symm|exact cB (cQ hl0_1 hx (by simp only [bo,di]; omega)).symm|exact cB (cu hl0_1 om om).symm
 refine dP 6 [0,1] (mc 0 rfl (mc 1 rfl mn)) ?_
 obtain ⟨y,hy⟩:=aO ts (i-1) om
 have hym:=bI ah.cells hy
 refine dS (IA (i-1) rfl (aA 2 rfl) yJ dc om om)<|dS (mT ((i-1)*9) rfl (aA 2 rfl) (Nat.mul_pos om dc) gp rfl) ?_
 have hyl:=A9 om hy
 refine dS (gU (i-1) 0 (vI y.Id) rfl bJ (aA 2 rfl) hym rfl dc rfl)<|dP 4 [] mn ?_
 refine iL (t:=42) rfl (aP fun h21=>?_) (aQ fun h21=>?_)
 ·refine dP 17 [] mn ?_
  refine cO<|RK hK17<|aI rfl<|WS fun _ hK22=>rP 1 [] mn ?_
  refine RK hK22<|an<|Q1 hQ rfl rfl rfl ?_
  first|exact cB (ct om).symm|exact cB (cQ hl0_1 hx (by simp only [bo,di]; omega)).symm|exact cB (cu hl0_1 om om).symm
 refine dP 1 [] mn ?_
 refine dS (LP (aa.cells x.j5) 0 rfl bJ rfl rfl rfl)<|dS (CL (oy x.j5 1 30000) (aT) rfl)<|dP 3 [] mn ?_
 refine iL (t:=48) rfl (bk fun h23=>?_) (bj fun h23=>?_)
 ·refine dP 11 [] mn ?_
  refine cO<|RK hK17<|aI rfl<|WS fun _ hK24=>rP 1 [] mn ?_
  refine RK hK24<|an<|Q1 hQ rfl rfl rfl ?_
  first|exact cB (ct om).symm|exact cB (cQ hl0_1 hx (by simp only [bo,di]; omega)).symm|exact cB (cu hl0_1 om om).symm
 refine dP 1 [] mn ?_
 refine dS (LP (aa.cells x.kU) 0 rfl bJ rfl rfl rfl)<|dS (CL (oy x.kU 0 5000) (aT) rfl)<|dP 3 [] mn ?_
 refine iL (t:=54) rfl (bk fun h25=>?_) (bj fun h25=>?_)
 ·refine dP 5 [] mn ?_
  refine cO<|RK hK17<|aI rfl<|WS fun _ hK26=>rP 1 [] mn ?_
  refine RK hK26<|an<|Q1 hQ rfl rfl rfl ?_
  first|exact cB (ct om).symm|exact cB (cQ hl0_1 hx (by simp only [bo,di]; omega)).symm|exact cB (cu hl0_1 om om).symm
 refine dP 2 [] (mc 0 rfl mn) ?_
 refine dS (CL (nD x.xH 0 5000) (aT) rfl)<|dP 2 [] mn ?_
 refine cO<|RK hK17 ?_
 refine cP rfl (bk fun h27=>?_) (bj fun h27=>?_)
 ·refine WS fun _ hK28=>?_
  refine rP 1 [] mn ?_
  refine RK hK28<|an<|Q1 hQ rfl rfl rfl ?_
  first|exact cB (ct om).symm|exact cB (cQ hl0_1 hx (by simp only [bo,di]; omega)).symm|exact cB (cu hl0_1 om om).symm
 refine WK hK16<|WS fun _ hK29=>rP 2 [] (mc 0 rfl mn) ?_
 refine RK hK29<|av<|WS fun _ hK30=>rS (BI rfl oR)<|rP 1 [] mn ?_
 refine RK hK30 ?_
 refine cP rfl (aP fun h31=>?_) (aQ fun h31=>?_)
 ·refine WS fun _ hK32=>?_
  refine rP 5 [] (mc 0 rfl mn) ?_
  refine c8 (t:=68) rfl (bk fun h33=>?_) (bj fun h33=>?_)
  ·refine rP 5 [] mn ?_
   refine RK hK32<|aI rfl<|WS fun _ hK34=>rP 1 [] mn ?_
   refine RK hK34<|an<|Q1 hQ rfl rfl rfl ?_
   first|exact cB (ct om).symm|exact cB (cQ hl0_1 hx (by simp only [bo,di]; omega)).symm|exact cB (cu hl0_1 om om).symm
  refine rP 5 [] (mc 0 rfl mn) ?_
  refine RK hK32 ?_
  refine bM rfl (bj fun h35=>?_) (bk fun h35=>?_)
  ·refine bZ ?_
   refine ax<|ax<|KK hK13<|ak<|rP 3 [] mn ?_
   refine aB ?_
   refine aN (hJ9 ⟨(i+1),⟨om,gE hl0_1 hx (by simp only [bo,di]; omega),by rw [fH hx]; omega⟩⟩ _ _ _ rfl os (aL rfl) (aG [1,2]))
  refine WS fun _ hK36=>rP 1 [] mn ?_
  refine RK hK36<|an<|Q1 hQ rfl rfl rfl ?_
  first|exact cB (ct om).symm|exact cB (cQ hl0_1 hx (by simp only [bo,di]; omega)).symm|exact cB (cu hl0_1 om om).symm
 refine ai fun _ hK37=>WS fun _ hK38=>rS (BI rfl oR)<|rP 1 [] mn ?_
 refine RK hK38 ?_
 refine cP rfl (aP fun h39=>?_) (aQ fun h39=>?_)
 ·refine WK hK37 ?_
  refine bM rfl (aQ fun h40=>?_) (aP fun h40=>?_)
  ·refine WS fun _ hK44=>?_
   refine rP 1 [] mn ?_
   refine RK hK44<|an<|Q1 hQ rfl rfl rfl ?_
   first|exact cB (ct om).symm|exact cB (cQ hl0_1 hx (by simp only [bo,di]; omega)).symm|exact cB (cu hl0_1 om om).symm
  refine WS fun _ hK41=>rP 1 [] mn ?_
  refine rS (LP (aa.cells x.dR) 0 rfl bJ rfl rfl rfl)<|rS (CL (oy x.dR 500 20000) (aT) rfl)<|rP 1 [] mn ?_
  refine RK hK41 ?_
  refine bM rfl (bj fun h42=>?_) (bk fun h42=>?_)
  ·refine bZ ?_
   refine ax<|ax<|KK hK13<|ak<|rP 3 [] mn ?_
   refine aB ?_
   refine aN (hJ9 ⟨(i+1),⟨om,gE hl0_1 hx (by simp only [bo,di]; omega),by rw [fH hx]; omega⟩⟩ _ _ _ rfl os (aL rfl) (aG [1,2]))
  refine WS fun _ hK43=>rP 1 [] mn ?_
  refine RK hK43<|an<|Q1 hQ rfl rfl rfl ?_
  first|exact cB (ct om).symm|exact cB (cQ hl0_1 hx (by simp only [bo,di]; omega)).symm|exact cB (cu hl0_1 om om).symm
 refine ak<|rS (BI rfl oR)<|rP 1 [] mn ?_
 refine RK hK37 ?_
 refine bM rfl (aQ fun h45=>?_) (aP fun h45=>?_)
 ·refine WS fun _ hK49=>?_
  refine rP 1 [] mn ?_
  refine RK hK49<|an<|Q1 hQ rfl rfl rfl ?_
  first|exact cB (ct om).symm|exact cB (cQ hl0_1 hx (by simp only [bo,di]; omega)).symm|exact cB (cu hl0_1 om om).symm
 refine WS fun _ hK46=>rP 1 [] mn ?_
 refine rS (LP (aa.cells x.dR) 0 rfl bJ rfl rfl rfl)<|rS (CL (oy x.dR 500 20000) (aT) rfl)<|rP 1 [] mn ?_
 refine RK hK46 ?_
 refine bM rfl (bj fun h47=>?_) (bk fun h47=>?_)
 ·refine bZ ?_
  refine ax<|ax<|KK hK13<|ak<|rP 3 [] mn ?_
  refine aB ?_
  refine aN (hJ9 ⟨(i+1),⟨om,gE hl0_1 hx (by simp only [bo,di]; omega),by rw [fH hx]; omega⟩⟩ _ _ _ rfl os (aL rfl) (aG [1,2]))
 refine WS fun _ hK48=>rP 1 [] mn ?_
 refine RK hK48<|an<|Q1 hQ rfl rfl rfl ?_
 first|exact cB (ct om).symm|exact cB (cQ hl0_1 hx (by simp only [bo,di]; omega)).symm|exact cB (cu hl0_1 om om).symm
theorem yX (ts:List ah) (tsA:OA) (tsC:Nat) (hlen:ts.length≤1000000) (hside: ∀ x∈ts,0≤x.iy∧x.iy≤255):
 eu Tryz.prog 92 [(vA (bL.cells (bL.mk (bB.mk tsA ts.length tsC))))] [(rd tsA ts.length 9 (ts.map ah.cells))] (vI (if cx ts=true then 0 else 10)):=by
 refine bu kr Tryz.func92 rfl rfl fun w0 Q hQ hN=>?_
 try dsimp only
 refine WS fun _ hK1=>fP rfl fun b2=>rP 1 [] mn ?_
 refine RK hK1<|BH rfl<|ai fun _ hK3=>WS fun _ hK4=>rP 3 [] (mc 0 rfl mn) ?_
 refine fc (xs:=[.tmp 11]) (cs:=[(vI ((ts.length:Nat):Int))]) rfl dB lT rfl rfl rfl rfl (by simp [Value.cells]) rfl rfl fun b5=>rS (CL (eu.eq (nO 1 12 ([((ts.length:Nat):Int)]) (some ⟨b5,0,none⟩) 1 sd) dx) (bq (a_ 0 rfl rfl (by simp [bT]) rfl)<|aT) rfl)<|rP 1 [] mn ?_
 refine RK hK4 ?_
 refine cP rfl (bk fun h6=>?_) (bj fun h6=>?_)
 ·refine WS fun _ hK7=>?_
  refine rP 1 [] mn ?_
  refine RK hK7<|an<|Q1 hQ rfl rfl rfl ?_
  first|exact cI (if_neg (by rw [ct om]; decide)).symm|exact cI (if_neg (by rw [cQ hl0_1 hx (by simp only [bo,di]; omega)]; decide)).symm|exact cI (if_pos (cu hl0_1 om om)).symm
 refine WK hK3<|WS fun _ hK8=>rP 1 [] mn ?_
 refine RK hK8<|WS fun _ hK9=>rP 1 [] mn ?_
 refine RK hK9<|ai fun _ hK10=>BB<|KK hK10<|ai fun _ hK11=>WS fun _ hK12=>rP 4 [] (mc 1 rfl mn) ?_
 refine RK hK12<|av ?_
 have hinit:(0≤ts.length)∧(ew (-1) ts=ew (fw ts 0) (ts.drop 0))∧(-1≤fw ts 0)∧(fw ts 0≤9999):=by (refine ⟨om,rfl,by simp [fw],by simp [fw]⟩)
 refine cp (ι:={z:Nat // (z≤ts.length)∧(ew (-1) ts=ew (fw ts z) (ts.drop z))∧(-1≤fw ts z)∧(fw ts z≤9999)}) (fun z=>[(1,(vP b2)),(3,(vI (fw ts z.1))),(4,(vI 0)),(16,(vS tsA ts.length tsC)),(17,(vI ((ts.length:Nat):Int))),(18,(vI (z.1:Int)))]) (fun z=>[(br b2 24 (bL.cells (bL.mk (bB.mk tsA ts.length tsC)))),(rd tsA ts.length 9 (ts.map ah.cells)).ro]) (fun z=>ts.length-z.1) ⟨0,hinit⟩ (aL rfl) (aG [1,2]) ?_
 clear hinit
 rintro ⟨i,⟨hl0_0,hl0_1,hl0_2,hl0_3⟩⟩ J13 hJ13
 try dsimp only
 refine WS fun _ hK14=>rP 1 [] mn ?_
 refine RK hK14<|ai fun _ hK15=>?_
 refine bM rfl (aQ fun h16=>?_) (aP fun h16=>?_)
 ·refine bp ?_
  refine ae<|ae<|au<|KK hK11<|WS fun _ hK24=>rP 2 [] mn ?_
  refine RK hK24<|an<|Q1 hQ rfl rfl rfl ?_
  first|exact cI (if_neg (by rw [ct om]; decide)).symm|exact cI (if_neg (by rw [cQ hl0_1 hx (by simp only [bo,di]; omega)]; decide)).symm|exact cI (if_pos (cu hl0_1 om om)).symm
 refine WK hK15<|ai fun _ hK17=>av<|WS fun _ hK18=>?_
 obtain ⟨x,hx⟩:=aO ts i om
 have hxm:=bI ah.cells hx
 refine rS (IA i rfl (aA 1 rfl) yJ dc om om) ?_
 have hsd:=hside x (aw hx)
 refine rS (n9 i 0 (ah.cells x) rfl bJ (aA 1 rfl) hxm rfl dc rfl rfl)<|AL rfl Fh fun b19=>f_ rfl EW rfl<|RK hK18 ?_
 refine pn (ι:=Unit) (fun z=>[(1,(vP b2)),(3,(vI (fw ts i))),(4,(vI 0)),(6,(vP b19)),(7,(vB (decide (x.iy=0∧x.dR.Lo=0∧x.dR.Hi=0)))),(16,(vS tsA ts.length tsC)),(17,(vI ((ts.length:Nat):Int))),(18,(vI (i:Int)))]) (fun z=>[(br b19 163 (ah.cells x)),(br b2 24 (bL.cells (bL.mk (bB.mk tsA ts.length tsC)))),(rd tsA ts.length 9 (ts.map ah.cells)).ro]) ?_ fun K20 hK20=>?_
 ·intro _
  try dsimp only
  refine pn (ι:=Unit) (fun z=>[(1,(vP b2)),(3,(vI (fw ts i))),(4,(vI 0)),(6,(vP b19)),(7,(vB (decide (x.iy=0∧x.dR.Lo=0∧x.dR.Hi=0)))),(8,(vB (decide ((1≤x.iy∧x.iy≤2)∧x.dR.Lo≤x.dR.Hi∧500≤x.dR.Lo∧x.dR.Hi≤20000)))),(16,(vS tsA ts.length tsC)),(17,(vI ((ts.length:Nat):Int))),(18,(vI (i:Int)))]) (fun z=>[(br b19 163 (ah.cells x)),(br b2 24 (bL.cells (bL.mk (bB.mk tsA ts.length tsC)))),(rd tsA ts.length 9 (ts.map ah.cells)).ro]) ?_ fun K21 hK21=>?_
  ·intro _
   try dsimp only
   refine ai fun _ hK22=>WS fun _ hK23=>rP 4 [] (mc 0 rfl mn) ?_
   refine fc (xs:=[.tmp 44]) (cs:=[(vI x.Id)]) rfl dB lT rfl rfl rfl rfl (by simp [Value.cells]) rfl rfl fun b24=>rS (CL (eu.eq (nO ((fw ts i)+1) 9999 ([x.Id]) (some ⟨b24,0,none⟩) 1 sd) dx) (bq (a_ 0 rfl rfl (by simp [bT]) rfl)<|aT) rfl)<|rP 2 [] mn ?_
   refine c8 (t:=48) rfl (bk fun h25=>?_) (bj fun h25=>?_)
   ·refine rP 26 [] mn ?_
    refine RK hK23<|aI rfl<|WS fun _ hK26=>rP 1 [] mn ?_
    refine RK hK26<|bp<|ae<|im rfl<|ae<|ae<|au<|KK hK11<|WS fun _ hK27=>rP 2 [] mn ?_
    refine RK hK27<|an<|Q1 hQ rfl rfl rfl ?_
    first|exact cI (if_neg (by rw [ct om]; decide)).symm|exact cI (if_neg (by rw [cQ hl0_1 hx (by simp only [bo,di]; omega)]; decide)).symm|exact cI (if_pos (cu hl0_1 om om)).symm
   refine rP 1 [] mn ?_
   refine rS (LP (aa.cells x.j5) 1 rfl bJ rfl rfl rfl)<|rS (CL (uw x.j5 1 30000) (aT) rfl)<|rP 3 [] mn ?_
   refine c8 (t:=54) rfl (bk fun h28=>?_) (bj fun h28=>?_)
   ·refine rP 20 [] mn ?_
    refine RK hK23<|aI rfl<|WS fun _ hK29=>rP 1 [] mn ?_
    refine RK hK29<|bp<|ae<|im rfl<|ae<|ae<|au<|KK hK11<|WS fun _ hK30=>rP 2 [] mn ?_
    refine RK hK30<|an<|Q1 hQ rfl rfl rfl ?_
    first|exact cI (if_neg (by rw [ct om]; decide)).symm|exact cI (if_neg (by rw [cQ hl0_1 hx (by simp only [bo,di]; omega)]; decide)).symm|exact cI (if_pos (cu hl0_1 om om)).symm
   refine rP 1 [] mn ?_
   refine rS (LP (aa.cells x.kU) 1 rfl bJ rfl rfl rfl)<|rS (CL (uw x.kU 0 5000) (aT) rfl)<|rP 3 [] mn ?_
   refine c8 (t:=60) rfl (bk fun h31=>?_) (bj fun h31=>?_)
   ·refine rP 14 [] mn ?_
    refine RK hK23<|aI rfl<|WS fun _ hK32=>rP 1 [] mn ?_
    refine RK hK32<|bp<|ae<|im rfl<|ae<|ae<|au<|KK hK11<|WS fun _ hK33=>rP 2 [] mn ?_
    refine RK hK33<|an<|Q1 hQ rfl rfl rfl ?_
    first|exact cI (if_neg (by rw [ct om]; decide)).symm|exact cI (if_neg (by rw [cQ hl0_1 hx (by simp only [bo,di]; omega)]; decide)).symm|exact cI (if_pos (cu hl0_1 om om)).symm
   refine rP 2 [] (mc 1 rfl mn) ?_
   refine fc (xs:=[.tmp 62]) (cs:=[(vI x.xH)]) rfl dB lT rfl rfl rfl rfl (by simp [Value.cells]) rfl rfl fun b34=>rS (CL (eu.eq (nO 0 5000 ([x.xH]) (some ⟨b34,0,none⟩) 1 sd) dx) (bq (a_ 0 rfl rfl (by simp [bT]) rfl)<|aT) rfl)<|rP 3 [] mn ?_
   refine c8 (t:=67) rfl (bk fun h35=>?_) (bj fun h35=>?_)
   ·refine rP 7 [] mn ?_
    refine RK hK23<|aI rfl<|WS fun _ hK36=>rP 1 [] mn ?_
    refine RK hK36<|bp<|ae<|im rfl<|ae<|ae<|au<|KK hK11<|WS fun _ hK37=>rP 2 [] mn ?_
    refine RK hK37<|an<|Q1 hQ rfl rfl rfl ?_
    first|exact cI (if_neg (by rw [ct om]; decide)).symm|exact cI (if_neg (by rw [cQ hl0_1 hx (by simp only [bo,di]; omega)]; decide)).symm|exact cI (if_pos (cu hl0_1 om om)).symm
   refine rP 3 [] mn ?_
   refine dp (t:=70) rfl (bj fun h38=>?_) (bk fun h38=>?_)
   ·refine rP 4 [] mn ?_
    refine RK hK23<|aW rfl<|WK hK22<|ak<|rP 3 [] (mc 2 rfl mn) ?_
    refine aB<|ax<|KK hK17<|ak<|rP 2 [] mn ?_
    refine aB ?_
    have hb43:(vI (fw ts (i+1)))=(vI x.Id):=by rw [fH hx]
    refine aN (hJ13 ⟨(i+1),⟨om,gE hl0_1 hx (by simp only [bo,di]; omega),by rw [fH hx]; omega,by rw [fH hx]; omega⟩⟩ _ _ _ rfl os (dK.cons rfl<|aY rfl hb43<|aL rfl) (aG [3,4]))
   refine rP 4 [] mn ?_
   refine RK hK23 ?_
   refine bM rfl (bj fun h39=>?_) (bk fun h39=>?_)
   ·refine WK hK22 ?_
    refine ak<|rP 3 [] (mc 2 rfl mn) ?_
    refine aB<|ax<|KK hK17<|ak<|rP 2 [] mn ?_
    refine aB ?_
    have hb42:(vI (fw ts (i+1)))=(vI x.Id):=by rw [fH hx]
    refine aN (hJ13 ⟨(i+1),⟨om,gE hl0_1 hx (by simp only [bo,di]; omega),by rw [fH hx]; omega,by rw [fH hx]; omega⟩⟩ _ _ _ rfl os (dK.cons rfl<|aY rfl hb42<|aL rfl) (aG [3,4]))
   refine WS fun _ hK40=>rP 1 [] mn ?_
   refine RK hK40<|bp<|ae<|im rfl<|ae<|ae<|au<|KK hK11<|WS fun _ hK41=>rP 2 [] mn ?_
   refine RK hK41<|an<|Q1 hQ rfl rfl rfl ?_
   first|exact cI (if_neg (by rw [ct om]; decide)).symm|exact cI (if_neg (by rw [cQ hl0_1 hx (by simp only [bo,di]; omega)]; decide)).symm|exact cI (if_pos (cu hl0_1 om om)).symm
  refine ak<|rP 2 [] (mc 0 rfl mn) ?_
  refine rS (SX (uo (m:=x.iy) rfl rfl ML oZ (tp (by first|assumption|omega))) rfl rfl)<|fc (xs:=[.tmp 33]) (cs:=[(vI x.iy)]) rfl dB lT rfl rfl rfl rfl (by simp [Value.cells]) rfl rfl fun b22=>rS (CL (eu.eq (nO 1 2 ([x.iy]) (some ⟨b22,0,none⟩) 1 sd) dx) (bq (a_ 0 rfl rfl (by simp [bT]) rfl)<|aT) rfl)<|rP 1 [] mn ?_
  refine dp (t:=36) rfl (aQ fun h23=>?_) (aP fun h23=>?_)
  ·refine rP 5 [] mn ?_
   refine aB ?_
   have hb25:(decide ((1≤x.iy∧x.iy≤2)∧x.dR.Lo≤x.dR.Hi∧500≤x.dR.Lo∧x.dR.Hi≤20000))=false:=a7 (by first|omega|(simp only [aa.ext_iff] at *; omega))
   refine aN (jz (cv 5<|mM rfl hb25<|aL rfl) (aG [1,2,3]) (hK21 ()))
  refine rP 1 [] mn ?_
  refine rS (LP (aa.cells x.dR) 1 rfl bJ rfl rfl rfl)<|rS (CL (uw x.dR 500 20000) (aT) rfl)<|rP 2 [] mn ?_
  refine aB ?_
  have hb24:(decide ((1≤x.iy∧x.iy≤2)∧x.dR.Lo≤x.dR.Hi∧500≤x.dR.Lo∧x.dR.Hi≤20000))=(decide (x.dR.Lo≤x.dR.Hi∧500≤x.dR.Lo∧x.dR.Hi≤20000)):=decide_eq_decide.2 (by first|omega|(simp only [aa.ext_iff] at *; omega))
  refine aN (jz (cv 5<|mM rfl hb24<|aL rfl) (aG [1,2,3]) (hK21 ()))
 refine ak<|rP 2 [] (mc 0 rfl mn) ?_
 refine rS (BI rfl oR)<|rP 1 [] mn ?_
 refine dp (t:=25) rfl (aQ fun h21=>?_) (aP fun h21=>?_)
 ·refine rP 6 [] mn ?_
  refine aB ?_
  have hb23:(decide (x.iy=0∧x.dR.Lo=0∧x.dR.Hi=0))=false:=a7 (by first|omega|(simp only [aa.ext_iff] at *; omega))
  refine aN (jz (cv 4<|mM rfl hb23<|aL rfl) (aG [0,1,2]) (hK20 ()))
 refine rP 1 [] mn ?_
 refine rS (LP (aa.cells x.dR) 0 rfl bJ rfl rfl rfl)<|rS (SX (bg (xs:=[]) (cs:=(aa.cells (aa.mk 0 0))) rfl rfl (bf fg rfl)) rfl rfl)<|rS (BI rfl (tL _ _ x.dR (aa.mk 0 0)))<|rP 2 [] mn ?_
 refine aB ?_
 have hb22:(decide (x.iy=0∧x.dR.Lo=0∧x.dR.Hi=0))=(decide (x.dR=(aa.mk 0 0))):=decide_eq_decide.2 (by first|omega|(simp only [aa.ext_iff] at *; omega))
 refine aN (jz (cv 4<|mM rfl hb22<|aL rfl) (aG [0,1,2]) (hK20 ()))
end
section
open Go.RowKit
theorem GN (n lo hi:Int) (g1 g2:Nat):
 eu Tryz.prog 73 [(vI n),(vP g1),(vP g2)] [(br g1 3 [(vI lo)]),(br g2 3 [(vI hi)])] (vB (decide (n<lo∨hi<n))):=by
 refine bu kr Tryz.func73 rfl rfl fun w0 Q hQ hN=>?_
 try dsimp only
 refine WS fun _ hK1=>rP 1 [] mn ?_
 refine RK hK1<|WS fun _ hK2=>rP 4 [] (mr 0 rfl mn) ?_
 refine c8 (t:=8) rfl (aP fun h3=>?_) (aQ fun h3=>?_)
 ·refine rP 5 [] mn ?_
  refine RK hK2<|an<|Q1 hQ rfl rfl rfl ?_
  exact cB (bW om).symm
 refine rP 5 [] (mr 1 rfl mn) ?_
 refine RK hK2<|an<|Q1 hQ rfl rfl rfl ?_
 exact cB (decide_eq_decide.2 om)
theorem lG (lo hi:Int) (l:List Int) (lA:OA) (lC:Nat) (hlen:l.length≤1000000):
 eu Tryz.prog 43 [(vI lo),(vI hi),(vS lA l.length lC)] [(rd lA l.length 1 (l.map iC))] (vB (oT lo hi l)):=by
 refine bu kr Tryz.func43 rfl rfl fun w0 Q hQ hN=>?_
 try dsimp only
 refine WS fun _ hK1=>t_ rfl rfl fun b2=>t_ rfl rfl fun b3=>rP 1 [] mn ?_
 refine RK hK1<|WS fun _ hK4=>rP 1 [] mn ?_
 refine rS (FU rfl)<|rS (CL (qu l lA lC (Value.func (.func 73) [].toArray [(vP b2),(vP b3)].toArray) (fun u5=>(decide (u5<lo∨hi<u5))) (du [(br b2 3 [(vI lo)]),(br b3 3 [(vI hi)])]) (by intro u5 _; exact ob (fi:=[]) (ca:=[(vP b2),(vP b3)]) (mW (GN u5 lo hi b2 b3) (bh [0,1]))) hlen) (cw 2 rfl rfl<|bq (mY (bh [1,0]))<|aT) rfl)<|rP 2 [] mn ?_
 refine RK hK4<|an ?_
 exact Q1 hQ rfl rfl rfl rfl
theorem HX (s:aa):
 eu Tryz.prog 82 [(vA (aa.cells s))] [] (vB (decide (jY s))):=by
 refine bu kr Tryz.func82 rfl rfl fun w0 Q hQ hN=>?_
 try dsimp only
 refine WS fun _ hK1=>fP rfl fun b2=>rP 1 [] mn ?_
 refine RK hK1<|WS fun _ hK3=>rP 4 [] (mc 0 rfl mn) ?_
 refine fc (xs:=[.tmp 4,.tmp 6]) (cs:=[(vI s.Lo),(vI s.Hi)]) rfl dB lT rfl rfl rfl rfl (by simp [Value.cells]) rfl rfl fun b4=>rS (CL (eu.eq (lG 1 600000 ([s.Lo,s.Hi]) (some ⟨b4,0,none⟩) 2 sd) p6) (bq (a_ 0 rfl rfl (by simp [bT]) rfl)<|aT) rfl)<|rP 1 [] mn ?_
 refine dp (t:=9) rfl (aQ fun h5=>?_) (aP fun h5=>?_)
 ·refine rP 7 [] mn ?_
  refine RK hK3<|an<|Q1 hQ rfl rfl rfl ?_
  simp only [jY]
  first|rfl|exact cB (a7 om).symm|exact cB (bW om).symm|exact cB (decide_eq_decide.2 om)
 refine rP 7 [] (mc 1 rfl mn) ?_
 refine RK hK3<|an<|Q1 hQ rfl rfl rfl ?_
 simp only [jY]
 first|rfl|exact cB (a7 om).symm|exact cB (bW om).symm|exact cB (decide_eq_decide.2 om)
theorem Fx (d:aS) (sgA:OA) (sgC:Nat):
 eu Tryz.prog 198 [(vA (bD.cells (bD.mk d.Out d.dM d.Time (ke d.bP sgA sgC))))] [(rd sgA d.bP.ag.length 2 (d.bP.ag.map aM.cells))] (vB (decide (gO d.bP))):=by
 refine bu kr Tryz.func198 rfl rfl fun w0 Q hQ hN=>?_
 try dsimp only
 refine WS fun _ hK1=>fP rfl fun b2=>rP 1 [] mn ?_
 refine RK hK1<|WS fun _ hK3=>rP 5 [] (mc 0 rfl mn) ?_
 refine dp (t:=7) rfl (aQ fun h4=>?_) (aP fun h4=>?_)
 ·refine rP 13 [] mn ?_
  refine RK hK3<|an<|Q1 hQ rfl rfl rfl ?_
  simp only [gO]
  first|rfl|exact cB (a7 om).symm|exact cB (bW om).symm|exact cB (decide_eq_decide.2 om)
 refine rP 6 [] (mc 0 rfl mn) ?_
 refine dp (t:=13) rfl (aQ fun h5=>?_) (aP fun h5=>?_)
 ·refine rP 7 [] mn ?_
  refine RK hK3<|an<|Q1 hQ rfl rfl rfl ?_
  simp only [gO]
  first|rfl|exact cB (a7 om).symm|exact cB (bW om).symm|exact cB (decide_eq_decide.2 om)
 refine rP 7 [] (mc 0 rfl mn) ?_
 refine RK hK3<|an<|Q1 hQ rfl rfl rfl ?_
 simp only [gO]
 first|rfl|exact cB (a7 om).symm|exact cB (bW om).symm|exact cB (decide_eq_decide.2 om)
theorem KB (d:aS) (sgA:OA) (sgC:Nat):
 eu Tryz.prog 196 [(vA (bD.cells (bD.mk d.Out d.dM d.Time (ke d.bP sgA sgC))))] [(rd sgA d.bP.ag.length 2 (d.bP.ag.map aM.cells))] (vB d.Out):=by
 refine bu kr Tryz.func196 rfl rfl fun w0 Q hQ hN=>?_
 try dsimp only
 refine WS fun _ hK1=>fP rfl fun b2=>rP 1 [] mn ?_
 refine RK hK1<|WS fun _ hK3=>rP 3 [] (mc 0 rfl mn) ?_
 refine RK hK3<|an<|Q1 hQ rfl rfl rfl ?_
 rfl
theorem LU (d:aS) (sgA:OA) (sgC:Nat):
 eu Tryz.prog 199 [(vA (bD.cells (bD.mk d.Out d.dM d.Time (ke d.bP sgA sgC))))] [(rd sgA d.bP.ag.length 2 (d.bP.ag.map aM.cells))] (vB d.dM):=by
 refine bu kr Tryz.func199 rfl rfl fun w0 Q hQ hN=>?_
 try dsimp only
 refine WS fun _ hK1=>fP rfl fun b2=>rP 1 [] mn ?_
 refine RK hK1<|WS fun _ hK3=>rP 3 [] (mc 0 rfl mn) ?_
 refine RK hK3<|an<|Q1 hQ rfl rfl rfl ?_
 rfl
theorem Mo (d:aS) (sgA:OA) (sgC:Nat):
 eu Tryz.prog 201 [(vA (bD.cells (bD.mk d.Out d.dM d.Time (ke d.bP sgA sgC))))] [(rd sgA d.bP.ag.length 2 (d.bP.ag.map aM.cells))] (vB true):=by
 refine bu kr Tryz.func201 rfl rfl fun w0 Q hQ hN=>?_
 try dsimp only
 refine WS fun _ hK1=>fP rfl fun b2=>rP 1 [] mn ?_
 refine RK hK1<|WS fun _ hK3=>rP 1 [] mn ?_
 refine RK hK3<|an<|Q1 hQ rfl rfl rfl ?_
 rfl
end
section
open Go.RowKit
theorem EP (r:dg) (kA:OA) (kC:Nat) (az:List RA) (cA:OA) (cC:Nat) (bA:OA) (bC:Nat) (slA:OA) (slC:Nat) (drA:OA) (drC:Nat) (ha:List gZ) (heA:OA) (heC:Nat) (tz:List RA) (tA:OA) (tC:Nat) (ms:Value) (gw:Nat) (l:List Int) (lA:OA) (lC:Nat) (hin:iT r az ha) (hlen:l.length≤1000000):
 eu Tryz.prog 44 [(vP gw),(vS lA l.length lC)] [(rd kA r.aD.aH.length 9 (r.aD.aH.map ah.cells)),(rd cA r.aD.aj.length 2 (List.zipWith al.cells r.aD.aj az)),(du (aU al.fK r.aD.aj az)),(rd bA r.aD.ab.length 4 (r.aD.ab.map bx.cells)),(rd slA r.aF.length 1 (r.aF.map iC)),(rd drA r.cG.length 1 (r.cG.map iC)),(rd heA r.ay.length 1 (List.zipWith eO r.ay ha)),(du (aU gf r.ay ha)),(rd tA ((bX r).length) 1 (List.zipWith wj (bX r) tz)),(du (aU wR (bX r) tz)),(br gw 100 (eC.cells (eC.mk (kx r kA kC cA cC bA bC slA slC drA drC heA heC) (bB.mk tA ((bX r).length) tC) ms))),(rd lA l.length 1 (l.map iC))] (vB (oT 0 (((r.aF.length:Nat):Int)-1) l)):=by
 have hline:=hin.line
 have hhl:=hin.jZ
 have hhs:=hin.has
 have hsll:=hin.j6
 have hdrl:=hin.draw
 have htal:=eA (r:=r)
 refine bu kr Tryz.func44 rfl rfl fun w0 Q hQ hN=>?_
 try dsimp only
 refine WS fun _ hK1=>rP 1 [] mn ?_
 refine RK hK1<|WS fun _ hK2=>rP 1 [] mn ?_
 refine rS (SX (cf rfl rfl) rfl rfl)<|rP 6 [] (mr 10 rfl mn) ?_
 refine rS (CL (lG 0 (((r.aF.length:Nat):Int)-1) l lA lC hlen) (bh [11]) rfl)<|rP 1 [] mn ?_
 refine RK hK2<|an ?_
 exact Q1 hQ rfl rfl rfl rfl
theorem uW (a b:Bool):
 eu Tryz.prog 38 [(vB a),(vB b)] [] (Value.int .u8 (if a=true then 2 else if b=true then 1 else 0)):=by
 refine bu kr Tryz.func38 rfl rfl fun w0 Q hQ hN=>?_
 try dsimp only
 refine WS fun _ hK1=>rP 1 [] mn ?_
 refine RK hK1<|ai fun _ hK2=>av<|WS fun _ hK3=>rP 2 [] mn ?_
 refine RK hK3 ?_
 refine cP rfl (fun h5=>?_) (fun h5=>?_)
 ·refine WS fun _ hK4=>?_
  refine rP 1 [] mn ?_
  refine RK hK4<|an<|Q1 hQ rfl rfl rfl ?_
  first|rw [if_pos h5]|(rw [if_neg (by rw [h5]; decide),if_pos h7])|(rw [if_neg (by rw [h5]; decide),if_neg (by rw [h7]; decide)])
 refine WS fun _ hK5=>rP 2 [] mn ?_
 refine RK hK5 ?_
 refine cP rfl (fun h7=>?_) (fun h7=>?_)
 ·refine WS fun _ hK6=>?_
  refine rP 1 [] mn ?_
  refine RK hK6<|an<|Q1 hQ rfl rfl rfl ?_
  first|rw [if_pos h5]|(rw [if_neg (by rw [h5]; decide),if_pos h7])|(rw [if_neg (by rw [h5]; decide),if_neg (by rw [h7]; decide)])
 refine bZ<|ax<|KK hK2<|WS fun _ hK7=>rP 1 [] mn ?_
 refine RK hK7<|an<|Q1 hQ rfl rfl rfl ?_
 first|rw [if_pos h5]|(rw [if_neg (by rw [h5]; decide),if_pos h7])|(rw [if_neg (by rw [h5]; decide),if_neg (by rw [h7]; decide)])
end
section
open Go.RowKit
theorem Jl {P:Program} {t:TypeId} {x y:Operand} {k e:TypeId} {p:Option Nat} (h:P.underlying t=some (.map k e)):g_ P .eql t x y (.map p) (.map none) (.bool p.isNone):=fun w=>by
 have e1:(Op.equal t (.map p) (.map none)).run P w= .ok p.isNone w:=by
  unfold Op.equal
  show (Op.equalIn (9999+1) t (.map p) (.map none)).run P w=_
  unfold Op.equalIn
  cases p<;>simp [run_underlying h]
 have e2:eqGuard .eql t x y (.map p) (.map none)=pure ():=rfl
 rw [e2]
 show (Sem.run P (do let b ← Op.equal t (.map p) (.map none); pure (vB b)) w)=_
 simp [e1]
theorem Bv {P:Program} {r:Nat} {es:Array MapEntry} {clock:Nat} {w:World} (t:TypeId) (hb:w.heap[r]? =some (.map es clock)):
 (Extern.MapsClone.clone #[.iface t (.map (some r))]).run P w= .ok (.iface t (.map (some w.heap.size))) (w.alloc (.map es clock)):=by
 have e:Extern.MapsClone.clone #[.iface t (.map (some r))]=(getObj r >>= fun o=>match o with
  | .map entries clock=>(newObj (.map entries clock) >>= fun n=>pure (.iface t (.map (some n))))
  |_=>stuck "maps.clone: a map expected"):=rfl
 rw [e]
 simp [MapKept.run_getObj_map hb,Result.andThen,go_sem]
theorem zl {P:Program} {xt t k e:TypeId} {v:Value} {w:World} (h:P.underlying t=some (.map k e)):(Instr.typeAssert (.iface t v) xt t false).run P w= .ok v w:=by
 simp [Instr.typeAssert,run_underlying h,go_sem,Result.andThen]
theorem mX {C:List aq} {g t:Nat} {cs:List Value} {n sz:Nat} {es:List (List Value)} (i:Nat) (hC:C[i]? =some (br g t cs).ro) (h1:es.length=n) (h2: ∀ e∈es,e.length=sz) (h3:es.flatten=cs):ji C (rd (some ⟨g,0,none⟩) n sz es).holds:=fun w hw=>
 sE (show (br g t cs).holds w from hw (br g t cs).ro (aw hC)) h1 h2 ⟨[],by simp [h3]⟩
section
variable {E:e9} {ops:Array Oper} {Q:dj} {rest:List Oper} {D:List Deferred} {L:List (Nat×Value)} {C:List aq}
variable {dst:Option Nat} {d:Nat} {ty:TypeId} {ps:String} {af:Array Edge} {g:Option (Nat×Bool)}
theorem GJ {P:Program} {t k e:TypeId} {v:Value} {w:World} (h:P.underlying t=some (.map k e)):(Instr.makeInterface t v).run P w= .ok (.iface t v) w:=by
 simp [Instr.makeInterface,run_underlying h,Result.andThen]
theorem HF {t k e:TypeId} {x:Operand} {v:Value} (hg:ju ops L g=true) (hx:ev L x=some v) (ht:E.P.underlying t=some (.map k e)):SD E ops ⟨dst,.makeInterface t x,ty,ps,af,g⟩ D L C (.iface t v):=
 dJ hg sm fun a w hf _=>by
  have e:=hf.ev hx
  simp only [execOp,e]
  rw [Sem.run_bind,GJ ht]
  simp
theorem Ls {xt t kt et:TypeId} {x:Operand} {v:Value} (hg:ju ops L g=true) (hx:ev L x=some (.iface t v)) (ht:E.P.underlying t=some (.map kt et)):SD E ops ⟨dst,.typeAssert x xt t false,ty,ps,af,g⟩ D L C v:=
 dJ hg sm fun a w hf _=>by
  have e:=hf.ev hx
  simp only [execOp,e]
  rw [Sem.run_bind,zl ht]
  simp
theorem FC {K:Type} [DecidableEq K] {kV:K→Value} {x:Operand} {ts:Array TypeId} {f:FuncId} {fn:Func} {t b:Nat} {m:List (K×Value)} (hg:ju ops L g=true) (hx:ev L x=some (.iface t (.map (some b)))) (hf:E.P.funcs[f]? =some fn) (hname:(fn.name=="runtime.NumGoroutine")=false)
 (hb:fn.body.isNone=true) (hn:Extern.findNext fn=none) (he:Extern.find fn=some Extern.MapsClone.clone) (hC:ji C (gQ kV b m).holds) (hd:Nat.blt d E.n=true) (k: ∀ b',RJ E ops Q rest D ((d,.iface t (.map (some b')))::L) (gQ kV b' m::C)):
 RJ E ops Q (⟨some d,.call {callee:= .value (.func f),args:= #[x],argTypes:=ts},ty,ps,af,g⟩::rest) D L C:=by
 intro a w hfr hs
 have hd':d<E.n:=by rw [← Nat.blt_eq]; exact hd
 obtain ⟨es,c,hes,hi⟩:=hC w hs.holds
 unfold qf
 rw [if_pos (dH hfr hg)]
 refine gz (v:= .iface t (.map (some w.heap.size))) (w':=w.alloc (.map es c)) sm ?_ ?_
 ·have e:=hfr.ev hx
  have e2:a.eval (.func f)= .func (.func f) #[] #[]:=rfl
  simp [execOp,resolve,e,e2,Deferred.ofValue,invoke,run_callFunc_extern hf hname hb hn he,Bv t hes]
 ·refine k _ _ _ (hfr.put hd' _) (hs.grow (dD.alloc no w _) (N:=[gQ kV w.heap.size m]) ⟨fun A hA=>?_,fun A hA b hb=>?_,List.pairwise_singleton _ _⟩)
  ·simp at hA; subst hA; exact ⟨es,c,heap_alloc_new w _,hi⟩
  ·simp at hA; subst hA; exact Nat.le_of_eq (Eq.symm hb)
end
end
section
open Go.RowKit
theorem uN (lA:OA) (lN lC:Nat):
 oY Tryz.prog 63 [(vS lA lN lC)] [] (fun (x:Nat)=>(Value.func (.func 85) [].toArray [(vP x)].toArray)) (fun (x:Nat)=>True) (fun (x:Nat)=>[(br x 29 [(vS lA lN lC)])]):=by
 refine ff kr Tryz.func63 rfl rfl fun w0 Q hQ hN=>?_
 try dsimp only
 refine WS fun _ hK1=>t_ rfl rfl fun b2=>rP 1 [] mn ?_
 refine RK hK1<|WS fun _ hK3=>rS (FU rfl)<|rP 1 [] mn ?_
 refine RK hK3<|an ?_
 refine hQ _ _ _ (aZ (vs:=[(Value.func (.func 85) [].toArray [(vP b2)].toArray)]) ⟨rfl,trivial⟩ fun w hs=>ej b2 [0] ?_ ?_ rfl rfl rfl hs)
 ·rfl
 ·trivial
theorem EE (nl:List Int) (nlA:OA) (nlC g1:Nat) (hlen:nl.length≤12):
 Hj Tryz.prog 85 [] [(vP g1)] [(rd nlA nl.length 1 (nl.map iC)),(br g1 29 [(vS nlA nl.length nlC)])] (o2 nl):=by
 refine Cj kr Tryz.func85 rfl rfl fun l J Z A0 w0 Q hY hJ0 hF0 hQ hN=>?_
 try dsimp only
 refine WS fun _ hK1=>rP 3 [] (mr 2 rfl mn) ?_
 refine RK hK1<|av ?_
 have hinit:(0≤nl.length)∧(J 0 A0)∧(Fo A0 w0 A0):=by exact ⟨Nat.zero_le _,hJ0,hF0⟩
 refine cp (ι:={z:Nat×aq // (z.1≤nl.length)∧(J z.1 z.2)∧(Fo A0 w0 z.2)}) (fun z=>[(0,(Value.func (.yield l) #[] #[])),(1,(vP g1)),(5,(vS nlA nl.length nlC)),(6,(vI ((nl.length:Nat):Int))),(7,(vI ((z.1.1:Nat):Int)))]) (fun z=>[z.1.2,(rd nlA nl.length 1 (nl.map iC)).ro]) (fun z=>nl.length-z.1.1) ⟨(0,A0),hinit⟩ (aL rfl) (aG [0,1]) ?_
 clear hinit
 rintro ⟨⟨i,A⟩,⟨hl1_0,hl1_1,hl1_2⟩⟩ J2 hJ2
 try dsimp only at hl1_0 hl1_1 hl1_2
 try dsimp only
 refine WS fun _ hK3=>rP 1 [] mn ?_
 refine RK hK3<|ai fun _ hK4=>?_
 refine bM rfl (aQ fun h5=>?_) (aP fun h5=>?_)
 ·refine bp ?_
  refine ae<|ae<|au ?_
  refine hN _ _ _ (aZ (vs:=[]) trivial fun w hs=>Mp 0 rfl (by rw [rT]; have e:nl.length=i:=om; rw [e]; exact hl1_1) hl1_2 hs)
 refine WK hK4<|ai fun _ hK6=>av<|WS fun _ hK7=>?_
 obtain ⟨x,hx⟩:=aO nl i om
 have hxm:=bI iC hx
 refine rS (IA i rfl (aA 1 rfl) dB dc om om)<|rS (gU i 0 (vI x) rfl bJ (aA 1 rfl) hxm rfl dc rfl)<|rP 1 [] mn ?_
 refine RK hK7<|WS fun _ hK8=>rP 2 [] mn ?_
 refine BP 0 hY hl1_1 hl1_2 rfl rfl rfl (CY hx) rfl rfl (fun B9 hJ10 hF11=>?_) (fun B9 hJ10 hF11=>?_)
 rotate_left 1
 ·refine rP 1 [] mn ?_
  refine RK hK8<|aI rfl<|an ?_
  refine hQ _ _ _ (aZ (vs:=[]) trivial fun w hs=>IH 0 rfl hJ10 hF11 hs)
 refine rP 1 [] mn ?_
 refine RK hK8<|aW rfl<|bZ<|ax<|KK hK6<|ak<|rP 2 [] mn ?_
 refine aB ?_
 refine aN (hJ2 ⟨((i+1),B9),⟨om,hJ10,hF11⟩⟩ _ _ _ rfl os (aL rfl) (aG [0,1]))
end
section
open Go.RowKit
theorem G6 (x:Int):
 eu Tryz.prog 146 [(vI x)] [] (vB false):=by
 refine bu kr Tryz.func146 rfl rfl fun w0 Q hQ hN=>?_
 try dsimp only
 refine WS fun _ hK1=>rP 1 [] mn ?_
 refine RK hK1<|WS fun _ hK2=>rP 4 [] mn ?_
 refine RK hK2<|an<|Q1 hQ rfl rfl rfl ?_
 simp
theorem Im (x y:Int):
 eu Tryz.prog 105 [(vI x),(vI y)] [] (vB (decide (x<y))):=by
 refine bu kr Tryz.func105 rfl rfl fun w0 Q hQ hN=>?_
 try dsimp only
 refine WS fun _ hK1=>rP 1 [] mn ?_
 refine RK hK1<|WS fun _ hK2=>rP 1 [] mn ?_
 refine rS (CL (G6 x) (aT) rfl)<|rP 11 [] mn ?_
 refine RK hK2<|an<|Q1 hQ rfl rfl rfl ?_
 exact cB (decide_eq_decide.2 om)
theorem CC (l:List Int) (lA:OA) (lC:Nat) (hlen:l.length≤1000000):
 Ee Tryz.prog 99 [(vS lA l.length lC),(vI 0),(vI ((l.length:Nat):Int))] [] (own lA lC 3 1 (l.map iC)) (fun (x:(List Int))=>(vT [])) (fun (x:(List Int))=>x.Perm l∧x.Pairwise (· ≤ ·)) (fun (x:(List Int))=>(own lA lC 3 1 (x.map iC))):=by
 refine o5 kr Tryz.func99 rfl rfl fun w0 Q hQ hN=>?_
 try dsimp only
 refine WS fun _ hK1=>rP 1 [] mn ?_
 refine rS (SX (cb (r:= .int .i64 1) rfl rfl rfl (g8 ⟨dc,dc⟩)) rfl rfl)<|rP 1 [] mn ?_
 refine RK hK1<|av ?_
 have hinit:(1≤1∧(1≤l.length∨1=1))∧(l.length=l.length)∧(l.Perm l)∧(Kp l 1):=by exact ⟨om,rfl,List.Perm.refl _,G8⟩
 refine cp (ι:={z:Nat×(List Int) // (1≤z.1∧(z.1≤l.length∨z.1=1))∧(z.2.length=l.length)∧(z.2.Perm l)∧(Kp z.2 z.1)}) (fun z=>[(0,(vS lA l.length lC)),(1,(vI 0)),(2,(vI ((l.length:Nat):Int))),(6,(vI (z.1.1:Int)))]) (fun z=>[(own lA lC 3 1 (z.1.2.map iC))]) (fun z=>l.length-z.1.1) ⟨(1,l),hinit⟩ (aL rfl) (aG [0]) ?_
 clear hinit
 rintro ⟨⟨i,m⟩,⟨hl1_0,hl1_1,hl1_2,hl1_3⟩⟩ J2 hJ2
 try dsimp only at hl1_0 hl1_1 hl1_2 hl1_3
 try dsimp only
 refine ai fun _ hK3=>WS fun _ hK4=>rP 3 [] mn ?_
 refine RK hK4 ?_
 refine bM rfl (aQ fun h5=>?_) (aP fun h5=>?_)
 ·refine bp ?_
  refine ae<|ae<|au ?_
  refine hN _ _ _ (aZ (vs:=[]) trivial fun w hs=>vM m 0 ?_ ?_ rfl rfl hs)
  ·clear hs w hQ hN hK4 hK3 hK1; rfl
  ·clear hs w hQ hN hK4 hK3 hK1; exact ⟨hl1_2,G9 hl1_3 om⟩
 refine WK hK3<|ai fun _ hK6=>av<|WS fun _ hK7=>rP 2 [] mn ?_
 refine RK hK7<|av ?_
 have hinit:(i≤i)∧(m.length=l.length)∧(m.Perm l)∧(Jy m i i):=by exact ⟨Nat.le_refl _,hl1_1,hl1_2,Dm hl1_3 om⟩
 refine cp (ι:={z:Nat×(List Int) // (z.1≤i)∧(z.2.length=l.length)∧(z.2.Perm l)∧(Jy z.2 i z.1)}) (fun z=>[(0,(vS lA l.length lC)),(1,(vI 0)),(2,(vI ((l.length:Nat):Int))),(6,(vI (i:Int))),(7,(vI ((z.1.1:Nat):Int)))]) (fun z=>[(own lA lC 3 1 (z.1.2.map iC))]) (fun z=>z.1.1) ⟨(i,m),hinit⟩ (aL rfl) (aG [0]) ?_
 clear hinit
 rintro ⟨⟨j,q⟩,⟨hl4_0,hl4_1,hl4_2,hl4_3⟩⟩ J8 hJ8
 try dsimp only at hl4_0 hl4_1 hl4_2 hl4_3
 try dsimp only
 refine ai fun _ hK9=>ai fun _ hK10=>dC cD 15 kr<|dP 4 [] mn ?_
 refine jT (t:=19) rfl (aQ fun hj=>?_) (aP fun hj=>?_)
 ·refine dP 11 [] mn ?_
  refine cO<|RK hK10<|aW rfl<|bp<|ae<|ae<|au<|ax<|KK hK6<|ak ?_
  refine rP 3 [] mn ?_
  refine aB ?_
  refine aN (hJ2 ⟨((i+1),q),⟨om,hl4_1,hl4_2,by first|exact yw om hl4_3|exact zu hx hy om hl4_0 hless hl4_3⟩⟩ _ _ _ rfl (by simp only []; omega) (aL rfl) (aG [0]))
 refine dP 2 [] mn ?_
 obtain ⟨x,hx⟩:=aO q j om
 have hxm:=bI iC hx
 refine dS (IA j rfl (aK (n:=l.length) 0 rfl sq) dB dc om om)<|dS (gU j 0 (vI x) rfl bJ (aK (n:=q.length) 0 rfl sm) hxm rfl dc rfl)<|dP 3 [] mn ?_
 obtain ⟨y,hy⟩:=aO q (j-1) om
 have hym:=bI iC hy
 refine dS (IA (j-1) rfl (aK (n:=l.length) 0 rfl sq) dB dc om om)<|dS (gU (j-1) 0 (vI y) rfl bJ (aK (n:=q.length) 0 rfl sm) hym rfl dc rfl)<|dS (CL (Im x y) (aT) rfl)<|dP 1 [] mn ?_
 refine cO<|RK hK10 ?_
 refine bM rfl (aQ fun hless=>?_) (aP fun hless=>?_)
 ·refine bp ?_
  refine ae<|ae<|au<|ax<|KK hK6<|ak<|rP 3 [] mn ?_
  refine aB ?_
  refine aN (hJ2 ⟨((i+1),q),⟨om,hl4_1,hl4_2,by first|exact yw om hl4_3|exact zu hx hy om hl4_0 hless hl4_3⟩⟩ _ _ _ rfl (by simp only []; omega) (aL rfl) (aG [0]))
 refine WK hK9<|ai fun _ hK11=>av<|ep cD [15,16,17] [8,9,12,13,14] [] [] [0] rfl rfl rfl rfl rfl<|eS rfl (MV rfl)<|eS rfl (MV rfl)<|eS rfl (MV rfl)<|eS rfl (MV rfl)<|eS rfl (BI rfl (tM ⟨om,om⟩))<|eS rfl (MV rfl) ?_
 refine eS rfl (MV rfl)<|eS rfl (BI rfl (tM ⟨om,om⟩))<|fS rfl (IA (j-1) rfl (aK (n:=l.length) 0 rfl sq) dB dc om om)<|fS rfl (gU (j-1) 0 (vI y) rfl bJ (aK (n:=q.length) 0 rfl sm) hym rfl dc rfl)<|eS rfl (MV rfl)<|eS rfl (MV rfl)<|fS rfl (IA j rfl (aK (n:=l.length) 0 rfl sq) dB dc om om)<|fS rfl (gU j 0 (vI x) rfl bJ (aK (n:=q.length) 0 rfl sm) hxm rfl dc rfl)<|fS rfl (IA j rfl (aK (n:=l.length) 0 rfl sq) dB dc om om)<|fp rfl ?_
 refine cr rfl fun T12 hT12=>hZ (k:=j) (o:=0) (vs:=[(vI y)]) (es':=(List.map iC (q.set j y))) (C':=[(own lA lC 3 1 (List.map iC (q.set j y)))]) 0 rfl rfl rfl DI rfl rfl rfl rfl hxm rfl dc (by exact (List.map_set (f:=iC) (l:=q) (i:=j) (a:=y)).symm) rfl ?_
 refine aB (hT12 _ _ (aG []) ?_)
 refine cr rfl fun T13 hT13=>?_
 obtain ⟨x14,hx15⟩:=aO (q.set j y) (j-1) os
 have hx15m:(List.map iC (q.set j y))[(j-1)]? =some (iC x14):=by rw [fq,hx15]; rfl
 refine rS (IA (j-1) rfl (aK (n:=l.length) 0 rfl sq) dB dc om om) ?_
 refine aB (hT13 _ _ (aG []) ?_)
 refine cr rfl fun T16 hT16=>hZ (k:=(j-1)) (o:=0) (vs:=[(vI x)]) (es':=(List.map iC ((q.set j y).set (j-1) x))) (C':=[(own lA lC 3 1 (List.map iC ((q.set j y).set (j-1) x)))]) 0 rfl rfl rfl DI rfl rfl rfl rfl hx15m rfl dc (by exact (List.map_set (f:=iC) (l:=(q.set j y)) (i:=(j-1)) (a:=x)).symm) rfl ?_
 refine aB (hT16 _ _ (aG []) ?_)
 refine gh rfl<|ax<|KK hK11<|ak<|rP 3 [] mn ?_
 refine aB ?_
 have hb17:(vI (((j-1):Nat):Int))=(vI (((j:Nat):Int)-1)):=by exact cI om
 refine aN (hJ8 ⟨((j-1),((q.set j y).set (j-1) x)),⟨om,by simp; exact hl4_1,(Ea hx hy).trans hl4_2,FY hx hy om hl4_0 hless hl4_3⟩⟩ _ _ _ rfl (by simp only []; omega) (cv 4<|aY rfl hb17<|dK.nil _) (aG [0]))
theorem Ic (x:Int) (hx:0≤x∧x≤100):
 oY Tryz.prog 109 [(Value.int .u64 x)] [] (fun (x:Int)=>(vI x)) (fun (x:Int)=>True) (fun (x:Int)=>[]):=by
 refine ff kr Tryz.func109 rfl rfl fun w0 Q hQ hN=>?_
 try dsimp only
 refine WS fun _ hK1=>rP 1 [] mn ?_
 refine RK hK1<|ai fun _ hK2=>WS fun _ hK3=>rP 1 [] mn ?_
 refine rS (BI rfl BY)<|RK hK3 ?_
 refine cP rfl (aP fun h4=>?_) (aQ fun h4=>?_)
 ·exfalso; omega
 refine WK hK2<|ai fun _ hK5=>WS fun _ hK6=>rP 1 [] mn ?_
 refine rS (BI rfl BY)<|RK hK6 ?_
 refine cP rfl (aP fun h7=>?_) (aQ fun h7=>?_)
 ·exfalso; omega
 refine WK hK5<|ai fun _ hK8=>WS fun _ hK9=>rP 1 [] mn ?_
 refine rS (BI rfl BY)<|RK hK9 ?_
 refine cP rfl (aP fun h10=>?_) (aQ fun h10=>?_)
 ·exfalso; omega
 refine WK hK8<|WS fun _ hK11=>rP 2 [] mn ?_
 refine rS (SX (uo (m:=x) rfl rfl Lg ML (yL (by first|assumption|omega))) rfl rfl)<|JL (k:=(x).toNat) rfl rfl rfl Og om (Nat.lt_of_lt_of_le (m:=200) om (of_decide_eq_true kr)) rfl fun b12 hb13=>rS (SX (uo (m:=b12) rfl rfl ML oZ (tp (by first|assumption|omega))) rfl rfl)<|rP 2 [] mn ?_
 refine RK hK11<|an ?_
 refine hQ _ _ _ (aZ (vs:=[(vI (0+b12))]) ⟨rfl,trivial⟩ fun w hs=>ej (0+b12) [] ?_ ?_ rfl rfl rfl hs)
 ·rfl
 ·trivial
theorem Ku (x:Int) (hx:0≤x∧x≤100):
 oY Tryz.prog 81 [(Value.int .u64 x)] [] (fun (x:Int)=>(vI x)) (fun (x:Int)=>True) (fun (x:Int)=>[]):=by
 refine ff kr Tryz.func81 rfl rfl fun w0 Q hQ hN=>?_
 try dsimp only
 refine WS fun _ hK1=>rP 1 [] mn ?_
 refine RK hK1<|ai fun _ hK2=>aW rfl<|WK hK2<|WS fun _ hK3=>rP 1 [] mn ?_
 refine cX (Ic x hx) (aT) rfl fun n6 hy5=>?_
 try dsimp only
 refine rP 1 [] mn ?_
 refine RK hK3<|an ?_
 refine hQ _ _ _ (aZ (vs:=[(vI n6)]) ⟨rfl,trivial⟩ fun w hs=>ej n6 [] ?_ ?_ rfl rfl rfl hs)
 ·rfl
 ·trivial
theorem KV (l:List Int) (lA:OA) (lC:Nat) (u:Int) (hlen:l.length≤12):
 Ee Tryz.prog 80 [(vS lA l.length lC),(vI 0),(vI ((l.length:Nat):Int)),(vI u)] [] (own lA lC 3 1 (l.map iC)) (fun (x:(List Int))=>(vT [])) (fun (x:(List Int))=>x.Perm l∧x.Pairwise (· ≤ ·)) (fun (x:(List Int))=>(own lA lC 3 1 (x.map iC))):=by
 refine o5 kr Tryz.func80 rfl rfl fun w0 Q hQ hN=>?_
 try dsimp only
 refine WS fun _ hK1=>rP 1 [] mn ?_
 refine RK hK1<|WS fun _ hK2=>rP 1 [] mn ?_
 refine RK hK2<|av<|kz 1<|ek fun R3 hR3=>av<|WS fun _ hK4=>rP 4 [] mn ?_
 refine RK hK4<|ai fun _ hK5=>WS fun _ hK6=>rP 2 [] mn ?_
 refine RK hK6 ?_
 refine bM rfl (aQ fun h7=>?_) (aP fun h7=>?_)
 ·exfalso; omega
 refine WS fun _ hK8=>rP 3 [] mn ?_
 refine lF 0 rfl rfl rfl rfl (CC l lA lC sd) rfl nu rfl (fun m9 hy11=>?_)
 try dsimp only
 refine RK hK8<|an ?_
 refine hQ _ _ _ (aZ (vs:=[]) trivial fun w hs=>vM m9 0 ?_ ?_ rfl rfl hs)
 ·clear hs w hQ hN hK8 hK6 hK5 hK4 hK2 hK1; rfl
 ·clear hs w hQ hN hK8 hK6 hK5 hK4 hK2 hK1; assumption
theorem Gk (l:List Int) (lA:OA) (lC:Nat) (hlen:l.length≤12):
 Ee Tryz.prog 57 [(vS lA l.length lC)] [] (own lA lC 3 1 (l.map iC)) (fun (x:(List Int))=>(vT [])) (fun (x:(List Int))=>x.Perm l∧x.Pairwise (· ≤ ·)) (fun (x:(List Int))=>(own lA lC 3 1 (x.map iC))):=by
 refine o5 kr Tryz.func57 rfl rfl fun w0 Q hQ hN=>?_
 try dsimp only
 refine WS fun _ hK1=>rP 3 [] mn ?_
 refine RK hK1<|ak<|rP 3 [] mn ?_
 refine rS (SX (uo (m:=((l.length:Nat):Int)) rfl rfl oZ Lh (xB (by first|assumption|omega))) rfl rfl)<|cX (Ku ((l.length:Nat):Int) sd) (aT) rfl fun n4 hy3=>?_
 try dsimp only
 refine lF 0 rfl rfl rfl rfl (KV l lA lC n4 hlen) rfl nu rfl (fun m5 hy7=>?_)
 try dsimp only
 refine aB ?_
 refine hN _ _ _ (aZ (vs:=[]) trivial fun w hs=>vM m5 0 ?_ ?_ rfl rfl hs)
 ·clear hs w hQ hN hK1; rfl
 ·clear hs w hQ hN hK1; assumption
end
section
open Go.RowKit
theorem FB (nl:List Int) (nlA:OA) (nlC g1:Nat) (hlen:nl.length≤12):
 oY Tryz.prog 98 [(vS none 0 0),(Value.func (.func 85) [].toArray [(vP g1)].toArray)] [(rd nlA nl.length 1 (nl.map iC)),(br g1 29 [(vS nlA nl.length nlC)])] (fun (x:(OA)×Nat)=>(vS x.1 nl.length x.2)) (fun (x:(OA)×Nat)=>True) (fun (x:(OA)×Nat)=>[(own x.1 x.2 3 1 (nl.map iC))]):=by
 refine ff kr Tryz.func98 rfl rfl fun w0 Q hQ hN=>?_
 try dsimp only
 refine WS fun _ hK1=>t_ rfl rfl fun b2=>rP 1 [] mn ?_
 refine RK hK1<|ai fun _ hK3=>WS fun _ hK4=>rP 1 [] mn ?_
 refine RK hK4<|av<|ky 1 rfl (by exact fun _ h=>h)<|ky 3 rfl (by exact fun _ h=>h)<|fI 3 1 ?_
 refine BN (L0:=[(2,(vP b2))]) (F:=[(rd nlA nl.length 1 (nl.map iC)).ro,(br g1 29 [(vS nlA nl.length nlC)]).ro]) (xs:=(o2 nl)) (fun k (y:(OA)×Nat)=>True) (fun k y=>[(own y.1 y.2 3 1 ((nl.take k).map iC)),(br b2 29 [(vS y.1 ((nl.take k).length) y.2)]),(rd nlA nl.length 1 (nl.map iC)).ro]) (fun _ (_:Unit)=>False) (fun _ _=>[]) [0,3,4] [2,1] (none,0) rfl rfl (EE nl nlA nlC g1 (by first|assumption|omega|(simp; done))) rfl rfl rfl (by trivial) (by simp only [List.forall_mem_cons,List.not_mem_nil,false_imp_iff,implies_true,and_true]; exact ⟨⟨_,sm,(eD (bO _))⟩,⟨_,sm,(eD (bO _))⟩⟩) (by exact AM) rfl (aL rfl) ?_ ?_ (fun _ _ _ h=>h.elim) (fun _ _ h=>h.elim)
 rotate_left 1
 ·rintro r11 ⟨a,c⟩ hin12
  try dsimp only
  rw [wq]
  refine ax<|KK hK3<|WS fun _ hK13=>rP 2 [] (mc 4 rfl mn) ?_
  refine RK hK13<|an ?_
  refine hQ _ _ _ (oh 0 rfl rfl<|aZ (vs:=[(vS a nl.length c)]) ⟨rfl,trivial⟩ fun w hs=>ej (a,c) [3] ?_ ?_ rfl rfl rfl hs)
  ·rfl
  ·trivial
 rintro k x ⟨a,c⟩ l ra rb S w1 K5 Qr6 hx hin7 hK5 hQr6 xQr6 yQr6
 obtain ⟨y,hy,rfl⟩:=DQ hx
 try dsimp only
 refine ak<|rP 1 [] mn ?_
 refine aB ?_
 refine aN (hK5 _ _ ?_)
 refine av<|ak<|rP 2 [] (mc 2 rfl mn) ?_
 refine fc (xs:=[.tmp 9]) (cs:=[(vI y)]) rfl dB lT rfl rfl rfl rfl (by simp [Value.cells]) rfl rfl fun b8=>er (es2:=(List.map iC (nl.take (k+1)))) (m':=(nl.take (k+1)).length) 2 rfl rfl rfl qe rfl rfl sm (a_ (es:=List.map iC [y]) 0 rfl rfl (by simp [bT]) rfl) (kK _) (by simp; omega) (by simp [maxLen]; omega) (by rw [An hy]; simp) sm rfl fun a9 c10=>?_
 try dsimp only
 refine NZ rfl Ho rfl rfl<|aB<|ax ?_
 exact hQr6 (a9,c10) _ _ (by trivial) (aG [1,2,3,4])
theorem Dv (nl:List Int) (nlA:OA) (nlC g1:Nat) (hlen:nl.length≤12):
 oY Tryz.prog 78 [(Value.func (.func 85) [].toArray [(vP g1)].toArray)] [(rd nlA nl.length 1 (nl.map iC)),(br g1 29 [(vS nlA nl.length nlC)])] (fun (x:(OA)×Nat)=>(vS x.1 nl.length x.2)) (fun (x:(OA)×Nat)=>True) (fun (x:(OA)×Nat)=>[(own x.1 x.2 3 1 (nl.map iC))]):=by
 refine ff kr Tryz.func78 rfl rfl fun w0 Q hQ hN=>?_
 try dsimp only
 refine WS fun _ hK1=>rP 1 [] mn ?_
 refine RK hK1<|WS fun _ hK2=>rP 1 [] mn ?_
 refine cX (FB nl nlA nlC g1 hlen) (bh [0,1]) rfl fun y3 hy4=>?_
 obtain ⟨a5,c6⟩:=y3
 try dsimp only
 refine rP 1 [] mn ?_
 refine RK hK2<|an ?_
 refine hQ _ _ _ (aZ (vs:=[(vS a5 nl.length c6)]) ⟨rfl,trivial⟩ fun w hs=>ej (a5,c6) [0] ?_ ?_ rfl rfl rfl hs)
 ·rfl
 ·trivial
theorem vw (nl:List Int) (nlA:OA) (nlC g1:Nat) (hlen:nl.length≤12):
 oY Tryz.prog 54 [(Value.func (.func 85) [].toArray [(vP g1)].toArray)] [(rd nlA nl.length 1 (nl.map iC)),(br g1 29 [(vS nlA nl.length nlC)])] (fun (x:(OA)×Nat)=>(vS x.1 nl.length x.2)) (fun (x:(OA)×Nat)=>True) (fun (x:(OA)×Nat)=>[(own x.1 x.2 3 1 ((iq nl).map iC))]):=by
 refine ff kr Tryz.func54 rfl rfl fun w0 Q hQ hN=>?_
 try dsimp only
 refine WS fun _ hK1=>rP 1 [] mn ?_
 refine RK hK1<|WS fun _ hK2=>rP 1 [] mn ?_
 refine cX (Dv nl nlA nlC g1 hlen) (bh [0,1]) rfl fun y3 hy4=>?_
 obtain ⟨a5,c6⟩:=y3
 try dsimp only
 refine rP 1 [] mn ?_
 refine RK hK2<|WS fun _ hK7=>rP 1 [] mn ?_
 refine lF 0 rfl rfl rfl rfl (Gk nl a5 c6 hlen) rfl nu rfl (fun m hms=>?_)
 try dsimp only
 refine RK hK7<|WS fun _ hK9=>?_
 obtain rfl:=vL hms.1 hms.2
 skip
 refine rP 2 [] mn ?_
 refine RK hK9<|an ?_
 refine hQ _ _ _ (aZ (vs:=[(vS a5 nl.length c6)]) ⟨rfl,trivial⟩ fun w hs=>ej (a5,c6) [0] ?_ ?_ rfl rfl rfl hs)
 ·rfl
 ·trivial
end
section
open Go.RowKit
theorem FZ (n lo hi:Int) (g1 g2:Nat):
 eu Tryz.prog 153 [(vI n),(vP g1),(vP g2)] [(br g1 3 [(vI lo)]),(br g2 3 [(vI hi)])] (vB (decide (n<lo∨hi<n))):=by
 refine bu kr Tryz.func153 rfl rfl fun w0 Q hQ hN=>?_
 try dsimp only
 refine WS fun _ hK1=>rP 1 [] mn ?_
 refine RK hK1<|WS fun _ hK2=>rP 4 [] (mr 0 rfl mn) ?_
 refine c8 (t:=8) rfl (aP fun h3=>?_) (aQ fun h3=>?_)
 ·refine rP 5 [] mn ?_
  refine RK hK2<|an<|Q1 hQ rfl rfl rfl ?_
  exact cB (bW om).symm
 refine rP 5 [] (mr 1 rfl mn) ?_
 refine RK hK2<|an<|Q1 hQ rfl rfl rfl ?_
 exact cB (decide_eq_decide.2 om)
theorem iz (lo hi:Int) (l:List Int) (lA:OA) (lC:Nat) (hlen:l.length≤1000000):
 eu Tryz.prog 128 [(vI lo),(vI hi),(vS lA l.length lC)] [(rd lA l.length 1 (l.map iC))] (vB (oT lo hi l)):=by
 refine bu kr Tryz.func128 rfl rfl fun w0 Q hQ hN=>?_
 try dsimp only
 refine WS fun _ hK1=>t_ rfl rfl fun b2=>t_ rfl rfl fun b3=>rP 1 [] mn ?_
 refine RK hK1<|WS fun _ hK4=>rP 1 [] mn ?_
 refine rS (FU rfl)<|rS (CL (qu l lA lC (Value.func (.func 153) [].toArray [(vP b2),(vP b3)].toArray) (fun u5=>(decide (u5<lo∨hi<u5))) (du [(br b2 3 [(vI lo)]),(br b3 3 [(vI hi)])]) (by intro u5 _; exact ob (fi:=[]) (ca:=[(vP b2),(vP b3)]) (mW (FZ u5 lo hi b2 b3) (bh [0,1]))) hlen) (cw 2 rfl rfl<|bq (mY (bh [1,0]))<|aT) rfl)<|rP 2 [] mn ?_
 refine RK hK4<|an ?_
 exact Q1 hQ rfl rfl rfl rfl
theorem NK (n d:Int) (hd:2≤d):
 eu Tryz.prog 155 [(vI n),(vI d)] [] (vI (Mf n d)):=by
 refine bu kr Tryz.func155 rfl rfl fun w0 Q hQ hN=>?_
 try dsimp only
 refine WS fun _ hK1=>rP 1 [] mn ?_
 refine RK hK1<|WS fun _ hK2=>rP 2 [] mn ?_
 refine rS (BI rfl J0)<|rS (BI rfl FI)<|rP 1 [] mn ?_
 refine rS (BI rfl (Kj om (JG (LV _) hd)))<|rP 1 [] mn ?_
 refine RK hK2<|an ?_
 exact Q1 hQ rfl rfl rfl rfl
theorem Iy (n d:Int) (hd:1≤d∧d≤1000000) (hn:0≤n∧n≤1000000000000000):
 eu Tryz.prog 155 [(vI n),(vI d)] [] (vI (n7 n d)):=by
 refine bu kr Tryz.func155 rfl rfl fun w0 Q hQ hN=>?_
 try dsimp only
 refine WS fun _ hK1=>rP 1 [] mn ?_
 refine RK hK1<|WS fun _ hK2=>rP 5 [] mn ?_
 refine rS (BI rfl (o6 om om om))<|rP 1 [] mn ?_
 refine RK hK2<|an ?_
 exact Q1 hQ rfl rfl rfl rfl
theorem BO (c:al) (sA:OA) (sC:Nat) (at_:Int) (hc:eJ c) (ha:0≤at_∧at_≤90000000):
 eu Tryz.prog 218 [(vA (cy.cells (cy.mk c.cJ (bB.mk sA c.aR.length sC)))),(vI at_)] [(rd sA c.aR.length 3 (c.aR.map cR.cells))] (vA (aa.cells (gN c at_))):=by
 have hcl:=hc.len
 have hcd:=hc.iO
 refine bu kr Tryz.func218 rfl rfl fun w0 Q hQ hN=>?_
 try dsimp only
 refine WS fun _ hK1=>fP rfl fun b2=>AL rfl cV fun b3=>RK hK1<|WS fun _ hK4=>rS (SX (bg (xs:=[(0,.const (vI (-1099511627776))),(1,.const (vI 1099511627776))]) (cs:=(aa.cells (aa.mk (-1099511627776) 1099511627776))) rfl rfl (bf fg rfl)) rfl rfl)<|AL rfl cV fun b5=>f_ rfl bY rfl<|RK hK4<|ai fun _ hK6=>?_
 refine ai fun _ hK7=>?_
 have hb8:(aa.cells (aa.mk (-1099511627776) 1099511627776))=(aa.cells (fr c at_ 0)):=by rfl
 rw [hb8]
 refine ak<|rP 4 [] (mc 2 rfl mn) ?_
 refine RK hK7<|av ?_
 have hinit:(0≤c.aR.length):=by exact Nat.zero_le _
 refine cp (ι:={z:Nat // (z≤c.aR.length)}) (fun z=>[(1,(vI at_)),(2,(vP b2)),(4,(vP b3)),(5,(vP b5)),(11,(vS sA c.aR.length sC)),(12,(vI ((c.aR.length:Nat):Int))),(13,(vI ((z.1:Nat):Int)))]) (fun z=>[(br b5 47 (aa.cells (fr c at_ z.1))),(br b3 47 (aa.cells (aa.mk 0 0))),(br b2 119 (cy.cells (cy.mk c.cJ (bB.mk sA c.aR.length sC)))),(rd sA c.aR.length 3 (c.aR.map cR.cells)).ro]) (fun z=>c.aR.length-z.1) ⟨0,hinit⟩ (aL rfl) (aG [0,1,2,3]) ?_
 clear hinit
 rintro ⟨i,hl0_0⟩ J9 hJ9
 try dsimp only
 refine WS fun _ hK10=>rP 1 [] mn ?_
 refine RK hK10<|ai fun _ hK11=>?_
 refine bM rfl (aQ fun h12=>?_) (aP fun h12=>?_)
 ·refine bp ?_
  refine ae<|ae<|au<|KK hK6<|WS fun _ hK19=>rP 1 [] (mc 0 rfl mn) ?_
  refine oV rfl bY rfl<|RK hK19<|an ?_
  refine hQ _ _ _ (aZ (vs:=[(vA (aa.cells (fr c at_ i)))]) ⟨⟨_,rfl,.inl ⟨_,_,bJ,bQ (vs:=(aa.cells (fr c at_ i))) 1 rfl rfl,rfl,rfl⟩⟩,trivial⟩ fun w hs=>eM ?_ hs)
  show (vA (aa.cells (fr c at_ i)))=(vA (aa.cells (gN c at_)))
  clear hs w hQ hN hK19 hK11 hK10 hK7 hK6 hK4 hK1
  rw [mP (show c.aR.length≤i by omega)]
 refine WK hK11<|ai fun _ hK13=>av<|WS fun _ hK14=>?_
 obtain ⟨x,hx⟩:=aO c.aR i om
 have hxm:=bI cR.cells hx
 refine rS (IA i rfl (aA 3 rfl) rp dc om om)<|rS (n9 i 0 (cR.cells x) rfl bJ (aA 3 rfl) hxm rfl dc rfl rfl)<|AL rfl rG fun b15=>f_ rfl qT rfl<|RK hK14<|WS fun _ hK16=>rP 5 [0,1] (mc 3 rfl (mc 0 rfl mn)) ?_
 have hsb:=hc.sS hx
 have hkb:=yG hc ha i
 have hdb:=Cs hcd ha (show 0≤x.At∧x.At≤90000000 by omega)
 refine rP 5 [] (mc 0 rfl mn) ?_
 refine rS (MX rfl)<|rS (BI rfl (Cf ⟨om,om⟩))<|rS (CL (Iy (c.cJ*(max (at_-x.At) (x.At-at_))) 1000000 sd sd) (aT) rfl)<|rP 1 [] mn ?_
 refine RK hK16<|ak<|rP 6 [0,1] (mc 1 rfl (mc 0 rfl mn)) ?_
 have hob:0≤n7 (c.cJ*max (at_-x.At) (x.At-at_)) 1000000∧n7 (c.cJ*max (at_-x.At) (x.At-at_)) 1000000≤90001:=sk hcd ha hsb.1
 refine rP 1 [] mn ?_
 refine rS (MX rfl)<|rP 7 [0,1] (mc 1 rfl (mc 0 rfl mn)) ?_
 refine rS (MN rfl)<|rS (SX (bg (xs:=[(0,.tmp 37),(1,.tmp 45)]) (cs:=(aa.cells (aa.mk (max ((fr c at_ i).Lo) (x.d_.Lo-(n7 (c.cJ*(max (at_-x.At) (x.At-at_))) 1000000))) (min ((fr c at_ i).Hi) (x.d_.Hi+(n7 (c.cJ*(max (at_-x.At) (x.At-at_))) 1000000)))))) rfl rfl (bf fg rfl)) rfl rfl)<|oV rfl bY rfl<|aB<|ax<|KK hK13 ?_
 have hb17:(aa.cells (aa.mk (max ((fr c at_ i).Lo) (x.d_.Lo-(n7 (c.cJ*(max (at_-x.At) (x.At-at_))) 1000000))) (min ((fr c at_ i).Hi) (x.d_.Hi+(n7 (c.cJ*(max (at_-x.At) (x.At-at_))) 1000000)))))=(aa.cells (fr c at_ (i+1))):=by rw [jO hx]; rfl
 rw [hb17]
 refine ak<|rP 2 [] mn ?_
 refine aB ?_
 have hb18:(vI (((i+1):Nat):Int))=(vI (((i:Nat):Int)+1)):=by exact cI om
 refine aN (hJ9 ⟨(i+1),(by first|omega|(simp only []; omega))⟩ _ _ _ rfl os (cv 6<|aY rfl hb18<|dK.nil _) (aG [1,2,3,4]))
theorem J_ (c:al) (sA:OA) (sC:Nat) (hlen:c.aR.length≤1000000) (hcap:c.aR.length≤sC):
 eu Tryz.prog 132 [(vA (cy.cells (cy.mk c.cJ (bB.mk sA c.aR.length sC))))] [(rd sA c.aR.length 3 (c.aR.map cR.cells))] (vB (decide (eJ c))):=by
 refine bu kr Tryz.func132 rfl rfl fun w0 Q hQ hN=>?_
 try dsimp only
 refine WS fun _ hK1=>fP rfl fun b2=>rP 1 [] mn ?_
 refine RK hK1<|BH rfl<|ai fun _ hK3=>WS fun _ hK4=>rP 2 [] (mc 0 rfl mn) ?_
 refine fc (xs:=[.tmp 11]) (cs:=[(vI c.cJ)]) rfl dB lT rfl rfl rfl rfl (by simp [Value.cells]) rfl rfl fun b5=>rS (CL (eu.eq (iz 0 1000 ([c.cJ]) (some ⟨b5,0,none⟩) 1 sd) dx) (bq (a_ 0 rfl rfl (by simp [bT]) rfl)<|aT) rfl)<|rP 2 [] mn ?_
 refine c8 (t:=15) rfl (bk fun h15=>?_) (bj fun h15=>?_)
 ·refine rP 7 [] mn ?_
  refine RK hK4<|aI rfl<|WS fun _ hK6=>rP 1 [] mn ?_
  refine RK hK6<|an<|Q1 hQ rfl rfl rfl ?_
  first|exact cB (a7 fun h=>h15 h.iO).symm|exact cB (a7 fun h=>h22 (by have:=h.len; omega)).symm|exact cB (bW (pI h15 om (by have e:i=c.aR.length:=om; rw [← e]; exact hl0_1))).symm|exact cB (by have e:k=i:=om; rw [e] at hl1_1; rw [h99] at hl1_1 ⊢; exact (a7 (q9 hx (of_decide_eq_false hl1_1.symm))).symm)
 refine rP 3 [] (mc 1 rfl mn) ?_
 refine fc (xs:=[.tmp 18]) (cs:=[(vI ((c.aR.length:Nat):Int))]) rfl dB lT rfl rfl rfl rfl (by simp [Value.cells]) rfl rfl fun b7=>rS (CL (eu.eq (iz 1 5 ([((c.aR.length:Nat):Int)]) (some ⟨b7,0,none⟩) 1 sd) dx) (bq (a_ 0 rfl rfl (by simp [bT]) rfl)<|aT) rfl)<|rP 2 [] mn ?_
 refine RK hK4 ?_
 refine cP rfl (bk fun h22=>?_) (bj fun h22=>?_)
 ·refine WS fun _ hK8=>?_
  refine rP 1 [] mn ?_
  refine RK hK8<|an<|Q1 hQ rfl rfl rfl ?_
  first|exact cB (a7 fun h=>h15 h.iO).symm|exact cB (a7 fun h=>h22 (by have:=h.len; omega)).symm|exact cB (bW (pI h15 om (by have e:i=c.aR.length:=om; rw [← e]; exact hl0_1))).symm|exact cB (by have e:k=i:=om; rw [e] at hl1_1; rw [h99] at hl1_1 ⊢; exact (a7 (q9 hx (of_decide_eq_false hl1_1.symm))).symm)
 refine WK hK3<|WS fun _ hK9=>rP 1 [] mn ?_
 refine RK hK9<|WS fun _ hK10=>rP 1 [] mn ?_
 refine RK hK10<|ai fun _ hK11=>BB<|KK hK11<|ai fun _ hK12=>WS fun _ hK13=>rP 4 [] (mc 2 rfl mn) ?_
 refine RK hK13<|av ?_
 have hinit:(0≤c.aR.length)∧(qz c 0):=by exact ⟨Nat.zero_le _,DZ⟩
 have hb14:(vI (jq c 0))=(vI (-1)):=by rw [dy rfl]
 refine cp (ι:={z:Nat // (z≤c.aR.length)∧(qz c z)}) (fun z=>[(1,(vP b2)),(2,(vB false)),(3,(vI (jq c z.1))),(4,(vB true)),(24,(vS sA c.aR.length sC)),(25,(vI ((c.aR.length:Nat):Int))),(26,(vI ((z.1:Nat):Int)))]) (fun z=>[(br b2 119 (cy.cells (cy.mk c.cJ (bB.mk sA c.aR.length sC)))),(rd sA c.aR.length 3 (c.aR.map cR.cells)).ro]) (fun z=>c.aR.length-z.1) ⟨0,hinit⟩ (dK.cons rfl<|dK.cons rfl<|aY rfl hb14<|aL rfl) (aG [2,3]) ?_
 clear hinit
 rintro ⟨i,⟨hl0_0,hl0_1⟩⟩ J15 hJ15
 try dsimp only
 have hpv: -1≤jq c i∧jq c i≤86400000:=Kr hl0_0 hl0_1
 refine WS fun _ hK16=>rP 1 [] mn ?_
 refine RK hK16<|ai fun _ hK17=>?_
 refine bM rfl (aQ fun h18=>?_) (aP fun h18=>?_)
 ·refine bp ?_
  refine ae<|ae<|au<|KK hK12<|WS fun _ hK28=>rP 2 [] mn ?_
  refine RK hK28<|an<|Q1 hQ rfl rfl rfl ?_
  first|exact cB (a7 fun h=>h15 h.iO).symm|exact cB (a7 fun h=>h22 (by have:=h.len; omega)).symm|exact cB (bW (pI h15 om (by have e:i=c.aR.length:=om; rw [← e]; exact hl0_1))).symm|exact cB (by have e:k=i:=om; rw [e] at hl1_1; rw [h99] at hl1_1 ⊢; exact (a7 (q9 hx (of_decide_eq_false hl1_1.symm))).symm)
 refine WK hK17<|ai fun _ hK19=>av<|WS fun _ hK20=>rP 1 [] mn ?_
 obtain ⟨x,hx⟩:=aO c.aR i om
 have hxm:=bI cR.cells hx
 refine rS (IA i rfl (aA 1 rfl) rp dc om om)<|rS (n9 i 0 (cR.cells x) rfl bJ (aA 1 rfl) hxm rfl dc rfl rfl)<|AL rfl rG fun b21=>rP 1 [] mn ?_
 refine f_ rfl qT rfl<|RK hK20 ?_
 refine pn (ι:=Unit) (fun z=>[(1,(vP b2)),(2,(vB false)),(3,(vI (jq c i))),(4,(vB (decide (ei c i x)))),(5,(vI ((i:Nat):Int))),(6,(vP b21)),(24,(vS sA c.aR.length sC)),(25,(vI ((c.aR.length:Nat):Int))),(26,(vI ((i:Nat):Int)))]) (fun z=>[(br b21 137 (cR.cells x)),(br b2 119 (cy.cells (cy.mk c.cJ (bB.mk sA c.aR.length sC)))),(rd sA c.aR.length 3 (c.aR.map cR.cells)).ro]) ?_ fun K22 hK22=>?_
 ·intro _
  try dsimp only
  refine ai fun _ hK23=>WS fun _ hK24=>rP 3 [] (mc 1 rfl mn) ?_
  refine rS (N7 i rfl rp om (by first|omega|exact Nat.zero_le _|(simp; omega)))<|rP 2 [] mn ?_
  refine RK hK24<|av ?_
  have hinit:(0≤i)∧((decide (ei c i x))=(decide (lB c i x 0))):=by exact ⟨Nat.zero_le _,decide_eq_decide.2 Al.symm⟩
  refine cp (ι:={z:Nat×Bool // (z.1≤i)∧(z.2=(decide (lB c i x z.1)))}) (fun z=>[(1,(vP b2)),(2,(vB false)),(3,(vI (jq c i))),(4,(vB z.1.2)),(5,(vI ((i:Nat):Int))),(6,(vP b21)),(24,(vS sA c.aR.length sC)),(25,(vI ((c.aR.length:Nat):Int))),(26,(vI ((i:Nat):Int))),(59,(vS sA i sC)),(60,(vI ((i:Nat):Int))),(61,(vI ((z.1.1:Nat):Int)))]) (fun z=>[(br b21 137 (cR.cells x)),(br b2 119 (cy.cells (cy.mk c.cJ (bB.mk sA c.aR.length sC)))),(rd sA c.aR.length 3 (c.aR.map cR.cells)).ro]) (fun z=>i-z.1.1) ⟨(0,(decide (ei c i x))),hinit⟩ (aL rfl) (aG [0,1,2]) ?_
  clear hinit
  rintro ⟨⟨k,b⟩,⟨hl1_0,hl1_1⟩⟩ J25 hJ25
  try dsimp only at hl1_0 hl1_1
  try dsimp only
  refine WS fun _ hK26=>rP 1 [] mn ?_
  refine RK hK26<|ai fun _ hK27=>?_
  refine bM rfl (aQ fun h28=>?_) (aP fun h28=>?_)
  ·refine bp ?_
   refine ae<|ae<|au<|KK hK23<|ai fun _ hK36=>WS fun _ hK37=>rP 2 [] mn ?_
   refine RK hK37 ?_
   refine cP rfl (fun h99=>?_) (fun h99=>?_)
   ·rw [Bool.not_eq_true'] at h99
    refine bp<|ae<|im rfl<|ae<|ae<|au<|KK hK12<|WS fun _ hK38=>rP 2 [] mn ?_
    refine RK hK38<|an<|Q1 hQ rfl rfl rfl ?_
    first|exact cB (a7 fun h=>h15 h.iO).symm|exact cB (a7 fun h=>h22 (by have:=h.len; omega)).symm|exact cB (bW (pI h15 om (by have e:i=c.aR.length:=om; rw [← e]; exact hl0_1))).symm|exact cB (by have e:k=i:=om; rw [e] at hl1_1; rw [h99] at hl1_1 ⊢; exact (a7 (q9 hx (of_decide_eq_false hl1_1.symm))).symm)
   rw [Bool.not_eq_false'] at h99
   refine WK hK36<|ak<|rP 3 [] (mc 0 rfl mn) ?_
   refine aB<|ax<|KK hK19<|ak<|rP 2 [] mn ?_
   refine aB ?_
   have hb39:(vI (jq c (i+1)))=(vI x.At):=by rw [ng hx]
   have hb40:(vB true)=(vB b):=by exact cB h99.symm
   have hb41:(vI (((i+1):Nat):Int))=(vI (((i:Nat):Int)+1)):=by exact cI om
   refine aN (hJ15 ⟨(i+1),⟨om,CZ hl0_1 hx (by have e:k=i:=om; rw [e] at hl1_1; exact of_decide_eq_true (hl1_1.symm.trans h99))⟩⟩ _ _ _ rfl os (dK.cons rfl<|dK.cons rfl<|aY rfl hb39<|aY rfl hb40<|dK.cons rfl<|dK.cons rfl<|aY rfl hb41<|dK.nil _) (aG [1,2]))
  refine WK hK27<|ai fun _ hK29=>av<|WS fun _ hK30=>?_
  obtain ⟨o,ho⟩:=aO c.aR k om
  have hom:=bI cR.cells ho
  refine rS (Oa k rfl (aA 2 rfl) rp dc om om om)<|rS (n9 k 0 (cR.cells o) rfl bJ (aA 2 rfl) hom rfl dc rfl rfl)<|AL rfl rG fun b31=>f_ rfl qT rfl<|RK hK30<|WS fun _ hK32=>rP 6 [0,1,2] (mc 2 rfl (mc 1 rfl (mc 0 rfl mn))) ?_
  refine rS (BI rfl FI)<|rS (BI rfl JH)<|rS (CL (NK (yi (c.cJ*(yi (x.At-o.At)))) 1000000 sd) (aT) rfl)<|rP 1 [] mn ?_
  refine RK hK32<|ak<|rP 2 [] mn ?_
  refine dp (t:=75) rfl (fun h75=>?_) (fun h75=>?_)
  ·refine rP 6 [] mn ?_
   refine rP 16 [] mn ?_
   refine aB<|ax<|KK hK29<|ak<|rP 2 [] mn ?_
   refine aB ?_
   have hb35:(vI (((k+1):Nat):Int))=(vI (((k:Nat):Int)+1)):=by exact cI om
   refine aN (hJ25 ⟨((k+1),false),⟨om,by first|exact (a7 fun h=>by have h2:=((i_ ho).1 h).1; rw [hl1_1] at h75; exact absurd (bW h2) (by rw [h75]; decide)).symm|exact (a7 fun h=>by have h2:=((i_ ho).1 h).2; rw [hup] at h86; exact h86 h2.1).symm|exact decide_eq_decide.2 (by rw [i_ ho,hup]; rw [hup] at h86; exact ⟨fun h=>⟨hro,h86,h⟩,fun h=>h.2.2⟩)⟩⟩ _ _ _ rfl os (cv 11<|aY rfl hb35<|dK.nil _) (aG [1,2,3]))
  refine rP 6 [0,1] (mc 1 rfl (mc 0 rfl mn)) ?_
  have hro:lB c i x k:=of_decide_eq_true (hl1_1.symm.trans h75)
  obtain ⟨hq1,hq2,hq3⟩:=sG (fun j y hj hy=>(hl0_1 j y hj hy).1) hx hro.1 om ho
  have hup:=Ih h15 hq1
  refine rP 5 [] mn ?_
  refine dp (t:=86) rfl (aQ fun h86=>?_) (aP fun h86=>?_)
  ·refine rP 11 [] mn ?_
   refine aB<|ax<|KK hK29<|ak<|rP 2 [] mn ?_
   refine aB ?_
   have hb34:(vI (((k+1):Nat):Int))=(vI (((k:Nat):Int)+1)):=by exact cI om
   refine aN (hJ25 ⟨((k+1),false),⟨om,by first|exact (a7 fun h=>by have h2:=((i_ ho).1 h).1; rw [hl1_1] at h75; exact absurd (bW h2) (by rw [h75]; decide)).symm|exact (a7 fun h=>by have h2:=((i_ ho).1 h).2; rw [hup] at h86; exact h86 h2.1).symm|exact decide_eq_decide.2 (by rw [i_ ho,hup]; rw [hup] at h86; exact ⟨fun h=>⟨hro,h86,h⟩,fun h=>h.2.2⟩)⟩⟩ _ _ _ rfl os (cv 11<|aY rfl hb34<|dK.nil _) (aG [1,2,3]))
  refine rP 11 [0,1] (mc 0 rfl (mc 1 rfl mn)) ?_
  refine aB<|ax<|KK hK29<|ak<|rP 2 [] mn ?_
  refine aB ?_
  have hb33:(vI (((k+1):Nat):Int))=(vI (((k:Nat):Int)+1)):=by exact cI om
  refine aN (hJ25 ⟨((k+1),(decide ((o.d_.Lo-x.d_.Hi)≤(Mf (yi (c.cJ*(yi (x.At-o.At)))) 1000000)))),⟨om,by first|exact (a7 fun h=>by have h2:=((i_ ho).1 h).1; rw [hl1_1] at h75; exact absurd (bW h2) (by rw [h75]; decide)).symm|exact (a7 fun h=>by have h2:=((i_ ho).1 h).2; rw [hup] at h86; exact h86 h2.1).symm|exact decide_eq_decide.2 (by rw [i_ ho,hup]; rw [hup] at h86; exact ⟨fun h=>⟨hro,h86,h⟩,fun h=>h.2.2⟩)⟩⟩ _ _ _ rfl os (cv 11<|aY rfl hb33<|dK.nil _) (aG [1,2,3]))
 refine ak<|rP 4 [] (mc 0 rfl mn) ?_
 refine fc (xs:=[.tmp 34]) (cs:=[(vI x.At)]) rfl dB lT rfl rfl rfl rfl (by simp [Value.cells]) rfl rfl fun b23=>rS (CL (eu.eq (iz ((jq c i)+1) 86400000 ([x.At]) (some ⟨b23,0,none⟩) 1 sd) dx) (bq (a_ 0 rfl rfl (by simp [bT]) rfl)<|aT) rfl)<|rP 1 [] mn ?_
 refine dp (t:=37) rfl (aQ fun h37=>?_) (aP fun h37=>?_)
 ·refine rP 19 [] mn ?_
  refine aB ?_
  have hb27:(decide (ei c i x))=false:=a7 (by unfold ei; omega)
  refine aN (jz (cv 3<|mM rfl hb27<|aL rfl) (aG [1,2,3]) (hK22 ()))
 refine rP 6 [] (mc 1 rfl mn) ?_
 refine fc (xs:=[.tmp 40,.tmp 43]) (cs:=[(vI x.d_.Lo),(vI x.d_.Hi)]) rfl dB lT rfl rfl rfl rfl (by simp [Value.cells]) rfl rfl fun b24=>rS (CL (eu.eq (iz (-10000) 10000 ([x.d_.Lo,x.d_.Hi]) (some ⟨b24,0,none⟩) 2 sd) p6) (bq (a_ 0 rfl rfl (by simp [bT]) rfl)<|aT) rfl)<|rP 2 [] mn ?_
 refine dp (t:=47) rfl (aQ fun h47=>?_) (aP fun h47=>?_)
 ·refine rP 9 [] mn ?_
  refine aB ?_
  have hb26:(decide (ei c i x))=false:=a7 (by unfold ei; omega)
  refine aN (jz (cv 3<|mM rfl hb26<|aL rfl) (aG [2,3,4]) (hK22 ()))
 refine rP 9 [] (mc 2 rfl mn) ?_
 refine aB ?_
 have hb25:(decide (ei c i x))=(decide (x.d_.Lo≤x.d_.Hi)):=decide_eq_decide.2 (by unfold ei; omega)
 refine aN (jz (cv 3<|mM rfl hb25<|aL rfl) (aG [2,3,4]) (hK22 ()))
theorem K2 (ms:List al) (az:List RA) (k:Nat) (m:al) (a:RA) (hm:ms[k]? =some m) (ha:az[k]? =some a) (hc:m.aR.length≤a.2∧m.aR.length≤1000000):
 eu Tryz.prog 131 [(vA (cy.cells (cy.mk m.cJ (bB.mk a.1 m.aR.length a.2))))] [(du (aU al.fK ms az))] (vB (!(decide (eJ m)))):=by
 obtain ⟨hc1,hc2⟩:=hc
 refine bu kr Tryz.func131 rfl rfl fun w0 Q hQ hN=>?_
 try dsimp only
 refine WS fun _ hK1=>fP rfl fun b2=>rP 1 [] mn ?_
 refine RK hK1<|WS fun _ hK3=>rP 1 [] (mc 0 rfl mn) ?_
 refine rS (CL (J_ m a.1 a.2 sd sd) (bq (show ji _ (rd a.1 m.aR.length 3 (m.aR.map cR.cells)).holds from (dA 1 rfl (cm hm ha (by simp [al.fK]))))<|aT) rfl)<|rP 2 [] mn ?_
 refine RK hK3<|an ?_
 exact Q1 hQ rfl rfl rfl rfl
theorem DW (l:List al) (az:List RA) (lA:OA) (lC:Nat) (f:Value) (p:al→Bool) (X:aq) (hf: ∀ (k:Nat) m a,l[k]? =some m→az[k]? =some a→Ev Tryz.prog f [.agg (al.cells m a).toArray] [X] (.bool (p m))) (hlen:l.length≤1000000) (has:az.length=l.length):
 eu Tryz.prog 154 [(vS lA l.length lC),f] [(rd lA l.length 2 (List.zipWith al.cells l az)),(du (aU al.fK l az)),X] (vI (ru p l)):=by
 refine bu kr Tryz.func154 rfl rfl fun w0 Q hQ hN=>?_
 try dsimp only
 refine WS fun _ hK1=>rP 1 [] mn ?_
 refine RK hK1<|ai fun _ hK2=>WS fun _ hK3=>rP 3 [] mn ?_
 refine RK hK3<|av ?_
 have hinit:(0≤l.length)∧((l.take 0).any p=false):=by simp
 refine cp (ι:={z:Nat // (z≤l.length)∧((l.take z).any p=false)}) (fun z=>[(0,(vS lA l.length lC)),(1,f),(7,(vI ((l.length:Nat):Int))),(8,(vI ((z.1:Nat):Int)))]) (fun z=>[(rd lA l.length 2 (List.zipWith al.cells l az)).ro,(du (aU al.fK l az)).ro,X.ro]) (fun z=>l.length-z.1) ⟨0,hinit⟩ (aL rfl) (aG [0,1,2]) ?_
 clear hinit
 rintro ⟨i,⟨hl0_0,hl0_1⟩⟩ J4 hJ4
 try dsimp only
 refine WS fun _ hK5=>rP 1 [] mn ?_
 refine RK hK5<|ai fun _ hK6=>?_
 refine bM rfl (aQ fun h7=>?_) (aP fun h7=>?_)
 ·refine bp ?_
  refine ae<|ae<|au<|KK hK2<|WS fun _ hK13=>rP 1 [] mn ?_
  refine RK hK13<|an<|Q1 hQ rfl rfl rfl ?_
  first|exact cI (ny hx hp hl0_1).symm|exact cI (kW om hl0_1).symm
 refine WK hK6<|ai fun _ hK8=>av<|WS fun _ hK9=>rP 2 [] mn ?_
 refine RK hK9<|WS fun _ hK10=>rP 3 [] mn ?_
 obtain ⟨x,hx⟩:=aO l i om
 obtain ⟨xa,hxa⟩:=aO az i om
 have hxm:(List.zipWith al.cells l az)[i]? =some (al.cells x xa):=gn hx hxa
 refine rS (IA i rfl (aA 0 rfl) F_ dc om om)<|rS (n9 i 0 (cy.cells (cy.mk x.cJ (bB.mk xa.1 x.aR.length xa.2))) rfl bJ (aA 0 rfl) hxm rfl dc rfl rfl)<|rS (SX (sr rfl rfl rfl (hf i x xa hx hxa) (bh [2])) rfl rfl)<|RK hK10 ?_
 refine cP rfl (fun hp=>?_) (fun hp=>?_)
 ·refine WS fun _ hK11=>?_
  refine rP 2 [] mn ?_
  refine RK hK11<|an<|Q1 hQ rfl rfl rfl ?_
  first|exact cI (ny hx hp hl0_1).symm|exact cI (kW om hl0_1).symm
 refine bZ<|ax<|KK hK8<|ak<|rP 2 [] mn ?_
 refine aB ?_
 have hb12:(vI (((i+1):Nat):Int))=(vI (((i:Nat):Int)+1)):=by exact cI om
 refine aN (hJ4 ⟨(i+1),⟨om,vH hx hl0_1 hp⟩⟩ _ _ _ rfl os (cv 3<|aY rfl hb12<|dK.nil _) (aG [0,1,2]))
theorem x_ (l:List al) (az:List RA) (lA:OA) (lC:Nat) (f:Value) (p:al→Bool) (X:aq) (hf: ∀ (k:Nat) m a,l[k]? =some m→az[k]? =some a→Ev Tryz.prog f [.agg (al.cells m a).toArray] [X] (.bool (p m))) (hlen:l.length≤1000000) (has:az.length=l.length):
 eu Tryz.prog 130 [(vS lA l.length lC),f] [(rd lA l.length 2 (List.zipWith al.cells l az)),(du (aU al.fK l az)),X] (vB (l.any p)):=by
 refine bu kr Tryz.func130 rfl rfl fun w0 Q hQ hN=>?_
 try dsimp only
 refine WS fun _ hK1=>rP 1 [] mn ?_
 refine RK hK1<|WS fun _ hK2=>rP 2 [] mn ?_
 refine rS (CL (DW l az lA lC f p X (by exact hf) hlen has) (JS 0 1 2 rfl rfl rfl rfl rfl rfl) rfl)<|rP 2 [] mn ?_
 refine RK hK2<|an<|Q1 hQ rfl rfl rfl ?_
 exact cB sB
theorem DK (l:List bx) (lA:OA) (lC:Nat) (f:Value) (p:bx→Bool) (X:aq) (hf: ∀ x0,x0∈l→Ev Tryz.prog f [.agg (bx.cells x0).toArray] [X] (.bool (p x0))) (hlen:l.length≤1000000):
 eu Tryz.prog 156 [(vS lA l.length lC),f] [(rd lA l.length 4 (l.map bx.cells)),X] (vI (ru p l)):=by
 refine bu kr Tryz.func156 rfl rfl fun w0 Q hQ hN=>?_
 try dsimp only
 refine WS fun _ hK1=>rP 1 [] mn ?_
 refine RK hK1<|ai fun _ hK2=>WS fun _ hK3=>rP 3 [] mn ?_
 refine RK hK3<|av ?_
 have hinit:(0≤l.length)∧((l.take 0).any p=false):=by simp
 refine cp (ι:={z:Nat // (z≤l.length)∧((l.take z).any p=false)}) (fun z=>[(0,(vS lA l.length lC)),(1,f),(7,(vI ((l.length:Nat):Int))),(8,(vI ((z.1:Nat):Int)))]) (fun z=>[(rd lA l.length 4 (l.map bx.cells)).ro,X.ro]) (fun z=>l.length-z.1) ⟨0,hinit⟩ (aL rfl) (aG [0,1]) ?_
 clear hinit
 rintro ⟨i,⟨hl0_0,hl0_1⟩⟩ J4 hJ4
 try dsimp only
 refine WS fun _ hK5=>rP 1 [] mn ?_
 refine RK hK5<|ai fun _ hK6=>?_
 refine bM rfl (aQ fun h7=>?_) (aP fun h7=>?_)
 ·refine bp ?_
  refine ae<|ae<|au<|KK hK2<|WS fun _ hK13=>rP 1 [] mn ?_
  refine RK hK13<|an<|Q1 hQ rfl rfl rfl ?_
  first|exact cI (ny hx hp hl0_1).symm|exact cI (kW om hl0_1).symm
 refine WK hK6<|ai fun _ hK8=>av<|WS fun _ hK9=>rP 2 [] mn ?_
 refine RK hK9<|WS fun _ hK10=>rP 3 [] mn ?_
 obtain ⟨x,hx⟩:=aO l i om
 have hxm:=bI bx.cells hx
 refine rS (IA i rfl (aA 0 rfl) wi dc om om)<|rS (n9 i 0 (bx.cells x) rfl bJ (aA 0 rfl) hxm rfl dc rfl rfl)<|rS (SX (sr rfl rfl rfl (hf x (aw hx)) (bh [1])) rfl rfl)<|RK hK10 ?_
 refine cP rfl (fun hp=>?_) (fun hp=>?_)
 ·refine WS fun _ hK11=>?_
  refine rP 2 [] mn ?_
  refine RK hK11<|an<|Q1 hQ rfl rfl rfl ?_
  first|exact cI (ny hx hp hl0_1).symm|exact cI (kW om hl0_1).symm
 refine bZ<|ax<|KK hK8<|ak<|rP 2 [] mn ?_
 refine aB ?_
 have hb12:(vI (((i+1):Nat):Int))=(vI (((i:Nat):Int)+1)):=by exact cI om
 refine aN (hJ4 ⟨(i+1),⟨om,vH hx hl0_1 hp⟩⟩ _ _ _ rfl os (cv 3<|aY rfl hb12<|dK.nil _) (aG [0,1]))
theorem x3 (l:List bx) (lA:OA) (lC:Nat) (f:Value) (p:bx→Bool) (X:aq) (hf: ∀ x0,x0∈l→Ev Tryz.prog f [.agg (bx.cells x0).toArray] [X] (.bool (p x0))) (hlen:l.length≤1000000):
 eu Tryz.prog 134 [(vS lA l.length lC),f] [(rd lA l.length 4 (l.map bx.cells)),X] (vB (l.any p)):=by
 refine bu kr Tryz.func134 rfl rfl fun w0 Q hQ hN=>?_
 try dsimp only
 refine WS fun _ hK1=>rP 1 [] mn ?_
 refine RK hK1<|WS fun _ hK2=>rP 2 [] mn ?_
 refine rS (CL (DK l lA lC f p X (by exact hf) hlen) (bh [0,1]) rfl)<|rP 2 [] mn ?_
 refine RK hK2<|an<|Q1 hQ rfl rfl rfl ?_
 exact cB sB
end
section
open Go.RowKit
theorem oD (a:aa) (l:List aa) (lA:OA) (lC:Nat) (ha:kN a) (hl: ∀ z∈l,kN z) (hlen:l.length≤4):
 eu Tryz.prog 160 [(vA (aa.cells a)),(vS lA l.length lC)] [(rd lA l.length 2 (l.map aa.cells))] (vA (aa.cells (jd a l))):=by
 refine bu kr Tryz.func160 rfl rfl fun w0 Q hQ hN=>?_
 try dsimp only
 refine WS fun _ hK1=>fP rfl fun b2=>AL rfl cV fun b3=>RK hK1<|ai fun _ hK4=>WS fun _ hK5=>rP 3 [] mn ?_
 refine RK hK5<|av ?_
 have hinit:(0≤l.length):=by exact Nat.zero_le _
 refine cp (ι:={z:Nat // (z≤l.length)}) (fun z=>[(2,(vP b2)),(4,(vP b3)),(7,(vS lA l.length lC)),(8,(vI ((l.length:Nat):Int))),(9,(vI (z.1:Int)))]) (fun z=>[(br b3 47 (aa.cells (aa.mk 0 0))),(br b2 47 (aa.cells (jd a (l.take z.1)))),(rd lA l.length 2 (l.map aa.cells)).ro]) (fun z=>l.length-z.1) ⟨0,hinit⟩ (aL rfl) (aG [0,1,2]) ?_
 clear hinit
 rintro ⟨i,hl2_0⟩ J6 hJ6
 try dsimp only
 refine WS fun _ hK7=>rP 1 [] mn ?_
 refine RK hK7<|ai fun _ hK8=>?_
 refine bM rfl (aQ fun h9=>?_) (aP fun h9=>?_)
 ·refine bp ?_
  refine ae<|ae<|au<|KK hK4<|ai fun _ hK15=>?_
  have hb16:(aa.cells (jd a (l.take i)))=(aa.cells (jd a l)):=by rw [FW om]
  rw [hb16]
  refine ak<|rP 1 [] (mc 1 rfl mn) ?_
  refine f_ rfl bY rfl<|RK hK15<|an ?_
  refine hQ _ _ _ (aZ (vs:=[(vA (aa.cells (jd a l)))]) ⟨⟨_,rfl,.inl ⟨_,_,bJ,bQ (vs:=(aa.cells (jd a l))) 0 rfl rfl,rfl,rfl⟩⟩,trivial⟩ fun w hs=>eM ?_ hs)
  show (vA (aa.cells (jd a l)))=(vA (aa.cells (jd a l)))
  clear hs w hQ hN hK15 hK8 hK7 hK5 hK4 hK1
  rfl
 refine WK hK8<|ai fun _ hK10=>av<|WS fun _ hK11=>?_
 obtain ⟨x,hx⟩:=aO l i om
 have hxm:=bI aa.cells hx
 refine rS (IA i rfl (aA 2 rfl) jF dc om om)<|rS (n9 i 0 (aa.cells x) rfl bJ (aA 2 rfl) hxm rfl dc rfl rfl)<|AL rfl cV fun b12=>f_ rfl bY rfl<|RK hK11<|ak ?_
 have hb:=Jf ha hl i
 have hz:=hl x (aw hx)
 unfold kN at hz
 refine rP 10 [0,1,0,1] (mc 2 rfl (mc 0 rfl mn)) ?_
 refine rS (SX (bg (xs:=[(0,.tmp 17),(1,.tmp 22)]) (cs:=(aa.cells (aa.mk (((jd a (l.take i)).Lo)+x.Lo) (((jd a (l.take i)).Hi)+x.Hi)))) rfl rfl (bf fg rfl)) rfl rfl)<|wb rfl bY rfl<|aB<|ax<|KK hK10 ?_
 have hb13:(aa.cells (aa.mk (((jd a (l.take i)).Lo)+x.Lo) (((jd a (l.take i)).Hi)+x.Hi)))=(aa.cells (jd a (l.take (i+1)))):=by rw [xb hx]; rfl
 rw [hb13]
 refine ak<|rP 2 [] mn ?_
 refine aB ?_
 have hb14:(vI ((i+1):Int))=(vI ((i:Int)+1)):=by exact cI om
 refine aN (hJ6 ⟨(i+1),(by first|omega|(simp only []; omega))⟩ _ _ _ rfl os (cv 4<|aY rfl hb14<|dK.nil _) (aG [1,2,3]))
theorem Ch (ts:List ah) (tsA:OA) (tsC:Nat) (hlen:ts.length≤1000000) (hside: ∀ x∈ts,0≤x.iy∧x.iy≤255):
 eu Tryz.prog 157 [(vA (bL.cells (bL.mk (bB.mk tsA ts.length tsC))))] [(rd tsA ts.length 9 (ts.map ah.cells))] (vT [(vA (cY.cells (cY.mk (bL.mk (bB.mk tsA ts.length tsC))))),(vI (if cx ts=true then 0 else 10))]):=by
 refine bu kr Tryz.func157 rfl rfl fun w0 Q hQ hN=>?_
 try dsimp only
 refine WS fun _ hK1=>fP rfl fun b2=>AL rfl F9 fun b3=>rP 1 [] mn ?_
 refine RK hK1<|ai fun _ hK4=>dC cD 4 kr<|dP 1 [] (mc 1 rfl mn) ?_
 refine dS (SX (bg (xs:=[(0,.tmp 4)]) (cs:=(cY.cells (cY.mk (bL.mk (bB.mk tsA ts.length tsC))))) rfl rfl (bf LC rfl)) rfl rfl)<|dP 1 [] (mc 1 rfl mn) ?_
 refine dS (CL (yX ts tsA tsC hlen hside) (bh [2]) rfl)<|cO<|f_ rfl E9 rfl<|rP 1 [] mn ?_
 refine RK hK4<|an ?_
 refine hQ _ _ _ (aZ (vs:=[(vA (cY.cells (cY.mk (bL.mk (bB.mk tsA ts.length tsC))))),(vI (if cx ts=true then 0 else 10))]) ⟨⟨_,rfl,.inl ⟨_,_,bJ,bQ (vs:=(cY.cells (cY.mk (bL.mk (bB.mk tsA ts.length tsC))))) 0 rfl rfl,rfl,rfl⟩⟩,rfl,trivial⟩ fun w hs=>eM ?_ hs)
 show (vT [(vA (cY.cells (cY.mk (bL.mk (bB.mk tsA ts.length tsC))))),(vI (if cx ts=true then 0 else 10))])=(vT [(vA (cY.cells (cY.mk (bL.mk (bB.mk tsA ts.length tsC))))),(vI (if cx ts=true then 0 else 10))])
 clear hs w hQ hN hK4 hK1
 rfl
theorem G_ (f:Int) (tsA:OA) (tsN tsC:Nat):
 oY Tryz.prog 171 [(vA (cY.cells (cY.mk (bL.mk (bB.mk tsA tsN tsC))))),(vI f)] [] (fun (x:Nat×Nat)=>(Value.func (.func 177) [].toArray [(Value.pointer (some ⟨x.1,0,none⟩)),(Value.pointer (some ⟨x.2,0,none⟩))].toArray)) (fun (x:Nat×Nat)=>True) (fun (x:Nat×Nat)=>[(br x.1 3 [(vI f)]),(br x.2 216 (cY.cells (cY.mk (bL.mk (bB.mk tsA tsN tsC)))))]):=by
 refine ff kr Tryz.func171 rfl rfl fun w0 Q hQ hN=>?_
 try dsimp only
 refine WS fun _ hK1=>fP rfl fun b2=>t_ rfl rfl fun b3=>rP 1 [] mn ?_
 refine RK hK1<|WS fun _ hK4=>rS (FU rfl)<|rP 1 [] mn ?_
 refine RK hK4<|an ?_
 refine hQ _ _ _ (aZ (vs:=[(Value.func (.func 177) [].toArray [(vP b3),(vP b2)].toArray)]) ⟨rfl,trivial⟩ fun w hs=>ej (b3,b2) [0,1] ?_ ?_ rfl rfl rfl hs)
 ·rfl
 ·trivial
theorem CM (ts:List ah) (tsA:OA) (tsC:Nat) (f:Int) (g1 g2:Nat) (hst: ∀ x∈ts,bo x) (hlen:ts.length≤12) (hf:0≤f∧f≤ts.length):
 Hj Tryz.prog 177 [] [(vP g1),(vP g2)] [(rd tsA ts.length 9 (ts.map ah.cells)),(br g1 3 [(vI f)]),(br g2 216 (cY.cells (cY.mk (bL.mk (bB.mk tsA ts.length tsC)))))] (r8 ts f.toNat):=by
 refine Cj kr Tryz.func177 rfl rfl fun l J Z A0 w0 Q hY hJ0 hF0 hQ hN=>?_
 try dsimp only
 refine WS fun _ hK1=>AL rfl cV fun b2=>AL rfl cV fun b3=>RK hK1<|WS fun _ hK4=>rP 2 [] (mr 4 rfl mn) ?_
 refine RK hK4<|av ?_
 have hinit:(0≤ts.length-f.toNat)∧(J 0 A0)∧(Fo A0 w0 A0):=by exact ⟨Nat.zero_le _,hJ0,hF0⟩
 have hb5:(vI (f+((0:Nat):Int)))=(vI f):=by exact cI om
 refine cp (ι:={z:Nat×aq // (z.1≤ts.length-f.toNat)∧(J z.1 z.2)∧(Fo A0 w0 z.2)}) (fun z=>[(0,(Value.func (.yield l) #[] #[])),(1,(vP g1)),(2,(vP g2)),(4,(vP b2)),(5,(vP b3)),(6,(vI (f+((z.1.1:Nat):Int))))]) (fun z=>[(br b3 47 (aa.cells (fm ts f.toNat z.1.1))),(br b2 47 (aa.cells (cN ts f.toNat z.1.1))),z.1.2,(rd tsA ts.length 9 (ts.map ah.cells)).ro,(br g1 3 [(vI f)]).ro,(br g2 216 (cY.cells (cY.mk (bL.mk (bB.mk tsA ts.length tsC))))).ro]) (fun z=>ts.length-f.toNat-z.1.1) ⟨(0,A0),hinit⟩ (cv 5<|aY rfl hb5<|dK.nil _) (aG [0,1,2,3,4,5]) ?_
 clear hinit
 rintro ⟨⟨k,A⟩,⟨hl2_0,hl2_1,hl2_2⟩⟩ J6 hJ6
 try dsimp only at hl2_0 hl2_1 hl2_2
 try dsimp only
 refine ai fun _ hK7=>WS fun _ hK8=>rP 3 [0,1] (mc 1 rfl (mc 0 rfl mn)) ?_
 refine BP 2 hY hl2_1 hl2_2 rfl rfl rfl (xu om) rfl rfl (fun B9 hJ10 hF11=>?_) (fun B9 hJ10 hF11=>?_)
 rotate_left 1
 ·refine rP 8 [] mn ?_
  refine RK hK8<|aW rfl<|bp<|ae<|ae<|au ?_
  refine hN _ _ _ (aZ (vs:=[]) trivial fun w hs=>IH 2 rfl hJ10 hF11 hs)
 refine rP 8 [] (mr 5 rfl mn) ?_
 refine RK hK8 ?_
 refine bM rfl (aQ fun h12=>?_) (aP fun h12=>?_)
 ·refine bp ?_
  refine ae<|ae<|au ?_
  refine hN _ _ _ (aZ (vs:=[]) trivial fun w hs=>Mp 2 rfl (by rw [rZ]; have e:ts.length-f.toNat+1=k+1:=om; rw [e]; exact hJ10) hF11 hs)
 refine WK hK7<|ai fun _ hK13=>av<|pG cD [0,1,2,3,4,5,6,7,10,11,12,13,14,15,16,17] [8,9,18,19,20,21] [true,false,false,false,false,false,false,false,true,false,false,false,false,false,false,false] [8,9,18] [B9,(rd tsA ts.length 9 (ts.map ah.cells)).ro,(br g1 3 [(vI f)]).ro,(br g2 216 (cY.cells (cY.mk (bL.mk (bB.mk tsA ts.length tsC))))).ro] [(br b3 47 (aa.cells (fm ts f.toNat k))),(br b2 47 (aa.cells (cN ts f.toNat k))),B9,(rd tsA ts.length 9 (ts.map ah.cells)).ro,(br g1 3 [(vI f)]).ro,(br g2 216 (cY.cells (cY.mk (bL.mk (bB.mk tsA ts.length tsC))))).ro] kr (aG [2,3,4,5]) (aG [0,1,2,3,4,5])<|fS rfl (LW 1 rfl bJ rfl rfl)<|eS rfl (FA 0 rfl gp rfl)<|eS rfl (FA 0 rfl gp rfl)<|eS rfl (Ed (vS tsA ts.length tsC) 3 rfl bJ rfl rfl)<|eS rfl (MV rfl) ?_
 obtain ⟨x,hx⟩:=aO ts (f.toNat+k) om
 have hxm:=bI ah.cells hx
 refine eS rfl (IA (f.toNat+k) rfl (aA 1 rfl) yJ dc om om) ?_
 have hxo:=hst x (aw hx)
 refine eS rfl (mT (((f.toNat+k)*9)+1) rfl (aA 1 rfl) (Nat.mul_pos om dc) gp rfl)<|eS rfl (n9 (f.toNat+k) 1 (aa.cells x.j5) rfl bJ (aA 1 rfl) hxm rfl dc rfl rfl)<|fS rfl (LW 0 rfl bJ rfl rfl)<|eS rfl (FA 0 rfl gp rfl)<|eS rfl (FA 0 rfl gp rfl)<|eS rfl (Ed (vS tsA ts.length tsC) 3 rfl bJ rfl rfl)<|eS rfl (MV rfl)<|eS rfl (IA (f.toNat+k) rfl (aA 1 rfl) yJ dc om om)<|eS rfl (mT (((f.toNat+k)*9)+3) rfl (aA 1 rfl) (Nat.mul_pos om dc) gp rfl)<|eS rfl (n9 (f.toNat+k) 3 (aa.cells x.kU) rfl bJ (aA 1 rfl) hxm rfl dc rfl rfl) ?_
 refine fp rfl ?_
 refine ox [8,18] kr (jG ?_<|jG ?_<|qP)
 rotate_left 1
 ·refine tq (rem':=[8,9,19,20,21]) rfl kr fun T14 hT14=>?_
  refine fc (xs:=[.tmp 39]) (cs:=(aa.cells x.kU)) rfl jF cV rfl rfl rfl rfl (by simp [Value.cells,aa.aX]) rfl rfl fun b15=>?_
  refine aB (hT14 _ _ (aG [3,4,5,6]) (aG [1,2,3,4,5,6]) ?_)
  refine N1 8<|tq (rem':=[9,19,20,21]) rfl kr fun T16 hT16=>fc (xs:=[.tmp 29]) (cs:=(aa.cells x.j5)) rfl jF cV rfl rfl rfl rfl (by simp [Value.cells,aa.aX]) rfl rfl fun b17=>?_
  refine aB (hT16 _ _ (aG [4,5,6,7]) (aG [2,3,4,5,6,7]) ?_)
  refine N1 9<|tq (rem':=[19,20,21]) rfl kr fun T18 hT18=>rS (CL (eu.eq (oD (cN ts f.toNat k) ([x.j5]) (some ⟨b17,0,none⟩) 1 (by exact pf hst om) (by intro z hz; simp only [bU] at hz; subst hz; exact tf hxo) sm) mA) (bq (a_ 0 rfl rfl (by simp [aa.aX]) rfl)<|aT) rfl) ?_
  refine aB (hT18 _ _ (aG [4,5,6,7]) (aG [2,3,4,5,6,7]) ?_)
  refine N1 19<|NO rfl rfl [20,21] fun T19 hT19=>rS (CL (eu.eq (oD (fm ts f.toNat k) ([x.kU]) (some ⟨b15,0,none⟩) 1 (by exact uL hst om) (by intro z hz; simp only [bU] at hz; subst hz; exact sh hxo) sm) mA) (bq (a_ 1 rfl rfl (by simp [aa.aX]) rfl)<|aT) rfl)<|RD hT19 4 rfl<|N1 20<|NO rfl rfl [21] fun T20 hT20=>GZ rfl bY rfl<|RD hT20 4 rfl<|N1 21<|NO rfl rfl [] fun T21 hT21=>?_
  refine wb rfl bY rfl<|RD hT21 4 rfl<|oP<|ax<|KK hK13 ?_
  have hb22:(aa.cells (iG (cN ts f.toNat k) x.j5))=(aa.cells (cN ts f.toNat (k+1))):=by rw [oM hx]
  rw [hb22]
  have hb23:(aa.cells (iG (fm ts f.toNat k) x.kU))=(aa.cells (fm ts f.toNat (k+1))):=by rw [ou hx]
  rw [hb23]
  refine ak<|rP 3 [] mn ?_
  refine aB ?_
  have hb24:(vI (f+(((k+1):Nat):Int)))=(vI ((f+((k:Nat):Int))+1)):=by exact cI om
  refine aN (hJ6 ⟨((k+1),B9),⟨om,hJ10,hF11⟩⟩ _ _ _ rfl os (cv 5<|aY rfl hb24<|dK.nil _) (aG [2,3,4,5,6,7]))
 refine tq (rem':=[9,18,19,20,21]) rfl kr fun T14 hT14=>fc (xs:=[.tmp 29]) (cs:=(aa.cells x.j5)) rfl jF cV rfl rfl rfl rfl (by simp [Value.cells,aa.aX]) rfl rfl fun b15=>?_
 refine aB (hT14 _ _ (aG [3,4,5,6]) (aG [1,2,3,4,5,6]) ?_)
 refine ox [9,18] kr (jG ?_<|jG ?_<|qP)
 rotate_left 1
 ·refine tq (rem':=[9,19,20,21]) rfl kr fun T16 hT16=>?_
  refine fc (xs:=[.tmp 39]) (cs:=(aa.cells x.kU)) rfl jF cV rfl rfl rfl rfl (by simp [Value.cells,aa.aX]) rfl rfl fun b17=>?_
  refine aB (hT16 _ _ (aG [4,5,6,7]) (aG [2,3,4,5,6,7]) ?_)
  refine N1 9<|tq (rem':=[19,20,21]) rfl kr fun T18 hT18=>rS (CL (eu.eq (oD (cN ts f.toNat k) ([x.j5]) (some ⟨b15,0,none⟩) 1 (by exact pf hst om) (by intro z hz; simp only [bU] at hz; subst hz; exact tf hxo) sm) mA) (bq (a_ 1 rfl rfl (by simp [aa.aX]) rfl)<|aT) rfl) ?_
  refine aB (hT18 _ _ (aG [4,5,6,7]) (aG [2,3,4,5,6,7]) ?_)
  refine N1 19<|NO rfl rfl [20,21] fun T19 hT19=>rS (CL (eu.eq (oD (fm ts f.toNat k) ([x.kU]) (some ⟨b17,0,none⟩) 1 (by exact uL hst om) (by intro z hz; simp only [bU] at hz; subst hz; exact sh hxo) sm) mA) (bq (a_ 0 rfl rfl (by simp [aa.aX]) rfl)<|aT) rfl)<|RD hT19 4 rfl<|N1 20<|NO rfl rfl [21] fun T20 hT20=>GZ rfl bY rfl<|RD hT20 4 rfl<|N1 21<|NO rfl rfl [] fun T21 hT21=>?_
  refine wb rfl bY rfl<|RD hT21 4 rfl<|oP<|ax<|KK hK13 ?_
  have hb22:(aa.cells (iG (cN ts f.toNat k) x.j5))=(aa.cells (cN ts f.toNat (k+1))):=by rw [oM hx]
  rw [hb22]
  have hb23:(aa.cells (iG (fm ts f.toNat k) x.kU))=(aa.cells (fm ts f.toNat (k+1))):=by rw [ou hx]
  rw [hb23]
  refine ak<|rP 3 [] mn ?_
  refine aB ?_
  have hb24:(vI (f+(((k+1):Nat):Int)))=(vI ((f+((k:Nat):Int))+1)):=by exact cI om
  refine aN (hJ6 ⟨((k+1),B9),⟨om,hJ10,hF11⟩⟩ _ _ _ rfl os (cv 5<|aY rfl hb24<|dK.nil _) (aG [2,3,4,5,6,7]))
 refine tq (rem':=[18,19,20,21]) rfl kr fun T16 hT16=>rS (CL (eu.eq (oD (cN ts f.toNat k) ([x.j5]) (some ⟨b15,0,none⟩) 1 (by exact pf hst om) (by intro z hz; simp only [bU] at hz; subst hz; exact tf hxo) sm) mA) (bq (a_ 0 rfl rfl (by simp [aa.aX]) rfl)<|aT) rfl) ?_
 refine aB (hT16 _ _ (aG [3,4,5,6]) (aG [1,2,3,4,5,6]) ?_)
 refine N1 18<|tq (rem':=[19,20,21]) rfl kr fun T17 hT17=>fc (xs:=[.tmp 39]) (cs:=(aa.cells x.kU)) rfl jF cV rfl rfl rfl rfl (by simp [Value.cells,aa.aX]) rfl rfl fun b18=>?_
 refine aB (hT17 _ _ (aG [4,5,6,7]) (aG [2,3,4,5,6,7]) ?_)
 refine N1 19<|NO rfl rfl [20,21] fun T19 hT19=>rS (CL (eu.eq (oD (fm ts f.toNat k) ([x.kU]) (some ⟨b18,0,none⟩) 1 (by exact uL hst om) (by intro z hz; simp only [bU] at hz; subst hz; exact sh hxo) sm) mA) (bq (a_ 0 rfl rfl (by simp [aa.aX]) rfl)<|aT) rfl)<|RD hT19 4 rfl<|N1 20<|NO rfl rfl [21] fun T20 hT20=>GZ rfl bY rfl<|RD hT20 4 rfl<|N1 21<|NO rfl rfl [] fun T21 hT21=>?_
 refine wb rfl bY rfl<|RD hT21 4 rfl<|oP<|ax<|KK hK13 ?_
 have hb22:(aa.cells (iG (cN ts f.toNat k) x.j5))=(aa.cells (cN ts f.toNat (k+1))):=by rw [oM hx]
 rw [hb22]
 have hb23:(aa.cells (iG (fm ts f.toNat k) x.kU))=(aa.cells (fm ts f.toNat (k+1))):=by rw [ou hx]
 rw [hb23]
 refine ak<|rP 3 [] mn ?_
 refine aB ?_
 have hb24:(vI (f+(((k+1):Nat):Int)))=(vI ((f+((k:Nat):Int))+1)):=by exact cI om
 refine aN (hJ6 ⟨((k+1),B9),⟨om,hJ10,hF11⟩⟩ _ _ _ rfl os (cv 5<|aY rfl hb24<|dK.nil _) (aG [2,3,4,5,6,7]))
theorem FK (ts:List ah) (tsA:OA) (tsC:Nat) (f t:Int) (hst: ∀ x∈ts,bo x) (hlen:ts.length≤12) (hf:0≤f∧f≤t∧t≤ts.length):
 eu Tryz.prog 159 [(vA (cY.cells (cY.mk (bL.mk (bB.mk tsA ts.length tsC))))),(vI f),(vI t)] [(rd tsA ts.length 9 (ts.map ah.cells))] (vT [(vA (aa.cells (cN ts f.toNat (t-f).toNat))),(vA (aa.cells (fm ts f.toNat (t-f).toNat)))]):=by
 refine bu kr Tryz.func159 rfl rfl fun w0 Q hQ hN=>?_
 try dsimp only
 refine WS fun _ hK1=>fP rfl fun b2=>t_ rfl rfl fun b3=>t_ rfl rfl fun b4=>AL rfl cV fun b5=>AL rfl cV fun b6=>RK hK1<|ai fun _ hK7=>WS fun _ hK8=>rP 2 [0,1] (mc 4 rfl (mc 3 rfl mn)) ?_
 refine cX (G_ f tsA ts.length tsC) (aT) rfl fun y9 hy10=>?_
 obtain ⟨b111,b212⟩:=y9
 try dsimp only
 refine RK hK8<|av<|ky 7 rfl (by exact fun _ h=>h) ?_
 refine BN (L0:=[(3,(vP b2)),(4,(vP b3)),(5,(vP b4)),(6,(vP b5)),(7,(vP b6))]) (F:=[(rd tsA ts.length 9 (ts.map ah.cells)).ro,(br b111 3 [(vI f)]),(br b212 216 (cY.cells (cY.mk (bL.mk (bB.mk tsA ts.length tsC)))))]) (xs:=(r8 ts f.toNat)) (fun k (y:aa×aa×Int)=>(k≤(t-f).toNat)∧(y.2.2=f+((k:Nat):Int))) (fun k y=>[(br b6 47 (aa.cells y.2.1)),(br b5 47 (aa.cells y.1)),(br b4 3 [(vI t)]),(br b3 3 [(vI y.2.2)]),(br b2 216 (cY.cells (cY.mk (bL.mk (bB.mk tsA ts.length tsC))))),(rd tsA ts.length 9 (ts.map ah.cells)).ro]) (fun c (z:Unit)=>(c= .exit 0)) (fun _ z=>[(br b6 47 (aa.cells (fm ts f.toNat (t-f).toNat))),(br b5 47 (aa.cells (cN ts f.toNat (t-f).toNat))),(br b4 3 [(vI t)]),(br b3 3 [(vI t)]),(br b2 216 (cY.cells (cY.mk (bL.mk (bB.mk tsA ts.length tsC))))),(rd tsA ts.length 9 (ts.map ah.cells)).ro]) [3,4,5,6,7,8] [0,1,2] (cK,cK,f) rfl rfl (CM ts tsA tsC f b111 b212 (by first|assumption|omega|(simp; done)) (by first|assumption|omega|(simp; done)) om) rfl rfl rfl (by exact ⟨Nat.zero_le _,sm⟩) (by simp only [List.forall_mem_cons,List.not_mem_nil,false_imp_iff,implies_true,and_true]; exact ⟨⟨_,sm,(eD (bO _))⟩,⟨_,sm,(bO _)⟩,⟨_,sm,(bO _)⟩⟩) (by exact AB) rfl (aL rfl) ?_ ?_ ?_ ?_
 rotate_left 1
 ·rintro r25 ⟨z1,z2,m⟩ hin26
  obtain ⟨hr0,hr1⟩:=hin26
  try dsimp only at hr0 hr1
  try dsimp only
  exfalso; rw [rZ] at hr0; omega
 ·rintro r27 id _ hx28
  have hc:=hx28
  cases hc
  try dsimp only
  refine au<|KK hK7<|ai fun _ hK29=>ep cD [2,3] [] [] [0,1,2,3,4,5,6,7,8,9] [] rfl rfl rfl rfl rfl<|eS rfl (LW 5 rfl bJ rfl rfl)<|eS rfl (LW 4 rfl bJ rfl rfl)<|fp rfl<|cr rfl fun T30 hT30=>Jp rfl bY rfl ?_
  refine aB (hT30 _ _ (aG [0,1,2,3,4,5,6,7,8,9]) ?_)
  refine cr rfl fun T31 hT31=>Kw rfl bY rfl ?_
  refine aB (hT31 _ _ (aG [0,1,2,3,4,5,6,7,8,9]) ?_)
  refine gh rfl<|KK hK29<|an ?_
  refine hQ _ _ _ (oh 0 rfl rfl<|aZ (vs:=[(vA (aa.cells (cN ts f.toNat (t-f).toNat))),(vA (aa.cells (fm ts f.toNat (t-f).toNat)))]) ⟨⟨_,rfl,.inl ⟨_,_,bJ,bQ (vs:=(aa.cells (cN ts f.toNat (t-f).toNat))) 5 rfl rfl,rfl,rfl⟩⟩,⟨_,rfl,.inl ⟨_,_,bJ,bQ (vs:=(aa.cells (fm ts f.toNat (t-f).toNat))) 4 rfl rfl,rfl,rfl⟩⟩,trivial⟩ fun w hs=>eM ?_ hs)
  show (vT [(vA (aa.cells (cN ts f.toNat (t-f).toNat))),(vA (aa.cells (fm ts f.toNat (t-f).toNat)))])=(vT [(vA (aa.cells (cN ts f.toNat (t-f).toNat))),(vA (aa.cells (fm ts f.toNat (t-f).toNat)))])
  clear hs w hQ hN hT31 T31 hT30 T30 hK29 hK8 hK7 hK1
  rfl
 ·rintro r32 _ hx33
  cases hx33
 rintro k x ⟨z1,z2,m⟩ l ra rb S w1 K13 Qr14 hx hin15 hK13 hQr14 xQr14 yQr14
 obtain ⟨hk,rfl⟩:=DU hx
 obtain ⟨hr0,hr1⟩:=hin15
 try dsimp only at hr0 hr1
 try dsimp only
 refine WS fun _ hK16=>AL rfl cV fun b17=>f_ rfl bY rfl<|RK hK16<|ak<|AL rfl cV fun b18=>f_ rfl bY rfl<|aB<|jz (fun _ _ h=>h) (aG [2,0,1,3,4,5,6,7,8]) ?_
 refine aN (hK13 _ _ ?_)
 refine av<|ai fun _ hK19=>ai fun _ hK20=>ep cD [2,3] [] [] [0,1,2,5,6,7,8] [] rfl rfl rfl rfl rfl<|eS rfl (LW 2 rfl bJ rfl rfl)<|eS rfl (LW 1 rfl bJ rfl rfl)<|fp rfl<|cr rfl fun T21 hT21=>Kw rfl bY rfl ?_
 refine aB (hT21 _ _ (aG [0,1,2,5,6,7,8]) ?_)
 refine cr rfl fun T22 hT22=>GZ rfl bY rfl ?_
 refine aB (hT22 _ _ (aG [0,1,2,5,6,7,8]) ?_)
 refine gh rfl<|KK hK20<|WS fun _ hK23=>rP 3 [0,1] (mc 6 rfl (mc 5 rfl mn)) ?_
 refine RK hK23 ?_
 refine cP rfl (aP fun h24=>?_) (aQ fun h24=>?_)
 ·refine bp ?_
  refine ae<|im rfl ?_
  rw [show m=t from by omega]
  obtain rfl:k=(t-f).toNat:=by omega
  exact xQr14 _ () _ _ (by exact rfl) (aG [0,3,4,5,6,7,8])
 refine WK hK19<|ak<|rP 2 [] (mc 6 rfl mn) ?_
 refine Oe rfl DI rfl rfl<|aB<|ax ?_
 exact hQr14 ((cN ts f.toNat k),(fm ts f.toNat k),(m+1)) _ _ (by refine ⟨om,?_⟩; dsimp only; omega) (aG [0,3,4,5,6,7,8])
end
section
open Go.RowKit
theorem D1 (i:Int) (s:cL) (ts:List ah) (tsA:OA) (tsC g1:Nat) (hst: ∀ x∈ts,bo x) (hlen:ts.length≤12):
 eu Tryz.prog 170 [(vI i),(vA (cL.cells s)),(vP g1)] [(rd tsA ts.length 9 (ts.map ah.cells)),(br g1 216 (cY.cells (cY.mk (bL.mk (bB.mk tsA ts.length tsC)))))] (vB (!(decide (eZ ts s)))):=by
 refine bu kr Tryz.func170 rfl rfl fun w0 Q hQ hN=>?_
 try dsimp only
 refine WS fun _ hK1=>fP rfl fun b2=>rP 1 [] mn ?_
 refine RK hK1<|ai fun _ hK3=>pG cD [0,1,2,3,4,5,6] [7,8,9,10,11,12,13,14,15,16,17,18,19,20,21,22,23,24,25,26] [false,false,false,false,false,false,false] [] [(br b2 139 (cL.cells s)),(rd tsA ts.length 9 (ts.map ah.cells)).ro,(br g1 216 (cY.cells (cY.mk (bL.mk (bB.mk tsA ts.length tsC))))).ro] [] kr (aG [0,1,2]) (aG [])<|eS rfl (FA 0 rfl gp rfl)<|eS rfl (FA 0 rfl gp rfl)<|eS rfl (Ed (vS tsA ts.length tsC) 2 rfl bJ rfl rfl)<|eS rfl (LN rfl L9)<|eS rfl (BI rfl (tM ⟨om,om⟩))<|eS rfl (FA 0 rfl gp rfl)<|eS rfl (L1 (vI s.ar) 0 rfl bJ rfl rfl) ?_
 refine fp rfl<|N1 7<|NO rfl rfl [8,9,10,11,12,13,14,15,16,17,18,19,20,21,22,23,24,25,26] fun T4 hT4=>fc (xs:=[.tmp 12]) (cs:=[(vI s.ar)]) rfl dB lT rfl rfl rfl rfl (by simp [Value.cells]) rfl rfl fun b5=>RD hT4 1 rfl<|Jm [14,15,16,17,18,19,20,21,22,23,24,25,26,27,28,29,30,31,5] kr kr rfl _ rfl rfl (aG [1,2,3])<|dS (CL (eu.eq (nO 0 (((ts.length:Nat):Int)-1) ([s.ar]) (some ⟨b5,0,none⟩) 1 sd) dx) (bq (a_ 0 rfl rfl (by simp [bT]) rfl)<|aT) rfl)<|dP 2 [] mn ?_
 refine iL (t:=16) rfl (bk fun h16=>?_) (bj fun h16=>?_)
 ·refine dP 9 [] mn ?_
  refine dP 7 [] mn ?_
  refine cO<|RK hK3<|an<|Q1 hQ rfl rfl rfl ?_
  first|(refine cB ?_; rw [a7 (rF om)]; rfl)|exact congrArg (fun b=>vB (!b)) (decide_eq_decide.2 (qS om hx).symm)
 refine dP 1 [] mn ?_
 refine dS (LP (aa.cells s.gk) 1 rfl bJ rfl rfl rfl)<|dP 5 [0,1] (mr 3 rfl (mc 1 rfl mn)) ?_
 obtain ⟨x,hx⟩:=aO ts ((s.ar).toNat) om
 have hxm:=bI ah.cells hx
 refine dS (IA ((s.ar).toNat) rfl (aA 2 rfl) yJ dc om om)<|dS (mT ((((s.ar).toNat)*9)+1) rfl (aA 2 rfl) (Nat.mul_pos om dc) gp rfl) ?_
 have hxo:=(hst x (aw hx)).2.1
 simp only [di] at hxo
 refine dS (mT ((((s.ar).toNat)*9)+1) rfl (aA 2 rfl) (Nat.mul_pos om dc) gp rfl)<|dS (gU ((s.ar).toNat) 1 (vI x.j5.Lo) rfl bJ (aA 2 rfl) hxm rfl dc rfl)<|dP 1 [] mn ?_
 refine dS (CL (uw s.gk 0 (x.j5.Lo-1)) (aT) rfl)<|dP 3 [] mn ?_
 refine cO<|RK hK3<|an<|Q1 hQ rfl rfl rfl ?_
 first|(refine cB ?_; rw [a7 (rF om)]; rfl)|exact congrArg (fun b=>vB (!b)) (decide_eq_decide.2 (qS om hx).symm)
theorem Bg (l:List cL) (lA:OA) (lC:Nat) (f:Value) (p:Int→cL→Bool) (X:aq) (hf: ∀ x0 x1,(∃ k:Nat,x0=(k:Int)∧l[k]? =some x1)→Ev Tryz.prog f [.int .i64 x0,.agg (cL.cells x1).toArray] [X] (.bool (p x0 x1))) (hlen:l.length≤1000000):
 oY Tryz.prog 169 [(vS lA l.length lC),f] [(rd lA l.length 3 (l.map cL.cells)),X] (fun (x:(OA)×Nat)=>(vS x.1 ((DV (fun jj yy=>p (jj:Int) yy) l).length) x.2)) (fun (x:(OA)×Nat)=>True) (fun (x:(OA)×Nat)=>[(own x.1 x.2 3 1 ((DV (fun jj yy=>p (jj:Int) yy) l).map iC))]):=by
 refine ff kr Tryz.func169 rfl rfl fun w0 Q hQ hN=>?_
 try dsimp only
 refine WS fun _ hK1=>rP 1 [] mn ?_
 refine RK hK1<|WS fun _ hK2=>rP 1 [] mn ?_
 refine RK hK2<|ai fun _ hK3=>WS fun _ hK4=>rP 3 [] mn ?_
 refine RK hK4<|av<|fI 3 1 ?_
 have hinit:(0≤l.length):=by exact Nat.zero_le _
 refine cp (ι:={z:Nat×(OA)×Nat // (z.1≤l.length)}) (fun z=>[(0,(vS lA l.length lC)),(1,f),(5,(vS z.1.2.1 ((qv (fun jj yy=>p (jj:Int) yy) l z.1.1).length) z.1.2.2)),(8,(vS lA l.length lC)),(9,(vI ((l.length:Nat):Int))),(10,(vI ((z.1.1:Nat):Int)))]) (fun z=>[(own z.1.2.1 z.1.2.2 3 1 ((qv (fun jj yy=>p (jj:Int) yy) l z.1.1).map iC)),(rd lA l.length 3 (l.map cL.cells)).ro,X.ro]) (fun z=>l.length-z.1.1) ⟨(0,none,0),hinit⟩ (aL rfl) (aG [0,1,2]) ?_
 clear hinit
 rintro ⟨⟨i,a,c⟩,hl0_0⟩ J5 hJ5
 try dsimp only at hl0_0
 try dsimp only
 refine WS fun _ hK6=>rP 1 [] mn ?_
 refine RK hK6<|ai fun _ hK7=>?_
 refine bM rfl (aQ fun h8=>?_) (aP fun h8=>?_)
 ·refine bp ?_
  refine ae<|ae<|au<|KK hK3<|WS fun _ hK18=>?_
  rw [Is (p:=fun (i:Nat) x=>p (i:Int) x) (show i=l.length by omega)]
  refine rP 2 [] mn ?_
  refine RK hK18<|an ?_
  refine hQ _ _ _ (aZ (vs:=[(vS a ((DV (fun jj yy=>p (jj:Int) yy) l).length) c)]) ⟨rfl,trivial⟩ fun w hs=>ej (a,c) [0] ?_ ?_ rfl rfl rfl hs)
  ·rfl
  ·trivial
 refine WK hK7<|ai fun _ hK9=>av<|WS fun _ hK10=>rP 1 [] mn ?_
 obtain ⟨x,hx⟩:=aO l i om
 have hxm:=bI cL.cells hx
 refine rS (IA i rfl (aA 1 rfl) FN dc om om)<|rS (n9 i 0 (cL.cells x) rfl bJ (aA 1 rfl) hxm rfl dc rfl rfl)<|AL rfl B0 fun b11=>rP 1 [] mn ?_
 refine f_ rfl IK rfl<|RK hK10<|WS fun _ hK12=>rP 3 [] (mc 0 rfl mn) ?_
 refine rS (SX (sr rfl rfl rfl (hf ((i:Nat):Int) x ⟨i,rfl,hx⟩) (bh [3])) rfl rfl)<|RK hK12 ?_
 refine bM rfl (fun hp=>?_) (fun hp=>?_)
 ·refine bZ ?_
  refine ax<|KK hK9<|ak ?_
  rw [← G3 (p:=fun (i:Nat) x=>p (i:Int) x) hx hp]
  refine rP 2 [] mn ?_
  refine aB ?_
  have hb17:(vI (((i+1):Nat):Int))=(vI (((i:Nat):Int)+1)):=by exact cI om
  refine aN (hJ5 ⟨((i+1),a,c),(by first|omega|(simp only []; omega))⟩ _ _ _ rfl os (cv 5<|aY rfl hb17<|dK.nil _) (aG [1,2,3]))
 refine ak<|rP 2 [] mn ?_
 refine fc (xs:=[.tmp 20]) (cs:=[(vI ((i:Nat):Int))]) rfl dB lT rfl rfl rfl rfl (by simp [Value.cells]) rfl rfl fun b13=>er (es2:=(List.map iC (qv (fun jj yy=>p (jj:Int) yy) l (i+1)))) (m':=(qv (fun jj yy=>p (jj:Int) yy) l (i+1)).length) 2 rfl rfl rfl qe rfl rfl sm (a_ (es:=List.map iC [((i:Nat):Int)]) 0 rfl rfl (by simp [bT]) rfl) (kK _) (by have:=yW (p:=fun (i:Nat) x=>p (i:Int) x) (l:=l) (n:=i); simp; omega) (by have:=yW (p:=fun (i:Nat) x=>p (i:Int) x) (l:=l) (n:=i); simp only [maxLen]; omega) (by rw [GM hx hp]; simp) sm rfl fun a14 c15=>?_
 try dsimp only
 refine rP 1 [] mn ?_
 refine aB<|ax<|KK hK9<|ak<|rP 2 [] mn ?_
 refine aB ?_
 have hb16:(vI (((i+1):Nat):Int))=(vI (((i:Nat):Int)+1)):=by exact cI om
 refine aN (hJ5 ⟨((i+1),a14,c15),(by first|omega|(simp only []; omega))⟩ _ _ _ rfl os (cv 5<|aY rfl hb16<|dK.nil _) (aG [2,3,4]))
theorem zH (ts:List ah) (tsA:OA) (tsC:Nat) (l:List cL) (lA:OA) (lC:Nat) (hst: ∀ x∈ts,bo x) (hlen:ts.length≤12) (hl:l.length≤4):
 eu Tryz.prog 158 [(vA (cY.cells (cY.mk (bL.mk (bB.mk tsA ts.length tsC))))),(vS lA l.length lC)] [(rd tsA ts.length 9 (ts.map ah.cells)),(rd lA l.length 3 (l.map cL.cells))] (vB (decide (∀ s∈l,eZ ts s))):=by
 refine bu kr Tryz.func158 rfl rfl fun w0 Q hQ hN=>?_
 try dsimp only
 refine WS fun _ hK1=>fP rfl fun b2=>rP 1 [] mn ?_
 refine RK hK1<|WS fun _ hK3=>rP 1 [] mn ?_
 refine rS (FU rfl)<|cX (Bg l lA lC (Value.func (.func 170) [].toArray [(vP b2)].toArray) (fun u4 u5=>(!(decide (eZ ts u5)))) (du [(rd tsA ts.length 9 (ts.map ah.cells)),(br b2 216 (cY.cells (cY.mk (bL.mk (bB.mk tsA ts.length tsC)))))]) (by intro u4 u5 _; exact ob (fi:=[]) (ca:=[(vP b2)]) (mW (D1 u4 u5 ts tsA tsC b2 (by first|assumption|omega) (by first|assumption|omega)) (bh [0,1]))) sd) (cw 2 rfl rfl<|bq (mY (bh [1,0]))<|aT) rfl fun y6 hy7=>?_
 obtain ⟨a8,c9⟩:=y6
 try dsimp only
 refine rP 3 [] mn ?_
 refine RK hK3<|an<|Q1 hQ rfl rfl rfl ?_
 exact cB (decide_eq_decide.2 (by rw [show ∀ n:Nat,((n:Int)=0)↔n=0 from fun n=>by omega,Dq]; simp only [Bool.not_eq_false',decide_eq_true_eq]; exact ⟨fun h s hs=>by obtain ⟨k,hk⟩:=List.getElem?_of_mem hs; exact h k s hk,fun h k s hk=>h s (aw hk)⟩))
theorem Ag (z:aa) (hz:kN z):
 eu Tryz.prog 172 [(vA (aa.cells z))] [] (vA (aa.cells (jw z))):=by
 unfold kN at hz
 refine bu kr Tryz.func172 rfl rfl fun w0 Q hQ hN=>?_
 try dsimp only
 refine WS fun _ hK1=>fP rfl fun b2=>AL rfl cV fun b3=>RK hK1<|WS fun _ hK4=>rP 2 [] (mc 1 rfl mn) ?_
 refine rS (NG rfl ⟨om,om⟩)<|rP 2 [] (mc 1 rfl mn) ?_
 refine rS (NG rfl ⟨om,om⟩)<|rS (SX (bg (xs:=[(0,.tmp 5),(1,.tmp 8)]) (cs:=(aa.cells (aa.mk (-z.Hi) (-z.Lo)))) rfl rfl (bf fg rfl)) rfl rfl)<|f_ rfl bY rfl<|RK hK4<|an ?_
 refine hQ _ _ _ (aZ (vs:=[(vA (aa.cells (aa.mk (-z.Hi) (-z.Lo))))]) ⟨⟨_,rfl,.inl ⟨_,_,bJ,bQ (vs:=(aa.cells (aa.mk (-z.Hi) (-z.Lo)))) 0 rfl rfl,rfl,rfl⟩⟩,trivial⟩ fun w hs=>eM ?_ hs)
 show (vA (aa.cells (aa.mk (-z.Hi) (-z.Lo))))=(vA (aa.cells (jw z)))
 clear hs w hQ hN hK4 hK1
 rfl
theorem Lu (ts:List ah) (tsA:OA) (tsC:Nat) (s:cL) (hlen:ts.length≤1000000) (hside: ∀ x∈ts,0≤x.iy∧x.iy≤255):
 eu Tryz.prog 136 [(vA (bL.cells (bL.mk (bB.mk tsA ts.length tsC)))),(vA (cL.cells s))] [(rd tsA ts.length 9 (ts.map ah.cells))] (vT [(vA (aa.cells (z7 ts s))),(vI (v8 ts s))]):=by
 refine bu kr Tryz.func136 rfl rfl fun w0 Q hQ hN=>?_
 try dsimp only
 refine WS fun _ hK1=>fP rfl fun b2=>fP rfl fun b3=>AL rfl cV fun b4=>rP 1 [] mn ?_
 refine RK hK1<|WS fun _ hK5=>rP 1 [] (mc 2 rfl mn) ?_
 refine rS (CL (Ch ts tsA tsC hlen hside) (bh [3]) rfl)<|rP 3 [] mn ?_
 refine AL rfl F9 fun b6=>f_ rfl E9 rfl<|rP 1 [] mn ?_
 refine RK hK5<|ai fun _ hK7=>WS fun _ hK8=>rP 2 [] mn ?_
 refine RK hK8 ?_
 refine cP rfl (bk fun he=>?_) (bj fun he=>?_)
 ·refine WS fun _ hK9=>?_
  refine rS (SX (bg (xs:=[]) (cs:=(aa.cells (aa.mk 0 0))) rfl rfl (bf fg rfl)) rfl rfl)<|rP 1 [] mn ?_
  refine oV rfl bY rfl<|rP 1 [] mn ?_
  refine RK hK9<|an ?_
  refine hQ _ _ _ (aZ (vs:=[(vA (aa.cells (aa.mk 0 0))),(vI (if cx ts=true then 0 else 10))]) ⟨⟨_,rfl,.inl ⟨_,_,bJ,bQ (vs:=(aa.cells (aa.mk 0 0))) 1 rfl rfl,rfl,rfl⟩⟩,rfl,trivial⟩ fun w hs=>eM ?_ hs)
  show (vT [(vA (aa.cells (aa.mk 0 0))),(vI (if cx ts=true then 0 else 10))])=(vT [(vA (aa.cells (z7 ts s))),(vI (v8 ts s))])
  clear hs w hQ hN hK9 hK8 hK7 hK5 hK1
  first|(have e:=oE (s:=s) (iP he).1; rw [e.1,e.2,(iP he).2]<;>rfl)|(have e:=n_ htr h23; rw [e.1,e.2]<;>rfl)|(have e:=nT htr h23; rw [e.1,e.2]; unfold Ec; rw [show (s.ar-0).toNat=s.ar.toNat by rw [Int.sub_zero]]<;>rfl)
 refine WK hK7<|ai fun _ hK10=>WS fun _ hK11=>?_
 have htr:=Bk he
 have hst:=jN htr
 have hl12:=kf htr
 refine rP 2 [0,1] (mc 0 rfl (mc 2 rfl mn)) ?_
 refine fc (xs:=[.tmp 20]) (cs:=(cL.cells s)) rfl FN B0 rfl rfl rfl rfl (by simp [Value.cells,cL.aX]) rfl rfl fun b12=>rS (CL (eu.eq (zH ts tsA tsC ([s]) (some ⟨b12,0,none⟩) 1 sd sd sd) AF) (cw 5 rfl rfl<|bq (a_ 0 rfl rfl (by simp [cL.aX]) rfl)<|aT) rfl)<|rP 1 [] mn ?_
 refine RK hK11 ?_
 refine cP rfl (bk fun h23=>?_) (bj fun h23=>?_)
 ·refine WS fun _ hK13=>?_
  refine rS (SX (bg (xs:=[]) (cs:=(aa.cells (aa.mk 0 0))) rfl rfl (bf fg rfl)) rfl rfl)<|wb rfl bY rfl<|rP 1 [] mn ?_
  refine RK hK13<|an ?_
  refine hQ _ _ _ (aZ (vs:=[(vA (aa.cells (aa.mk 0 0))),(vI 12)]) ⟨⟨_,rfl,.inl ⟨_,_,bJ,bQ (vs:=(aa.cells (aa.mk 0 0))) 2 rfl rfl,rfl,rfl⟩⟩,rfl,trivial⟩ fun w hs=>eM ?_ hs)
  show (vT [(vA (aa.cells (aa.mk 0 0))),(vI 12)])=(vT [(vA (aa.cells (z7 ts s))),(vI (v8 ts s))])
  clear hs w hQ hN hK13 hK11 hK10 hK8 hK7 hK5 hK1
  first|(have e:=oE (s:=s) (iP he).1; rw [e.1,e.2,(iP he).2]<;>rfl)|(have e:=n_ htr h23; rw [e.1,e.2]<;>rfl)|(have e:=nT htr h23; rw [e.1,e.2]; unfold Ec; rw [show (s.ar-0).toNat=s.ar.toNat by rw [Int.sub_zero]]<;>rfl)
 refine WK hK10<|WS fun _ hK14=>?_
 have hsb:=h23.1
 have hof:=pA hst h23
 refine rP 3 [0,1] (mc 1 rfl (mc 3 rfl mn)) ?_
 refine rS (CL (FK ts tsA tsC 0 s.ar sd sd om) (bh [5]) rfl)<|rP 3 [] mn ?_
 refine AL rfl cV fun b15=>AL rfl cV fun b16=>oV rfl bY rfl<|f_ rfl bY rfl<|RK hK14<|WS fun _ hK17=>rP 2 [] (mc 1 rfl mn) ?_
 refine rS (LP (aa.cells s.gk) 5 rfl bJ rfl rfl rfl)<|fc (xs:=[.tmp 34]) (cs:=(aa.cells s.gk)) rfl jF cV rfl rfl rfl rfl (by simp [Value.cells,aa.aX]) rfl rfl fun b18=>rS (CL (eu.eq (oD (cN ts (0:Int).toNat (s.ar-0).toNat) ([s.gk]) (some ⟨b18,0,none⟩) 1 (by exact pf hst om) (by intro z hz; simp only [bU] at hz; subst hz; exact hof) sm) mA) (bq (a_ 0 rfl rfl (by simp [aa.aX]) rfl)<|aT) rfl)<|Jp rfl bY rfl<|rP 1 [] mn ?_
 refine RK hK17<|an ?_
 refine hQ _ _ _ (aZ (vs:=[(vA (aa.cells (iG (cN ts (0:Int).toNat (s.ar-0).toNat) s.gk))),(vI 0)]) ⟨⟨_,rfl,.inl ⟨_,_,bJ,bQ (vs:=(aa.cells (iG (cN ts (0:Int).toNat (s.ar-0).toNat) s.gk))) 5 rfl rfl,rfl,rfl⟩⟩,rfl,trivial⟩ fun w hs=>eM ?_ hs)
 show (vT [(vA (aa.cells (iG (cN ts (0:Int).toNat (s.ar-0).toNat) s.gk))),(vI 0)])=(vT [(vA (aa.cells (z7 ts s))),(vI (v8 ts s))])
 clear hs w hQ hN hK17 hK14 hK11 hK10 hK8 hK7 hK5 hK1
 first|(have e:=oE (s:=s) (iP he).1; rw [e.1,e.2,(iP he).2]<;>rfl)|(have e:=n_ htr h23; rw [e.1,e.2]<;>rfl)|(have e:=nT htr h23; rw [e.1,e.2]; unfold Ec; rw [show (s.ar-0).toNat=s.ar.toNat by rw [Int.sub_zero]]<;>rfl)
theorem HE (ts:List ah) (tsA:OA) (tsC:Nat) (p:cL) (q:cL) (hlen:ts.length≤1000000) (hside: ∀ x∈ts,0≤x.iy∧x.iy≤255):
 eu Tryz.prog 161 [(vA (bL.cells (bL.mk (bB.mk tsA ts.length tsC)))),(vA (cL.cells p)),(vA (cL.cells q))] [(rd tsA ts.length 9 (ts.map ah.cells))] (vT [(vA (aa.cells (e7 ts p q))),(vI (gG ts p q))]):=by
 refine bu kr Tryz.func161 rfl rfl fun w0 Q hQ hN=>?_
 try dsimp only
 refine WS fun _ hK1=>fP rfl fun b2=>fP rfl fun b3=>fP rfl fun b4=>AL rfl cV fun b5=>rP 1 [] mn ?_
 refine RK hK1<|WS fun _ hK6=>rP 1 [] (mc 3 rfl mn) ?_
 refine rS (CL (Ch ts tsA tsC hlen hside) (bh [4]) rfl)<|rP 3 [] mn ?_
 refine AL rfl F9 fun b7=>f_ rfl E9 rfl<|rP 1 [] mn ?_
 refine RK hK6<|ai fun _ hK8=>WS fun _ hK9=>rP 2 [] mn ?_
 refine RK hK9 ?_
 refine cP rfl (bk fun he=>?_) (bj fun he=>?_)
 ·refine WS fun _ hK10=>?_
  refine rS (SX (bg (xs:=[]) (cs:=(aa.cells (aa.mk 0 0))) rfl rfl (bf fg rfl)) rfl rfl)<|rP 1 [] mn ?_
  refine oV rfl bY rfl<|rP 1 [] mn ?_
  refine RK hK10<|an ?_
  refine hQ _ _ _ (aZ (vs:=[(vA (aa.cells (aa.mk 0 0))),(vI (if cx ts=true then 0 else 10))]) ⟨⟨_,rfl,.inl ⟨_,_,bJ,bQ (vs:=(aa.cells (aa.mk 0 0))) 1 rfl rfl,rfl,rfl⟩⟩,rfl,trivial⟩ fun w hs=>eM ?_ hs)
  show (vT [(vA (aa.cells (aa.mk 0 0))),(vI (if cx ts=true then 0 else 10))])=(vT [(vA (aa.cells (e7 ts p q))),(vI (gG ts p q))])
  clear hs w hQ hN hK10 hK9 hK8 hK6 hK1
  first|(have e:=gW (a:=p) (b:=q) (iP he).1; rw [e.1,e.2,(iP he).2]<;>rfl)|(have e:=gX htr h26; rw [e.1,e.2]<;>rfl)|(have e:=cM htr ⟨hp,hq⟩; rw [e.1,e.2]; unfold g3 o1; rw [if_pos h47]<;>rfl)|(have e:=cM htr ⟨hp,hq⟩; rw [e.1,e.2]; unfold g3 o1; rw [if_neg h47]<;>rfl)
 refine WK hK8<|ai fun _ hK11=>WS fun _ hK12=>?_
 have htr:=Bk he
 have hst:=jN htr
 have hl12:=kf htr
 refine rP 3 [0,1,2] (mc 0 rfl (mc 3 rfl (mc 2 rfl mn))) ?_
 refine fc (xs:=[.tmp 22,.tmp 23]) (cs:=((cL.cells p)++(cL.cells q))) rfl FN B0 rfl rfl rfl rfl (by simp [Value.cells,cL.aX]) rfl rfl fun b13=>rS (CL (eu.eq (zH ts tsA tsC ([p,q]) (some ⟨b13,0,none⟩) 2 sd sd sd) Bs) (cw 6 rfl rfl<|bq (a_ 0 rfl rfl (by simp [cL.aX]) rfl)<|aT) rfl)<|rP 1 [] mn ?_
 refine RK hK12 ?_
 refine cP rfl (bk fun h26=>?_) (bj fun h26=>?_)
 ·refine WS fun _ hK14=>?_
  refine rS (SX (bg (xs:=[]) (cs:=(aa.cells (aa.mk 0 0))) rfl rfl (bf fg rfl)) rfl rfl)<|wb rfl bY rfl<|rP 1 [] mn ?_
  refine RK hK14<|an ?_
  refine hQ _ _ _ (aZ (vs:=[(vA (aa.cells (aa.mk 0 0))),(vI 12)]) ⟨⟨_,rfl,.inl ⟨_,_,bJ,bQ (vs:=(aa.cells (aa.mk 0 0))) 2 rfl rfl,rfl,rfl⟩⟩,rfl,trivial⟩ fun w hs=>eM ?_ hs)
  show (vT [(vA (aa.cells (aa.mk 0 0))),(vI 12)])=(vT [(vA (aa.cells (e7 ts p q))),(vI (gG ts p q))])
  clear hs w hQ hN hK14 hK12 hK11 hK9 hK8 hK6 hK1
  first|(have e:=gW (a:=p) (b:=q) (iP he).1; rw [e.1,e.2,(iP he).2]<;>rfl)|(have e:=gX htr h26; rw [e.1,e.2]<;>rfl)|(have e:=cM htr ⟨hp,hq⟩; rw [e.1,e.2]; unfold g3 o1; rw [if_pos h47]<;>rfl)|(have e:=cM htr ⟨hp,hq⟩; rw [e.1,e.2]; unfold g3 o1; rw [if_neg h47]<;>rfl)
 refine WK hK11<|WS fun _ hK15=>?_
 obtain ⟨hp,hq⟩:=h26
 have hpb:=hp.1
 have hqb:=hq.1
 have hpo:=pA hst hp
 have hqo:=pA hst hq
 have hlo:=xV hpo
 have hwy:=pf hst (f:=(min p.ar q.ar).toNat) (k:=(max p.ar q.ar-min p.ar q.ar).toNat) om
 refine rP 5 [0,1,2] (mc 1 rfl (mc 4 rfl (mc 3 rfl mn))) ?_
 refine rS (MN rfl)<|rP 4 [0,1] (mc 4 rfl (mc 3 rfl mn)) ?_
 refine rS (MX rfl)<|rS (CL (FK ts tsA tsC (min p.ar q.ar) (max p.ar q.ar) sd sd om) (bh [6]) rfl)<|rP 3 [] mn ?_
 refine AL rfl cV fun b16=>AL rfl cV fun b17=>oV rfl bY rfl<|f_ rfl bY rfl<|RK hK15<|ai fun _ hK18=>WS fun _ hK19=>rP 5 [0,1] (mc 5 rfl (mc 6 rfl mn)) ?_
 refine RK hK19 ?_
 refine bM rfl (aQ fun h47=>?_) (aP fun h47=>?_)
 ·refine WK hK18 ?_
  refine ai fun _ hK25=>ep cD [6,7,8] [] [] [0,1,2,3,5,6,7,8] [] rfl rfl rfl rfl rfl<|eS rfl (LW 1 rfl bJ rfl rfl)<|eS rfl (FA 1 rfl gp rfl)<|eS rfl (LP (aa.cells q.gk) 4 rfl bJ rfl rfl rfl)<|eS rfl (FA 1 rfl gp rfl)<|eS rfl (LP (aa.cells p.gk) 5 rfl bJ rfl rfl rfl)<|eS rfl (CL (Ag p.gk sd) (aT) rfl)<|eS rfl (AG rfl)<|fp rfl ?_
  refine cr rfl fun T26 hT26=>fc (xs:=[.tmp 52,.tmp 55]) (cs:=((aa.cells q.gk)++(aa.cells (jw p.gk)))) rfl jF cV rfl rfl rfl rfl (by simp [Value.cells,aa.aX]) rfl rfl fun b27=>?_
  refine aB (hT26 _ _ (aG [1,2,3,4,6,7,8,9]) ?_)
  refine cr rfl fun T28 hT28=>rS (CL (eu.eq (oD (cN ts (min p.ar q.ar).toNat ((max p.ar q.ar)-(min p.ar q.ar)).toNat) ([q.gk,(jw p.gk)]) (some ⟨b27,0,none⟩) 2 (by first|exact hwy|exact xV hwy) (by intro z hz; simp only [dZ,List.not_mem_nil,or_false] at hz; rcases hz with rfl|rfl; exact hqo; exact hlo) sm) zx) (bq (a_ 0 rfl rfl (by simp [aa.aX]) rfl)<|aT) rfl) ?_
  refine aB (hT28 _ _ (aG [1,2,3,4,6,7,8,9]) ?_)
  refine cr rfl fun T29 hT29=>Jp rfl bY rfl ?_
  refine aB (hT29 _ _ (aG [1,2,3,4,6,7,8,9]) ?_)
  refine gh rfl<|KK hK25<|an ?_
  refine hQ _ _ _ (aZ (vs:=[(vA (aa.cells (iG (iG (cN ts (min p.ar q.ar).toNat ((max p.ar q.ar)-(min p.ar q.ar)).toNat) q.gk) (jw p.gk)))),(vI 0)]) ⟨⟨_,rfl,.inl ⟨_,_,bJ,bQ (vs:=(aa.cells (iG (iG (cN ts (min p.ar q.ar).toNat ((max p.ar q.ar)-(min p.ar q.ar)).toNat) q.gk) (jw p.gk)))) 5 rfl rfl,rfl,rfl⟩⟩,rfl,trivial⟩ fun w hs=>eM ?_ hs)
  show (vT [(vA (aa.cells (iG (iG (cN ts (min p.ar q.ar).toNat ((max p.ar q.ar)-(min p.ar q.ar)).toNat) q.gk) (jw p.gk)))),(vI 0)])=(vT [(vA (aa.cells (e7 ts p q))),(vI (gG ts p q))])
  clear hs w hQ hN hT29 T29 hT28 T28 hT26 T26 hK25 hK19 hK18 hK15 hK12 hK11 hK9 hK8 hK6 hK1
  first|(have e:=gW (a:=p) (b:=q) (iP he).1; rw [e.1,e.2,(iP he).2]<;>rfl)|(have e:=gX htr h26; rw [e.1,e.2]<;>rfl)|(have e:=cM htr ⟨hp,hq⟩; rw [e.1,e.2]; unfold g3 o1; rw [if_pos h47]<;>rfl)|(have e:=cM htr ⟨hp,hq⟩; rw [e.1,e.2]; unfold g3 o1; rw [if_neg h47]<;>rfl)
 refine ak<|rP 1 [] (mc 1 rfl mn) ?_
 refine rS (CL (Ag (cN ts (min p.ar q.ar).toNat ((max p.ar q.ar)-(min p.ar q.ar)).toNat) sd) (aT) rfl)<|oV rfl bY rfl<|RK hK18<|ai fun _ hK20=>ep cD [6,7,8] [] [] [0,1,2,3,5,6,7,8] [] rfl rfl rfl rfl rfl<|eS rfl (LW 1 rfl bJ rfl rfl)<|eS rfl (FA 1 rfl gp rfl)<|eS rfl (LP (aa.cells q.gk) 4 rfl bJ rfl rfl rfl)<|eS rfl (FA 1 rfl gp rfl)<|eS rfl (LP (aa.cells p.gk) 5 rfl bJ rfl rfl rfl) ?_
 refine eS rfl (CL (Ag p.gk sd) (aT) rfl)<|eS rfl (AG rfl)<|fp rfl<|cr rfl fun T21 hT21=>fc (xs:=[.tmp 52,.tmp 55]) (cs:=((aa.cells q.gk)++(aa.cells (jw p.gk)))) rfl jF cV rfl rfl rfl rfl (by simp [Value.cells,aa.aX]) rfl rfl fun b22=>?_
 refine aB (hT21 _ _ (aG [1,2,3,4,6,7,8,9]) ?_)
 refine cr rfl fun T23 hT23=>rS (CL (eu.eq (oD (jw (cN ts (min p.ar q.ar).toNat ((max p.ar q.ar)-(min p.ar q.ar)).toNat)) ([q.gk,(jw p.gk)]) (some ⟨b22,0,none⟩) 2 (by first|exact hwy|exact xV hwy) (by intro z hz; simp only [dZ,List.not_mem_nil,or_false] at hz; rcases hz with rfl|rfl; exact hqo; exact hlo) sm) zx) (bq (a_ 0 rfl rfl (by simp [aa.aX]) rfl)<|aT) rfl) ?_
 refine aB (hT23 _ _ (aG [1,2,3,4,6,7,8,9]) ?_)
 refine cr rfl fun T24 hT24=>Jp rfl bY rfl ?_
 refine aB (hT24 _ _ (aG [1,2,3,4,6,7,8,9]) ?_)
 refine gh rfl<|KK hK20<|an ?_
 refine hQ _ _ _ (aZ (vs:=[(vA (aa.cells (iG (iG (jw (cN ts (min p.ar q.ar).toNat ((max p.ar q.ar)-(min p.ar q.ar)).toNat)) q.gk) (jw p.gk)))),(vI 0)]) ⟨⟨_,rfl,.inl ⟨_,_,bJ,bQ (vs:=(aa.cells (iG (iG (jw (cN ts (min p.ar q.ar).toNat ((max p.ar q.ar)-(min p.ar q.ar)).toNat)) q.gk) (jw p.gk)))) 5 rfl rfl,rfl,rfl⟩⟩,rfl,trivial⟩ fun w hs=>eM ?_ hs)
 show (vT [(vA (aa.cells (iG (iG (jw (cN ts (min p.ar q.ar).toNat ((max p.ar q.ar)-(min p.ar q.ar)).toNat)) q.gk) (jw p.gk)))),(vI 0)])=(vT [(vA (aa.cells (e7 ts p q))),(vI (gG ts p q))])
 clear hs w hQ hN hT24 T24 hT23 T23 hT21 T21 hK20 hK19 hK18 hK15 hK12 hK11 hK9 hK8 hK6 hK1
 first|(have e:=gW (a:=p) (b:=q) (iP he).1; rw [e.1,e.2,(iP he).2]<;>rfl)|(have e:=gX htr h26; rw [e.1,e.2]<;>rfl)|(have e:=cM htr ⟨hp,hq⟩; rw [e.1,e.2]; unfold g3 o1; rw [if_pos h47]<;>rfl)|(have e:=cM htr ⟨hp,hq⟩; rw [e.1,e.2]; unfold g3 o1; rw [if_neg h47]<;>rfl)
theorem pN (ts:List ah) (tsA:OA) (tsC:Nat) (s:cL) (hst: ∀ x∈ts,bo x) (hlen:ts.length≤12):
 eu Tryz.prog 121 [(vA (bL.cells (bL.mk (bB.mk tsA ts.length tsC)))),(vA (cL.cells s))] [(rd tsA ts.length 9 (ts.map ah.cells))] (vB (decide (eZ ts s))):=by
 refine bu kr Tryz.func121 rfl rfl fun w0 Q hQ hN=>?_
 try dsimp only
 refine WS fun _ hK1=>fP rfl fun b2=>fP rfl fun b3=>rP 1 [] mn ?_
 refine RK hK1<|ai fun _ hK4=>dC cD 22 kr<|dP 6 [0,1] (mc 0 rfl (mc 1 rfl mn)) ?_
 refine dS (CL (nD s.ar 0 (((ts.length:Nat):Int)-1)) (aT) rfl)<|dP 1 [] mn ?_
 refine jT (t:=12) rfl (aQ fun h12=>?_) (aP fun h12=>?_)
 ·refine dP 8 [] mn ?_
  refine dP 6 [] mn ?_
  refine cO<|RK hK4<|an<|Q1 hQ rfl rfl rfl ?_
  first|(refine cB ?_; rw [a7 (rF om)])|exact cB (decide_eq_decide.2 (qS om hx).symm)
 refine dP 1 [] mn ?_
 refine dS (LP (aa.cells s.gk) 0 rfl bJ rfl rfl rfl)<|dP 4 [0,1] (mc 1 rfl (mc 0 rfl mn)) ?_
 obtain ⟨x,hx⟩:=aO ts ((s.ar).toNat) om
 have hxm:=bI ah.cells hx
 refine dS (IA ((s.ar).toNat) rfl (aA 2 rfl) yJ dc om om)<|dS (mT ((((s.ar).toNat)*9)+1) rfl (aA 2 rfl) (Nat.mul_pos om dc) gp rfl) ?_
 have hxo:=(hst x (aw hx)).2.1
 simp only [di] at hxo
 refine dS (mT ((((s.ar).toNat)*9)+1) rfl (aA 2 rfl) (Nat.mul_pos om dc) gp rfl)<|dS (gU ((s.ar).toNat) 1 (vI x.j5.Lo) rfl bJ (aA 2 rfl) hxm rfl dc rfl)<|dP 1 [] mn ?_
 refine dS (CL (oy s.gk 0 (x.j5.Lo-1)) (aT) rfl)<|dP 2 [] mn ?_
 refine cO<|RK hK4<|an<|Q1 hQ rfl rfl rfl ?_
 first|(refine cB ?_; rw [a7 (rF om)])|exact cB (decide_eq_decide.2 (qS om hx).symm)
theorem xZ (ts:List ah) (tsA:OA) (tsC:Nat) (f t:Int) (hst: ∀ x∈ts,bo x) (hlen:ts.length≤12) (hf:0≤f∧f≤t∧t≤ts.length):
 eu Tryz.prog 165 [(vA (bL.cells (bL.mk (bB.mk tsA ts.length tsC)))),(vI f),(vI t)] [(rd tsA ts.length 9 (ts.map ah.cells))] (vT [(vA (aa.cells (cN ts f.toNat (t-f).toNat))),(vA (aa.cells (fm ts f.toNat (t-f).toNat)))]):=by
 refine bu kr Tryz.func165 rfl rfl fun w0 Q hQ hN=>?_
 try dsimp only
 refine WS fun _ hK1=>fP rfl fun b2=>AL rfl cV fun b3=>AL rfl cV fun b4=>RK hK1<|WS fun _ hK5=>AL rfl cV fun b6=>AL rfl cV fun b7=>RK hK5<|ai fun _ hK8=>?_
 refine WS fun _ hK9=>rP 2 [] mn ?_
 refine RK hK9<|av ?_
 have hinit:(0≤(t-f).toNat):=by exact Nat.zero_le _
 have hb10:(vI (f+((0:Nat):Int)))=(vI f):=by exact cI om
 refine cp (ι:={z:Nat // (z≤(t-f).toNat)}) (fun z=>[(1,(vI f)),(2,(vI t)),(3,(vP b2)),(6,(vP b3)),(7,(vP b4)),(8,(vP b6)),(9,(vP b7)),(10,(vI (f+((z.1:Nat):Int))))]) (fun z=>[(br b7 47 (aa.cells (fm ts f.toNat z.1))),(br b6 47 (aa.cells (cN ts f.toNat z.1))),(br b4 47 (aa.cells (aa.mk 0 0))),(br b3 47 (aa.cells (aa.mk 0 0))),(br b2 24 (bL.cells (bL.mk (bB.mk tsA ts.length tsC)))),(rd tsA ts.length 9 (ts.map ah.cells)).ro]) (fun z=>(t-f).toNat-z.1) ⟨0,hinit⟩ (cv 7<|aY rfl hb10<|dK.nil _) (aG [0,1,2,3,4,5]) ?_
 clear hinit
 rintro ⟨k,hl3_0⟩ J11 hJ11
 try dsimp only
 refine ai fun _ hK12=>WS fun _ hK13=>rP 3 [] mn ?_
 refine RK hK13 ?_
 refine bM rfl (aQ fun h14=>?_) (aP fun h14=>?_)
 ·refine bp ?_
  refine ae<|ae<|au<|KK hK8<|ai fun _ hK22=>ep cD [2,3] [] [] [0,1,4,5] [] rfl rfl rfl rfl rfl<|eS rfl (LW 1 rfl bJ rfl rfl)<|eS rfl (LW 0 rfl bJ rfl rfl)<|fp rfl<|cr rfl fun T23 hT23=>?_
  refine GZ rfl bY rfl ?_
  refine aB (hT23 _ _ (aG [0,1,4,5]) ?_)
  refine cr rfl fun T24 hT24=>wb rfl bY rfl ?_
  refine aB (hT24 _ _ (aG [0,1,4,5]) ?_)
  refine gh rfl<|KK hK22<|an ?_
  refine hQ _ _ _ (aZ (vs:=[(vA (aa.cells (cN ts f.toNat k))),(vA (aa.cells (fm ts f.toNat k)))]) ⟨⟨_,rfl,.inl ⟨_,_,bJ,bQ (vs:=(aa.cells (cN ts f.toNat k))) 3 rfl rfl,rfl,rfl⟩⟩,⟨_,rfl,.inl ⟨_,_,bJ,bQ (vs:=(aa.cells (fm ts f.toNat k))) 2 rfl rfl,rfl,rfl⟩⟩,trivial⟩ fun w hs=>eM ?_ hs)
  show (vT [(vA (aa.cells (cN ts f.toNat k))),(vA (aa.cells (fm ts f.toNat k)))])=(vT [(vA (aa.cells (cN ts f.toNat (t-f).toNat))),(vA (aa.cells (fm ts f.toNat (t-f).toNat)))])
  clear hs w hQ hN hT24 T24 hT23 T23 hK22 hK13 hK12 hK9 hK8 hK5 hK1
  obtain rfl:k=(t-f).toNat:=om; rfl
 refine WK hK12<|ai fun _ hK15=>av<|WS fun _ hK16=>rP 3 [] (mc 4 rfl mn) ?_
 obtain ⟨x,hx⟩:=aO ts (f.toNat+k) om
 have hxm:=bI ah.cells hx
 refine rS (IA (f.toNat+k) rfl (aA 5 rfl) yJ dc om om)<|rS (n9 (f.toNat+k) 0 (ah.cells x) rfl bJ (aA 5 rfl) hxm rfl dc rfl rfl)<|AL rfl Fh fun b17=>f_ rfl EW rfl<|RK hK16<|WS fun _ hK18=>?_
 have hxo:=hst x (aw hx)
 have hlb:=lz hst f.toNat k
 have hfb:=Cb hst f.toNat k
 have hx1:=hxo.2.1
 have hx2:=hxo.2.2.1
 simp only [di] at hx1 hx2
 refine rP 12 [0,1,0,1] (mc 2 rfl (mc 0 rfl mn)) ?_
 refine rS (SX (bg (xs:=[(0,.tmp 28),(1,.tmp 34)]) (cs:=(aa.cells (aa.mk (((cN ts f.toNat k).Lo)+x.j5.Lo) (((cN ts f.toNat k).Hi)+x.j5.Hi)))) rfl rfl (bf fg rfl)) rfl rfl)<|wb rfl bY rfl<|RK hK18<|ak<|rP 12 [0,1,0,1] (mc 1 rfl (mc 0 rfl mn)) ?_
 refine rS (SX (bg (xs:=[(0,.tmp 41),(1,.tmp 47)]) (cs:=(aa.cells (aa.mk (((fm ts f.toNat k).Lo)+x.kU.Lo) (((fm ts f.toNat k).Hi)+x.kU.Hi)))) rfl rfl (bf fg rfl)) rfl rfl)<|oV rfl bY rfl<|aB<|ax<|KK hK15 ?_
 have hb19:(aa.cells (aa.mk (((cN ts f.toNat k).Lo)+x.j5.Lo) (((cN ts f.toNat k).Hi)+x.j5.Hi)))=(aa.cells (cN ts f.toNat (k+1))):=by rw [oM hx]; rfl
 rw [hb19]
 have hb20:(aa.cells (aa.mk (((fm ts f.toNat k).Lo)+x.kU.Lo) (((fm ts f.toNat k).Hi)+x.kU.Hi)))=(aa.cells (fm ts f.toNat (k+1))):=by rw [ou hx]; rfl
 rw [hb20]
 refine ak<|rP 3 [] mn ?_
 refine aB ?_
 have hb21:(vI (f+(((k+1):Nat):Int)))=(vI ((f+((k:Nat):Int))+1)):=by exact cI om
 refine aN (hJ11 ⟨(k+1),(by first|omega|(simp only []; omega))⟩ _ _ _ rfl os (cv 7<|aY rfl hb21<|dK.nil _) (aG [1,2,3,4,5,6]))
end
section
open Go.RowKit
theorem JD (l:aV) (kA:OA) (kC:Nat) (az:List RA) (cA:OA) (cC:Nat) (bA:OA) (bC:Nat) (hin:eN l az):
 eu Tryz.prog 127 [(vA (cE.cells (jx l kA kC cA cC bA bC)))] [(rd kA l.aH.length 9 (l.aH.map ah.cells)),(rd cA l.aj.length 2 (List.zipWith al.cells l.aj az)),(du (aU al.fK l.aj az)),(rd bA l.ab.length 4 (l.ab.map bx.cells))] (vB (decide (dU l))):=by
 have htk:=hin.r_
 have hck:=hin.se
 have has:=hin.qa
 have hbm:=hin.sb
 refine bu kr Tryz.func127 rfl rfl fun w0 Q hQ hN=>?_
 try dsimp only
 refine WS fun _ hK1=>fP rfl fun b2=>rP 1 [] mn ?_
 refine RK hK1<|WS fun _ hK3=>rP 2 [] (mc 0 rfl mn) ?_
 refine fc (xs:=[.tmp 4]) (cs:=[(vI l.lX)]) rfl dB lT rfl rfl rfl rfl (by simp [Value.cells]) rfl rfl fun b4=>rS (CL (eu.eq (iz 1 5000 ([l.lX]) (some ⟨b4,0,none⟩) 1 sd) dx) (bq (a_ 0 rfl rfl (by simp [bT]) rfl)<|aT) rfl)<|rP 1 [] mn ?_
 refine dp (t:=7) rfl (aQ fun h5=>?_) (aP fun h5=>?_)
 ·refine rP 36 [] mn ?_
  refine RK hK3<|an<|Q1 hQ rfl rfl rfl ?_
  exact cB (a7 (by unfold dU; omega)).symm
 refine rP 3 [] (mc 1 rfl mn) ?_
 refine fc (xs:=[.tmp 10]) (cs:=[(vI ((l.aj.length:Nat):Int))]) rfl dB lT rfl rfl rfl rfl (by simp [Value.cells]) rfl rfl fun b6=>rS (CL (eu.eq (iz 1 4 ([((l.aj.length:Nat):Int)]) (some ⟨b6,0,none⟩) 1 sd) dx) (bq (a_ 0 rfl rfl (by simp [bT]) rfl)<|aT) rfl)<|rP 2 [] mn ?_
 refine dp (t:=14) rfl (aQ fun h7=>?_) (aP fun h7=>?_)
 ·refine rP 29 [] mn ?_
  refine RK hK3<|an<|Q1 hQ rfl rfl rfl ?_
  exact cB (a7 (by unfold dU; omega)).symm
 refine rP 3 [] (mc 2 rfl mn) ?_
 refine fc (xs:=[.tmp 17]) (cs:=[(vI ((l.ab.length:Nat):Int))]) rfl dB lT rfl rfl rfl rfl (by simp [Value.cells]) rfl rfl fun b8=>rS (CL (eu.eq (iz 1 6 ([((l.ab.length:Nat):Int)]) (some ⟨b8,0,none⟩) 1 sd) dx) (bq (a_ 0 rfl rfl (by simp [bT]) rfl)<|aT) rfl)<|rP 2 [] mn ?_
 refine dp (t:=21) rfl (aQ fun h9=>?_) (aP fun h9=>?_)
 ·refine rP 22 [] mn ?_
  refine RK hK3<|an<|Q1 hQ rfl rfl rfl ?_
  exact cB (a7 (by unfold dU; omega)).symm
 refine rP 6 [] (mc 3 rfl mn) ?_
 refine fc (xs:=[.tmp 27]) (cs:=[(vI l.cz)]) rfl dB lT rfl rfl rfl rfl (by simp [Value.cells]) rfl rfl fun b10=>rS (CL (eu.eq (iz 0 (((l.ab.length:Nat):Int)-1) ([l.cz]) (some ⟨b10,0,none⟩) 1 sd) dx) (bq (a_ 0 rfl rfl (by simp [bT]) rfl)<|aT) rfl)<|rP 2 [] mn ?_
 refine dp (t:=31) rfl (aQ fun h11=>?_) (aP fun h11=>?_)
 ·refine rP 12 [] mn ?_
  refine RK hK3<|an<|Q1 hQ rfl rfl rfl ?_
  exact cB (a7 (by unfold dU; omega)).symm
 refine rP 2 [] (mc 4 rfl mn) ?_
 refine fc (xs:=[.tmp 33]) (cs:=[(vI l.iH)]) rfl dB lT rfl rfl rfl rfl (by simp [Value.cells]) rfl rfl fun b12=>rS (CL (eu.eq (iz 0 3 ([l.iH]) (some ⟨b12,0,none⟩) 1 sd) dx) (bq (a_ 0 rfl rfl (by simp [bT]) rfl)<|aT) rfl)<|rP 2 [] mn ?_
 refine dp (t:=37) rfl (aQ fun h13=>?_) (aP fun h13=>?_)
 ·refine rP 6 [] mn ?_
  refine RK hK3<|an<|Q1 hQ rfl rfl rfl ?_
  exact cB (a7 (by unfold dU; omega)).symm
 refine rP 2 [] (mc 5 rfl mn) ?_
 refine fc (xs:=[.tmp 39]) (cs:=[(vI l.e8)]) rfl dB lT rfl rfl rfl rfl (by simp [Value.cells]) rfl rfl fun b14=>rS (CL (eu.eq (iz 0 3 ([l.e8]) (some ⟨b14,0,none⟩) 1 sd) dx) (bq (a_ 0 rfl rfl (by simp [bT]) rfl)<|aT) rfl)<|rP 2 [] mn ?_
 refine RK hK3<|an<|Q1 hQ rfl rfl rfl ?_
 exact cB (decide_eq_decide.2 (by unfold dU; omega))
theorem Jq (l:aV) (kA:OA) (kC:Nat) (az:List RA) (cA:OA) (cC:Nat) (bA:OA) (bC:Nat) (hin:eN l az):
 eu Tryz.prog 129 [(vA (cE.cells (jx l kA kC cA cC bA bC)))] [(rd kA l.aH.length 9 (l.aH.map ah.cells)),(rd cA l.aj.length 2 (List.zipWith al.cells l.aj az)),(du (aU al.fK l.aj az)),(rd bA l.ab.length 4 (l.ab.map bx.cells))] (vB (decide (∀ c∈l.aj,eJ c))):=by
 have htk:=hin.r_
 have hck:=hin.se
 have has:=hin.qa
 have hbm:=hin.sb
 refine bu kr Tryz.func129 rfl rfl fun w0 Q hQ hN=>?_
 try dsimp only
 refine WS fun _ hK1=>fP rfl fun b2=>rP 1 [] mn ?_
 refine RK hK1<|WS fun _ hK3=>rP 2 [] (mc 0 rfl mn) ?_
 refine rS (CL (x_ l.aj az cA cC (Value.func (.func 131) [].toArray [].toArray) (fun m=>(!(decide (eJ m)))) (du (aU al.fK l.aj az)) (by intro k_ m a hm_ ha_; exact ob (fi:=[]) (ca:=[]) (K2 l.aj az k_ m a (by exact hm_) (by exact ha_) (by exact hin.MI _ _ _ hm_ ha_))) sd sd) (JS 2 3 3 rfl rfl rfl rfl rfl rfl) rfl)<|rP 2 [] mn ?_
 refine RK hK3<|an<|Q1 hQ rfl rfl rfl ?_
 exact cB (by rw [Bool.eq_iff_iff,decide_eq_true_eq]; exact AQ)
theorem Jd (b:bx) (l:aV) (kA:OA) (kC:Nat) (az:List RA) (cA:OA) (cC:Nat) (bA:OA) (bC g1:Nat) (hin:eN l az) (htr:cx l.aH=true):
 eu Tryz.prog 135 [(vA (bx.cells b)),(vP g1)] [(rd kA l.aH.length 9 (l.aH.map ah.cells)),(rd cA l.aj.length 2 (List.zipWith al.cells l.aj az)),(du (aU al.fK l.aj az)),(rd bA l.ab.length 4 (l.ab.map bx.cells)),(br g1 28 (cE.cells (jx l kA kC cA cC bA bC)))] (vB (!(decide (js l b)))):=by
 have htk:=hin.r_
 have hck:=hin.se
 have has:=hin.qa
 have hbm:=hin.sb
 have hsd:=hin.side
 refine bu kr Tryz.func135 rfl rfl fun w0 Q hQ hN=>?_
 try dsimp only
 refine WS fun _ hK1=>fP rfl fun b2=>rP 1 [] mn ?_
 refine RK hK1<|WS fun _ hK3=>rP 1 [] mn ?_
 refine rS (Od (bL.cells (bL.mk (bB.mk kA l.aH.length kC))) 5 rfl bJ rfl rfl rfl)<|rP 1 [] mn ?_
 refine rS (LP (cL.cells b.lU) 0 rfl bJ rfl rfl rfl)<|rS (CL (Lu l.aH kA kC b.lU sd sd) (bh [1]) rfl)<|rP 3 [] mn ?_
 refine AL rfl cV fun b4=>f_ rfl bY rfl<|rP 1 [] mn ?_
 refine RK hK3<|WS fun _ hK5=>rP 3 [] mn ?_
 refine c8 (t:=16) rfl (bk fun h16=>?_) (bj fun h16=>?_)
 ·refine rP 11 [] mn ?_
  refine RK hK5<|an<|Q1 hQ rfl rfl rfl ?_
  first|(refine cB ?_; rw [a7 (fun h:js l b=>h16 ((uk htr).2 h.1))]; rfl)|(refine cB ?_; refine congrArg Bool.not (decide_eq_decide.2 ⟨fun h=>⟨(uk htr).1 h16,om,om⟩,fun h=>by have:=h.2; omega⟩))
 refine rP 6 [0,1] (mr 6 rfl (mc 1 rfl mn)) ?_
 refine fc (xs:=[.tmp 22]) (cs:=[(vI b.jK)]) rfl dB lT rfl rfl rfl rfl (by simp [Value.cells]) rfl rfl fun b6=>rS (CL (eu.eq (iz 0 (((l.aj.length:Nat):Int)-1) ([b.jK]) (some ⟨b6,0,none⟩) 1 sd) dx) (bq (a_ 0 rfl rfl (by simp [bT]) rfl)<|aT) rfl)<|rP 3 [] mn ?_
 refine RK hK5<|an<|Q1 hQ rfl rfl rfl ?_
 first|(refine cB ?_; rw [a7 (fun h:js l b=>h16 ((uk htr).2 h.1))]; rfl)|(refine cB ?_; refine congrArg Bool.not (decide_eq_decide.2 ⟨fun h=>⟨(uk htr).1 h16,om,om⟩,fun h=>by have:=h.2; omega⟩))
theorem Kl (l:aV) (kA:OA) (kC:Nat) (az:List RA) (cA:OA) (cC:Nat) (bA:OA) (bC:Nat) (hin:eN l az) (htr:cx l.aH=true):
 eu Tryz.prog 133 [(vA (cE.cells (jx l kA kC cA cC bA bC)))] [(rd kA l.aH.length 9 (l.aH.map ah.cells)),(rd cA l.aj.length 2 (List.zipWith al.cells l.aj az)),(du (aU al.fK l.aj az)),(rd bA l.ab.length 4 (l.ab.map bx.cells))] (vB (decide (∀ b∈l.ab,js l b))):=by
 have htk:=hin.r_
 have hck:=hin.se
 have has:=hin.qa
 have hbm:=hin.sb
 refine bu kr Tryz.func133 rfl rfl fun w0 Q hQ hN=>?_
 try dsimp only
 refine WS fun _ hK1=>fP rfl fun b2=>rP 1 [] mn ?_
 refine RK hK1<|WS fun _ hK3=>rP 2 [] (mc 0 rfl mn) ?_
 refine rS (FU rfl)<|rS (CL (x3 l.ab bA bC (Value.func (.func 135) [].toArray [(vP b2)].toArray) (fun u4=>(!(decide (js l u4)))) (du [(rd kA l.aH.length 9 (l.aH.map ah.cells)),(rd cA l.aj.length 2 (List.zipWith al.cells l.aj az)),(du (aU al.fK l.aj az)),(rd bA l.ab.length 4 (l.ab.map bx.cells)),(br b2 28 (cE.cells (jx l kA kC cA cC bA bC)))]) (by intro u4 _; exact ob (fi:=[]) (ca:=[(vP b2)]) (mW (Jd u4 l kA kC az cA cC bA bC b2 (by first|assumption|omega) (by first|assumption|omega)) (bh [0,1,2,3,4]))) sd) (cw 4 rfl rfl<|bq (mY (bh [1,2,3,4,0]))<|aT) rfl)<|rP 2 [] mn ?_
 refine RK hK3<|an<|Q1 hQ rfl rfl rfl ?_
 exact cB (by rw [Bool.eq_iff_iff,decide_eq_true_eq]; exact De)
theorem IL (l:aV) (kA:OA) (kC:Nat) (az:List RA) (cA:OA) (cC:Nat) (bA:OA) (bC:Nat) (n:Int) (hin:eN l az) (htr:cx l.aH=true) (hbk: ∀ b∈l.ab,js l b) (hn:0≤n∧n<(l.ab.length:Int)):
 eu Tryz.prog 138 [(vA (cE.cells (jx l kA kC cA cC bA bC))),(vI n)] [(rd kA l.aH.length 9 (l.aH.map ah.cells)),(rd cA l.aj.length 2 (List.zipWith al.cells l.aj az)),(du (aU al.fK l.aj az)),(rd bA l.ab.length 4 (l.ab.map bx.cells))] (vI (mh l n.toNat)):=by
 have htk:=hin.r_
 have hck:=hin.se
 have has:=hin.qa
 have hbm:=hin.sb
 have hsd:=hin.side
 refine bu kr Tryz.func138 rfl rfl fun w0 Q hQ hN=>?_
 try dsimp only
 refine WS fun _ hK1=>fP rfl fun b2=>rP 1 [] mn ?_
 refine RK hK1<|WS fun _ hK3=>rP 3 [] (mc 0 rfl mn) ?_
 obtain ⟨x,hx⟩:=aO l.ab ((n).toNat) om
 have hxm:=bI bx.cells hx
 refine rS (IA ((n).toNat) rfl (aA 4 rfl) wi dc om om)<|rS (mT (((n).toNat)*4) rfl (aA 4 rfl) (Nat.mul_pos om dc) gp rfl)<|rS (n9 ((n).toNat) 0 (cL.cells x.lU) rfl bJ (aA 4 rfl) hxm rfl dc rfl rfl)<|AL rfl B0 fun b4=>f_ rfl IK rfl<|RK hK3<|WS fun _ hK5=>rP 1 [] mn ?_
 refine rS (LP (bL.cells (bL.mk (bB.mk kA l.aH.length kC))) 1 rfl bJ rfl rfl rfl)<|rP 1 [] (mc 0 rfl mn) ?_
 refine rS (CL (Lu l.aH kA kC x.lU sd sd) (bh [2]) rfl)<|rP 3 [] mn ?_
 refine AL rfl cV fun b6=>f_ rfl bY rfl<|rP 1 [] mn ?_
 refine RK hK5<|ai fun _ hK7=>WS fun _ hK8=>rP 2 [] mn ?_
 refine RK hK8 ?_
 refine bM rfl (aQ fun h22=>?_) (aP fun h22=>?_)
 ·refine WK hK7 ?_
  refine WS fun _ hK11=>rP 3 [] (mc 0 rfl mn) ?_
  refine RK hK11<|an<|Q1 hQ rfl rfl rfl ?_
  first|(refine cI ?_; rw [rl om hx (by rw [show n.toNat-1=(n-1).toNat by omega]; exact hy),(cM htr ⟨(hbk _ (aw hy)).1,(hbk _ (aw hx)).1⟩).2])|(refine cI ?_; rw [show n.toNat=0 by omega] at hx ⊢; rw [pX hx,(nT htr (hbk _ (aw hx)).1).2])
 refine ep cD [14] [] [] [1,2,3,4,5,6] [] rfl rfl rfl rfl rfl<|eS rfl (FA 0 rfl gp rfl)<|eS rfl (LP (bL.cells (bL.mk (bB.mk kA l.aH.length kC))) 1 rfl bJ rfl rfl rfl)<|eS rfl (FA 3 rfl gp rfl)<|eS rfl (L1 (vS bA l.ab.length bC) 1 rfl bJ rfl rfl)<|eS rfl (MV rfl)<|eS rfl (BI rfl (tM ⟨om,om⟩)) ?_
 obtain ⟨y,hy⟩:=aO l.ab (((n-1)).toNat) om
 have hym:=bI bx.cells hy
 refine eS rfl (IA (((n-1)).toNat) rfl (aA 5 rfl) wi dc om om)<|eS rfl (mT ((((n-1)).toNat)*4) rfl (aA 5 rfl) (Nat.mul_pos om dc) gp rfl)<|eS rfl (n9 (((n-1)).toNat) 0 (cL.cells y.lU) rfl bJ (aA 5 rfl) hym rfl dc rfl rfl)<|eS rfl (LW 0 rfl bJ rfl rfl)<|eS rfl (CL (HE l.aH kA kC y.lU x.lU sd sd) (bh [2]) rfl)<|eS rfl (MV rfl)<|eS rfl (EX rfl)<|eS rfl (EX rfl)<|fp rfl<|cr rfl fun T9 hT9=>?_
 refine f_ rfl bY rfl ?_
 refine aB (hT9 _ _ (aG [1,2,3,4,5,6]) ?_)
 refine gh rfl<|KK hK7<|WS fun _ hK10=>rP 3 [] (mc 0 rfl mn) ?_
 refine RK hK10<|an<|Q1 hQ rfl rfl rfl ?_
 first|(refine cI ?_; rw [rl om hx (by rw [show n.toNat-1=(n-1).toNat by omega]; exact hy),(cM htr ⟨(hbk _ (aw hy)).1,(hbk _ (aw hx)).1⟩).2])|(refine cI ?_; rw [show n.toNat=0 by omega] at hx ⊢; rw [pX hx,(nT htr (hbk _ (aw hx)).1).2])
theorem Ji (l:aV) (kA:OA) (kC:Nat) (az:List RA) (cA:OA) (cC:Nat) (bA:OA) (bC:Nat) (hin:eN l az) (htr:cx l.aH=true) (hbk: ∀ b∈l.ab,js l b):
 eu Tryz.prog 137 [(vA (cE.cells (jx l kA kC cA cC bA bC)))] [(rd kA l.aH.length 9 (l.aH.map ah.cells)),(rd cA l.aj.length 2 (List.zipWith al.cells l.aj az)),(du (aU al.fK l.aj az)),(rd bA l.ab.length 4 (l.ab.map bx.cells))] (vB (decide (∀ i,i<l.ab.length→1≤mh l i))):=by
 have htk:=hin.r_
 have hck:=hin.se
 have has:=hin.qa
 have hbm:=hin.sb
 refine bu kr Tryz.func137 rfl rfl fun w0 Q hQ hN=>?_
 try dsimp only
 refine WS fun _ hK1=>fP rfl fun b2=>rP 1 [] mn ?_
 refine RK hK1<|ai fun _ hK3=>WS fun _ hK4=>rP 4 [] (mc 0 rfl mn) ?_
 refine RK hK4<|av ?_
 have hinit:(0≤l.ab.length)∧(∀ j,j<0→1≤mh l j):=by exact ⟨Nat.zero_le _,fun j hj=>absurd hj (Nat.not_lt_zero _)⟩
 refine cp (ι:={z:Nat // (z≤l.ab.length)∧(∀ j,j<z→1≤mh l j)}) (fun z=>[(1,(vP b2)),(6,(vI ((l.ab.length:Nat):Int))),(7,(vI ((z.1:Nat):Int)))]) (fun z=>[(br b2 28 (cE.cells (jx l kA kC cA cC bA bC))),(rd kA l.aH.length 9 (l.aH.map ah.cells)).ro,(rd cA l.aj.length 2 (List.zipWith al.cells l.aj az)).ro,(du (aU al.fK l.aj az)).ro,(rd bA l.ab.length 4 (l.ab.map bx.cells)).ro]) (fun z=>l.ab.length-z.1) ⟨0,hinit⟩ (aL rfl) (aG [0,1,2,3,4]) ?_
 clear hinit
 rintro ⟨i,⟨hl0_0,hl0_1⟩⟩ J5 hJ5
 try dsimp only
 refine WS fun _ hK6=>rP 1 [] mn ?_
 refine RK hK6<|ai fun _ hK7=>?_
 refine bM rfl (aQ fun h8=>?_) (aP fun h8=>?_)
 ·refine bp ?_
  refine ae<|ae<|au<|KK hK3<|WS fun _ hK14=>rP 1 [] mn ?_
  refine RK hK14<|an<|Q1 hQ rfl rfl rfl ?_
  first|exact cB (a7 (fun h=>by have:=h i om; simp only [Int.toNat_natCast] at h13; omega)).symm|exact cB (bW (fun j hj=>hl0_1 j om)).symm
 refine WK hK7<|ai fun _ hK9=>av<|WS fun _ hK10=>rP 2 [] mn ?_
 refine RK hK10<|WS fun _ hK11=>rP 2 [] (mc 0 rfl mn) ?_
 refine rS (CL (IL l kA kC az cA cC bA bC ((i:Nat):Int) hin htr hbk sd) (bh [1,2,3,4]) rfl)<|rP 1 [] mn ?_
 refine RK hK11 ?_
 refine cP rfl (aP fun h13=>?_) (aQ fun h13=>?_)
 ·refine WS fun _ hK12=>?_
  refine rP 1 [] mn ?_
  refine RK hK12<|an<|Q1 hQ rfl rfl rfl ?_
  first|exact cB (a7 (fun h=>by have:=h i om; simp only [Int.toNat_natCast] at h13; omega)).symm|exact cB (bW (fun j hj=>hl0_1 j om)).symm
 refine bZ<|ax<|KK hK9<|ak<|rP 2 [] mn ?_
 refine aB ?_
 have hb13:(vI (((i+1):Nat):Int))=(vI (((i:Nat):Int)+1)):=by exact cI om
 refine aN (hJ5 ⟨(i+1),⟨om,fun j hj=>by rcases Nat.lt_or_ge j i with q|q; exact hl0_1 j q; (obtain rfl:j=i:=by omega); simp only [Int.toNat_natCast] at h13; omega⟩⟩ _ _ _ rfl os (dK.cons rfl<|dK.cons rfl<|aY rfl hb13<|dK.nil _) (aG [0,1,2,3,4]))
end
section
open Go.RowKit
theorem JZ:
 eu Tryz.prog 93 [] [] (vA ((dq.cells (dq.mk (Value.func (.func 127) [].toArray [].toArray)))++(dq.cells (dq.mk (Value.func (.func 129) [].toArray [].toArray)))++(dq.cells (dq.mk (Value.func (.func 133) [].toArray [].toArray)))++(dq.cells (dq.mk (Value.func (.func 137) [].toArray [].toArray))))):=by
 refine bu kr Tryz.func93 rfl rfl fun w0 Q hQ hN=>?_
 try dsimp only
 refine WS fun _ hK1=>AL rfl Lw fun b2=>RK hK1<|WS fun _ hK3=>rS (SX (bg (xs:=[(0,.func 127)]) (cs:=(dq.cells (dq.mk (Value.func (.func 127) [].toArray [].toArray)))) rfl rfl (bf Cl rfl)) rfl rfl)<|rS (SX (bg (xs:=[(0,.func 129)]) (cs:=(dq.cells (dq.mk (Value.func (.func 129) [].toArray [].toArray)))) rfl rfl (bf Cl rfl)) rfl rfl)<|rS (SX (bg (xs:=[(0,.func 133)]) (cs:=(dq.cells (dq.mk (Value.func (.func 133) [].toArray [].toArray)))) rfl rfl (bf Cl rfl)) rfl rfl)<|rS (SX (bg (xs:=[(0,.func 137)]) (cs:=(dq.cells (dq.mk (Value.func (.func 137) [].toArray [].toArray)))) rfl rfl (bf Cl rfl)) rfl rfl)<|rS (SX (bg (xs:=[(0,.tmp 1),(1,.tmp 2),(2,.tmp 3),(3,.tmp 4)]) (cs:=((dq.cells (dq.mk (Value.func (.func 127) [].toArray [].toArray)))++(dq.cells (dq.mk (Value.func (.func 129) [].toArray [].toArray)))++(dq.cells (dq.mk (Value.func (.func 133) [].toArray [].toArray)))++(dq.cells (dq.mk (Value.func (.func 137) [].toArray [].toArray))))) rfl rfl (bf LG rfl)) rfl rfl)<|f_ rfl Kz rfl ?_
 refine RK hK3<|an ?_
 refine hQ _ _ _ (aZ (vs:=[(vA ((dq.cells (dq.mk (Value.func (.func 127) [].toArray [].toArray)))++(dq.cells (dq.mk (Value.func (.func 129) [].toArray [].toArray)))++(dq.cells (dq.mk (Value.func (.func 133) [].toArray [].toArray)))++(dq.cells (dq.mk (Value.func (.func 137) [].toArray [].toArray)))))]) ⟨⟨_,rfl,.inl ⟨_,_,bJ,bQ (vs:=((dq.cells (dq.mk (Value.func (.func 127) [].toArray [].toArray)))++(dq.cells (dq.mk (Value.func (.func 129) [].toArray [].toArray)))++(dq.cells (dq.mk (Value.func (.func 133) [].toArray [].toArray)))++(dq.cells (dq.mk (Value.func (.func 137) [].toArray [].toArray))))) 0 rfl rfl,rfl,rfl⟩⟩,trivial⟩ fun w hs=>eM ?_ hs)
 show (vA ((dq.cells (dq.mk (Value.func (.func 127) [].toArray [].toArray)))++(dq.cells (dq.mk (Value.func (.func 129) [].toArray [].toArray)))++(dq.cells (dq.mk (Value.func (.func 133) [].toArray [].toArray)))++(dq.cells (dq.mk (Value.func (.func 137) [].toArray [].toArray)))))=(vA ((dq.cells (dq.mk (Value.func (.func 127) [].toArray [].toArray)))++(dq.cells (dq.mk (Value.func (.func 129) [].toArray [].toArray)))++(dq.cells (dq.mk (Value.func (.func 133) [].toArray [].toArray)))++(dq.cells (dq.mk (Value.func (.func 137) [].toArray [].toArray)))))
 clear hs w hQ hN hK3 hK1
 rfl
theorem yM (l:aV) (kA:OA) (kC:Nat) (az:List RA) (cA:OA) (cC:Nat) (bA:OA) (bC:Nat) (hin:eN l az):
 eu Tryz.prog 70 [(vA (cE.cells (jx l kA kC cA cC bA bC)))] [(rd kA l.aH.length 9 (l.aH.map ah.cells)),(rd cA l.aj.length 2 (List.zipWith al.cells l.aj az)),(du (aU al.fK l.aj az)),(rd bA l.ab.length 4 (l.ab.map bx.cells))] (vI (dh l)):=by
 have htk:=hin.r_
 have hck:=hin.se
 have has:=hin.qa
 have hbm:=hin.sb
 have hsd:=hin.side
 refine bu kr Tryz.func70 rfl rfl fun w0 Q hQ hN=>?_
 try dsimp only
 refine WS fun _ hK1=>fP rfl fun b2=>rP 1 [] mn ?_
 refine RK hK1<|ai fun _ hK3=>WS fun _ hK4=>rP 1 [] mn ?_
 refine rS (LP (bL.cells (bL.mk (bB.mk kA l.aH.length kC))) 0 rfl bJ rfl rfl rfl)<|rS (CL (yX l.aH kA kC sd sd) (bh [1]) rfl)<|rP 1 [] mn ?_
 refine RK hK4<|WS fun _ hK5=>rP 2 [] mn ?_
 refine RK hK5 ?_
 refine cP rfl (bk fun h10=>?_) (bj fun h10=>?_)
 ·refine WS fun _ hK6=>?_
  refine rP 2 [] mn ?_
  refine RK hK6<|an<|Q1 hQ rfl rfl rfl ?_
  first|(refine cI ?_; rw [(iP h10).2,jR (iP h10).1])|exact cI (eh htr fun h=>absurd h.head asm).symm|exact cI (eh htr fun h=>absurd h.clock asm).symm|exact cI (eh htr fun h=>absurd h.lJ asm).symm|exact cI (eh htr fun h=>absurd h.wc asm).symm|exact cI (kF htr (fG asm asm asm asm)).symm
 refine WK hK3<|ai fun _ hK7=>WS fun _ hK8=>?_
 have htr:=Bk h10
 refine rS (CL JZ (aT) rfl)<|rP 1 [] mn ?_
 refine RK hK8<|av<|kz 5<|ek fun R9 hR9=>WS fun _ hK10=>rS (SX (cb (r:= .bool true) rfl rfl rfl gH) rfl rfl)<|RK hK10<|ai fun _ hK11=>aI rfl<|WK hK11 ?_
 refine ai fun _ hK12=>av<|WS fun _ hK13=>rS (SX (q6 (vs:=(dq.cells (dq.mk (Value.func (.func 127) [].toArray [].toArray)))) 0 rfl rfl rfl B1 bJ rfl dc rfl) rfl rfl)<|AL rfl BV fun b14=>f_ rfl BF rfl<|RK hK13<|WS fun _ hK15=>rP 3 [0,1] (mc 0 rfl (mc 1 rfl mn)) ?_
 refine rS (CL (JD l kA kC az cA cC bA bC hin) (bh [2,3,4,5]) rfl)<|rP 1 [] mn ?_
 refine RK hK15 ?_
 refine cP rfl (bk fun h16=>?_) (bj fun h16=>?_)
 ·refine WS fun _ hK17=>?_
  refine rP 1 [] mn ?_
  refine RK hK17<|an<|Q1 hQ rfl rfl rfl ?_
  first|(refine cI ?_; rw [(iP h10).2,jR (iP h10).1])|exact cI (eh htr fun h=>absurd h.head asm).symm|exact cI (eh htr fun h=>absurd h.clock asm).symm|exact cI (eh htr fun h=>absurd h.lJ asm).symm|exact cI (eh htr fun h=>absurd h.wc asm).symm|exact cI (kF htr (fG asm asm asm asm)).symm
 refine bZ<|ax<|KK hK12<|ak<|rS (SX (cb (r:= .int .i64 1) rfl rfl rfl (g8 ⟨dc,dc⟩)) rfl rfl)<|rP 1 [] mn ?_
 refine RK hR9<|ek fun R18 hR18=>WS fun _ hK19=>rS (SX (cb (r:= .bool true) rfl rfl rfl gH) rfl rfl)<|RK hK19<|ai fun _ hK20=>aI rfl<|WK hK20<|ai fun _ hK21=>av ?_
 refine WS fun _ hK22=>rS (SX (q6 (vs:=(dq.cells (dq.mk (Value.func (.func 129) [].toArray [].toArray)))) 1 rfl rfl rfl B1 bJ rfl dc rfl) rfl rfl)<|AL rfl BV fun b23=>f_ rfl BF rfl<|RK hK22<|WS fun _ hK24=>rP 3 [0,1] (mc 0 rfl (mc 2 rfl mn)) ?_
 refine rS (CL (Jq l kA kC az cA cC bA bC hin) (bh [3,4,5,6]) rfl)<|rP 1 [] mn ?_
 refine RK hK24 ?_
 refine cP rfl (bk fun h25=>?_) (bj fun h25=>?_)
 ·refine WS fun _ hK26=>?_
  refine rP 1 [] mn ?_
  refine RK hK26<|an<|Q1 hQ rfl rfl rfl ?_
  first|(refine cI ?_; rw [(iP h10).2,jR (iP h10).1])|exact cI (eh htr fun h=>absurd h.head asm).symm|exact cI (eh htr fun h=>absurd h.clock asm).symm|exact cI (eh htr fun h=>absurd h.lJ asm).symm|exact cI (eh htr fun h=>absurd h.wc asm).symm|exact cI (kF htr (fG asm asm asm asm)).symm
 refine bZ<|ax<|KK hK21<|ak<|rS (SX (cb (r:= .int .i64 2) rfl rfl rfl (g8 ⟨dc,dc⟩)) rfl rfl)<|rP 1 [] mn ?_
 refine RK hR18<|ek fun R27 hR27=>WS fun _ hK28=>rS (SX (cb (r:= .bool true) rfl rfl rfl gH) rfl rfl)<|RK hK28<|ai fun _ hK29=>aI rfl<|WK hK29<|ai fun _ hK30=>av ?_
 refine WS fun _ hK31=>rS (SX (q6 (vs:=(dq.cells (dq.mk (Value.func (.func 133) [].toArray [].toArray)))) 2 rfl rfl rfl B1 bJ rfl dc rfl) rfl rfl)<|AL rfl BV fun b32=>f_ rfl BF rfl<|RK hK31<|WS fun _ hK33=>rP 3 [0,1] (mc 0 rfl (mc 3 rfl mn)) ?_
 refine rS (CL (Kl l kA kC az cA cC bA bC hin sd) (bh [4,5,6,7]) rfl)<|rP 1 [] mn ?_
 refine RK hK33 ?_
 refine cP rfl (bk fun h34=>?_) (bj fun h34=>?_)
 ·refine WS fun _ hK35=>?_
  refine rP 1 [] mn ?_
  refine RK hK35<|an<|Q1 hQ rfl rfl rfl ?_
  first|(refine cI ?_; rw [(iP h10).2,jR (iP h10).1])|exact cI (eh htr fun h=>absurd h.head asm).symm|exact cI (eh htr fun h=>absurd h.clock asm).symm|exact cI (eh htr fun h=>absurd h.lJ asm).symm|exact cI (eh htr fun h=>absurd h.wc asm).symm|exact cI (kF htr (fG asm asm asm asm)).symm
 refine bZ<|ax<|KK hK30<|ak<|rS (SX (cb (r:= .int .i64 3) rfl rfl rfl (g8 ⟨dc,dc⟩)) rfl rfl)<|rP 1 [] mn ?_
 refine RK hR27<|ek fun R36 hR36=>WS fun _ hK37=>rS (SX (cb (r:= .bool true) rfl rfl rfl gH) rfl rfl)<|RK hK37<|ai fun _ hK38=>aI rfl<|WK hK38<|ai fun _ hK39=>av ?_
 refine WS fun _ hK40=>rS (SX (q6 (vs:=(dq.cells (dq.mk (Value.func (.func 137) [].toArray [].toArray)))) 3 rfl rfl rfl B1 bJ rfl dc rfl) rfl rfl)<|AL rfl BV fun b41=>f_ rfl BF rfl<|RK hK40<|WS fun _ hK42=>rP 3 [0,1] (mc 0 rfl (mc 4 rfl mn)) ?_
 refine rS (CL (Ji l kA kC az cA cC bA bC hin sd sd) (bh [5,6,7,8]) rfl)<|rP 1 [] mn ?_
 refine RK hK42 ?_
 refine cP rfl (bk fun h43=>?_) (bj fun h43=>?_)
 ·refine WS fun _ hK44=>?_
  refine rP 1 [] mn ?_
  refine RK hK44<|an<|Q1 hQ rfl rfl rfl ?_
  first|(refine cI ?_; rw [(iP h10).2,jR (iP h10).1])|exact cI (eh htr fun h=>absurd h.head asm).symm|exact cI (eh htr fun h=>absurd h.clock asm).symm|exact cI (eh htr fun h=>absurd h.lJ asm).symm|exact cI (eh htr fun h=>absurd h.wc asm).symm|exact cI (kF htr (fG asm asm asm asm)).symm
 refine bZ<|ax<|KK hK39<|ak<|rS (SX (cb (r:= .int .i64 4) rfl rfl rfl (g8 ⟨dc,dc⟩)) rfl rfl)<|rP 1 [] mn ?_
 refine RK hR36<|ek fun R45 hR45=>WS fun _ hK46=>rS (SX (cb (r:= .bool false) rfl rfl rfl gH) rfl rfl)<|RK hK46<|ai fun _ hK47=>aW rfl<|bp<|ae<|ae ?_
 refine au<|KK hK7<|WS fun _ hK48=>rP 1 [] mn ?_
 refine RK hK48<|an<|Q1 hQ rfl rfl rfl ?_
 first|(refine cI ?_; rw [(iP h10).2,jR (iP h10).1])|exact cI (eh htr fun h=>absurd h.head asm).symm|exact cI (eh htr fun h=>absurd h.clock asm).symm|exact cI (eh htr fun h=>absurd h.lJ asm).symm|exact cI (eh htr fun h=>absurd h.wc asm).symm|exact cI (kF htr (fG asm asm asm asm)).symm
theorem zd (lo hi:Int) (f:Value) (p:Int→Bool) (X:aq) (r:Int) (hf: ∀ x0,0≤x0∧x0<hi→Ev Tryz.prog f [.int .i64 x0] [X] (.bool (p x0))) (hb:0≤lo∧lo≤r∧r≤hi∧hi≤100000000) (hno: ∀ x,lo≤x→x<r→p x=false) (hyes: ∀ x,r≤x→x<hi→p x=true):
 eu Tryz.prog 216 [(vI lo),(vI hi),f] [X] (vI r):=by
 refine bu kr Tryz.func216 rfl rfl fun w0 Q hQ hN=>?_
 try dsimp only
 refine WS fun _ hK1=>rP 1 [] mn ?_
 refine RK hK1<|ai fun _ hK2=>av ?_
 have hinit:(lo≤lo∧lo≤r)∧(r≤hi∧hi≤hi):=by first|trivial|omega|(refine ⟨?_,?_⟩<;>first|trivial|omega|simp)
 refine cp (ι:={z:Int×Int // (lo≤z.1∧z.1≤r)∧(r≤z.2∧z.2≤hi)}) (fun z=>[(0,(vI z.1.1)),(1,(vI z.1.2)),(2,f)]) (fun z=>[X.ro]) (fun z=>(z.1.2-z.1.1).toNat) ⟨(lo,hi),hinit⟩ (aL rfl) (aG [0]) ?_
 clear hinit
 rintro ⟨⟨a,b⟩,⟨hl0_0,hl0_1⟩⟩ J3 hJ3
 try dsimp only at hl0_0 hl0_1
 try dsimp only
 refine ai fun _ hK4=>WS fun _ hK5=>rP 3 [] mn ?_
 refine RK hK5 ?_
 refine bM rfl (aQ fun h6=>?_) (aP fun h6=>?_)
 ·refine bp ?_
  refine ae<|ae<|au<|KK hK2<|WS fun _ hK9=>rP 2 [] mn ?_
  refine RK hK9<|an<|Q1 hQ rfl rfl rfl ?_
  exact cI om
 refine WK hK4<|av<|WS fun _ hK7=>rP 4 [] mn ?_
 refine rS (BI rfl (o6 om om om))<|rP 2 [] mn ?_
 refine RK hK7<|WS fun _ hK8=>rP 2 [] mn ?_
 refine rS (SX (sr rfl rfl rfl (hf (a+((b-a)/2)) om) (bh [0])) rfl rfl)<|RK hK8 ?_
 refine cP rfl (fun hp=>?_) (fun hp=>?_)
 ·refine ak ?_
  refine rP 2 [] mn ?_
  refine aB<|ax ?_
  refine aN (hJ3 ⟨(a,(a+((b-a)/2))),(by dsimp only; rcases Int.lt_or_le (a+(b-a)/2) r with q|q; (have q2:=hno _ om q; first|(refine ⟨⟨om,om⟩,om,om⟩)|(rw [q2] at hp; cases hp)); (have q2:=hyes _ q om; first|(refine ⟨⟨om,om⟩,om,om⟩)|(rw [q2] at hp; cases hp)))⟩ _ _ _ rfl (by simp only []; omega) (aL rfl) (aG [0]))
 refine ak<|rP 3 [] mn ?_
 refine aB<|ax ?_
 refine aN (hJ3 ⟨(((a+((b-a)/2))+1),b),(by dsimp only; rcases Int.lt_or_le (a+(b-a)/2) r with q|q; (have q2:=hno _ om q; first|(refine ⟨⟨om,om⟩,om,om⟩)|(rw [q2] at hp; cases hp)); (have q2:=hyes _ q om; first|(refine ⟨⟨om,om⟩,om,om⟩)|(rw [q2] at hp; cases hp)))⟩ _ _ _ rfl (by simp only []; omega) (aL rfl) (aG [0]))
theorem Et (u:Int) (c:al) (sA:OA) (sC g1:Nat) (s:aM) (g2:Nat) (hc:eJ c) (hu:0≤u∧u≤90000000):
 eu Tryz.prog 217 [(vI u),(vP g1),(vP g2)] [(rd sA c.aR.length 3 (c.aR.map cR.cells)),(br g1 119 (cy.cells (cy.mk c.cJ (bB.mk sA c.aR.length sC)))),(br g2 165 (aM.cells s))] (vB (decide (s.Read≤u+(gN c u).Hi))):=by
 have hab:=pC hc hu
 refine bu kr Tryz.func217 rfl rfl fun w0 Q hQ hN=>?_
 try dsimp only
 refine WS fun _ hK1=>rP 1 [] mn ?_
 refine RK hK1<|ai fun _ hK2=>dC cD 10 kr<|dP 3 [] (mr 1 rfl mn) ?_
 refine dS (CL (BO c sA sC u hc hu) (bh [0]) rfl)<|dS (SX (pR (v:=(vI ((gN c u).Hi))) rfl rfl gp ET rfl) rfl rfl)<|dP 5 [] (mr 2 rfl mn) ?_
 refine cO<|RK hK2<|an ?_
 exact Q1 hQ rfl rfl rfl rfl
theorem Ft (u:Int) (c:al) (sA:OA) (sC g1:Nat) (s:aM) (g2:Nat) (hc:eJ c) (hu:0≤u∧u≤90000000):
 eu Tryz.prog 219 [(vI u),(vP g1),(vP g2)] [(rd sA c.aR.length 3 (c.aR.map cR.cells)),(br g1 119 (cy.cells (cy.mk c.cJ (bB.mk sA c.aR.length sC)))),(br g2 165 (aM.cells s))] (vB (decide (s.Read<u+(gN c u).Lo))):=by
 have hab:=pC hc hu
 refine bu kr Tryz.func219 rfl rfl fun w0 Q hQ hN=>?_
 try dsimp only
 refine WS fun _ hK1=>rP 1 [] mn ?_
 refine RK hK1<|ai fun _ hK2=>dC cD 10 kr<|dP 3 [] (mr 1 rfl mn) ?_
 refine dS (CL (BO c sA sC u hc hu) (bh [0]) rfl)<|dS (SX (pR (v:=(vI ((gN c u).Lo))) rfl rfl gp Fi rfl) rfl rfl)<|dP 5 [] (mr 2 rfl mn) ?_
 refine cO<|RK hK2<|an ?_
 exact Q1 hQ rfl rfl rfl rfl
theorem Ew (l:aV) (kA:OA) (kC:Nat) (az:List RA) (cA:OA) (cC:Nat) (bA:OA) (bC:Nat) (s:aM) (hin:eN l az) (hok:kR l) (hs:(0≤s.fO∧s.fO≤(l.ab.length:Int)-1)∧0≤s.Read∧s.Read≤86400000):
 eu Tryz.prog 208 [(vA (cE.cells (jx l kA kC cA cC bA bC))),(vA (aM.cells s))] [(rd kA l.aH.length 9 (l.aH.map ah.cells)),(rd cA l.aj.length 2 (List.zipWith al.cells l.aj az)),(du (aU al.fK l.aj az)),(rd bA l.ab.length 4 (l.ab.map bx.cells))] (vA (aa.cells (cH l s))):=by
 have htk:=hin.r_
 have hck:=hin.se
 have has:=hin.qa
 have hbm:=hin.sb
 refine bu kr Tryz.func208 rfl rfl fun w0 Q hQ hN=>?_
 try dsimp only
 refine WS fun _ hK1=>fP rfl fun b2=>fP rfl fun b3=>AL rfl cV fun b4=>RK hK1<|ai fun _ hK5=>ep cD [11,12] [] [] [0,1,2,3,4,5,6] [] rfl rfl rfl rfl rfl<|eS rfl (FA 2 rfl gp rfl)<|eS rfl (L1 (vS cA l.aj.length cC) 2 rfl bJ rfl rfl)<|eS rfl (FA 3 rfl gp rfl) ?_
 refine eS rfl (L1 (vS bA l.ab.length bC) 2 rfl bJ rfl rfl)<|eS rfl (FA 0 rfl gp rfl)<|eS rfl (L1 (vI s.fO) 1 rfl bJ rfl rfl) ?_
 obtain ⟨y,hy⟩:=aO l.ab ((s.fO).toNat) om
 have hym:=bI bx.cells hy
 refine eS rfl (IA ((s.fO).toNat) rfl (aA 6 rfl) wi dc om om)<|eS rfl (mT ((((s.fO).toNat)*4)+3) rfl (aA 6 rfl) (Nat.mul_pos om dc) gp rfl)<|eS rfl (gU ((s.fO).toNat) 3 (vI y.jK) rfl bJ (aA 6 rfl) hym rfl dc rfl) ?_
 have hyb:=(hok.lJ _ (aw hy)).2
 obtain ⟨x,hx⟩:=aO l.aj ((y.jK).toNat) om
 obtain ⟨xa,hxa⟩:=aO az ((y.jK).toNat) om
 have hxm:(List.zipWith al.cells l.aj az)[(y.jK).toNat]? =some (al.cells x xa):=gn hx hxa
 refine eS rfl (IA ((y.jK).toNat) rfl (aA 4 rfl) F_ dc om om)<|eS rfl (n9 ((y.jK).toNat) 0 (cy.cells (cy.mk x.cJ (bB.mk xa.1 x.aR.length xa.2))) rfl bJ (aA 4 rfl) hxm rfl dc rfl rfl)<|fp rfl<|cr rfl fun T6 hT6=>AL rfl IB fun b7=>?_
 refine aB (hT6 _ _ (aG [1,2,3,4,5,6,7]) ?_)
 refine cr rfl fun T8 hT8=>f_ rfl IY rfl ?_
 refine aB (hT8 _ _ (aG [1,2,3,4,5,6,7]) ?_)
 refine gh rfl<|KK hK5<|WS fun _ hK9=>?_
 have hxo:=hok.clock _ (aw hx)
 have hfl:=hP (p:=gj x s.Read) (n:=86400001)
 have hfh:=hP (p:=gi x s.Read) (n:=86400001)
 refine rS (FU rfl)<|rS (CL (zd 0 86400001 (Value.func (.func 217) [].toArray [(vP b7),(vP b3)].toArray) (fun u10=>(decide (s.Read≤u10+(gN x u10).Hi))) (du [(rd xa.1 x.aR.length 3 (x.aR.map cR.cells)),(br b7 119 (cy.cells (cy.mk x.cJ (bB.mk xa.1 x.aR.length xa.2)))),(br b3 165 (aM.cells s))]) (eH (gj x s.Read) 86400001) (by intro u10 _; exact ob (fi:=[]) (ca:=[(vP b7),(vP b3)]) (mW (Et u10 x xa.1 xa.2 b7 s b3 (by first|assumption|omega) (by first|assumption|omega)) (JS 0 1 2 rfl rfl rfl rfl rfl rfl))) sd (by intro z h0 hz; exact (kq hxo h0 om).1 hz) (by intro z hz h1; exact (kq hxo om h1).2.1 hz)) (bq (mY (bq (show ji _ (rd xa.1 x.aR.length 3 (x.aR.map cR.cells)).holds from (dA 6 rfl (cm hx hxa (by simp [al.fK]))))<|cw 0 rfl rfl<|cw 2 rfl rfl<|aT))<|aT) rfl)<|rS (FU rfl)<|rS (CL (zd 0 86400001 (Value.func (.func 219) [].toArray [(vP b7),(vP b3)].toArray) (fun u11=>(decide (s.Read<u11+(gN x u11).Lo))) (du [(rd xa.1 x.aR.length 3 (x.aR.map cR.cells)),(br b7 119 (cy.cells (cy.mk x.cJ (bB.mk xa.1 x.aR.length xa.2)))),(br b3 165 (aM.cells s))]) (eH (gi x s.Read) 86400001) (by intro u11 _; exact ob (fi:=[]) (ca:=[(vP b7),(vP b3)]) (mW (Ft u11 x xa.1 xa.2 b7 s b3 (by first|assumption|omega) (by first|assumption|omega)) (JS 0 1 2 rfl rfl rfl rfl rfl rfl))) sd (by intro z h0 hz; exact (kq hxo h0 om).2.2.1 hz) (by intro z hz h1; exact (kq hxo om h1).2.2.2 hz)) (bq (mY (bq (show ji _ (rd xa.1 x.aR.length 3 (x.aR.map cR.cells)).holds from (dA 6 rfl (cm hx hxa (by simp [al.fK]))))<|cw 0 rfl rfl<|cw 2 rfl rfl<|aT))<|aT) rfl)<|rP 1 [] mn ?_
 refine rS (SX (bg (xs:=[(0,.tmp 18),(1,.tmp 21)]) (cs:=(aa.cells (aa.mk (eH (gj x s.Read) 86400001) ((eH (gi x s.Read) 86400001)-1)))) rfl rfl (bf fg rfl)) rfl rfl)<|oV rfl bY rfl<|RK hK9<|an ?_
 refine hQ _ _ _ (aZ (vs:=[(vA (aa.cells (aa.mk (eH (gj x s.Read) 86400001) ((eH (gi x s.Read) 86400001)-1))))]) ⟨⟨_,rfl,.inl ⟨_,_,bJ,bQ (vs:=(aa.cells (aa.mk (eH (gj x s.Read) 86400001) ((eH (gi x s.Read) 86400001)-1)))) 1 rfl rfl,rfl,rfl⟩⟩,trivial⟩ fun w hs=>eM ?_ hs)
 show (vA (aa.cells (aa.mk (eH (gj x s.Read) 86400001) ((eH (gi x s.Read) 86400001)-1))))=(vA (aa.cells (cH l s)))
 clear hs w hQ hN hK9 hT8 T8 hT6 T6 hK5 hK1
 unfold cH yR; rw [uY hy hx]
end
section
open Go.RowKit
/-- a map, or nil -/
def oC (o:Option Nat):List Value:=[Value.map o]
theorem xS {α:Type}: ∀ {ms:List α} {asl:List Nat},ms.length=asl.length→List.zipWith eV ms asl=(asl.map some).map oC
 |[],[],_=>rfl
 |[],_::_,h=>by simp at h
 |_::_,[],h=>by simp at h
 |x::ms,y::asl,h=>by simp only [List.zipWith_cons_cons,List.map_cons,xS (ms:=ms) (asl:=asl) (by simpa using h)]; rfl
/-- what stands for all but one -/
def il {M A:Type} (f:M→A→List aq) (ms:List M) (asl:List A) (k:Nat):List aq:=aU f (ms.take k) (asl.take k)++aU f (ms.drop (k+1)) (asl.drop (k+1))
theorem pY {M A:Type} {f:M→A→List aq}: ∀ {ms:List M} {asl:List A} {k:Nat} {m:M} {a:A},ms[k]? =some m→asl[k]? =some a→(aU f ms asl).Perm (f m a++il f ms asl k)
 |[],_,k,m,a,h,_=>by simp at h
 |_::_,[],k,m,a,_,h=>by simp at h
 |x::ms,y::asl,0,m,a,h,h2=>by
  simp at h h2; subst h h2
  simp [il,aU]
 |x::ms,y::asl,k+1,m,a,h,h2=>by
  have ih:=pY (f:=f) (ms:=ms) (asl:=asl) (k:=k) (by simpa using h) (by simpa using h2)
  show (f x y++aU f ms asl).Perm (f m a++il f (x::ms) (y::asl) (k+1))
  have e:il f (x::ms) (y::asl) (k+1)=f x y++il f ms asl k:=by simp [il,aU,List.append_assoc]
  rw [e]
  refine (ih.append_left (f x y)).trans ?_
  rw [← List.append_assoc,← List.append_assoc]
  exact List.perm_append_comm.append_right _
theorem DP {M A:Type} {f:M→A→List aq} {ms:List M} {asl:List A} {k:Nat} {m':M}:il f (ms.set k m') asl k=il f ms asl k:=by
 unfold il
 rw [List.take_set_of_le (Nat.le_refl k),List.drop_set_of_lt (Nat.lt_succ_self k)]
theorem sw {S:BS} {w0 w:World} {C X Y:List aq} (hp:X.Perm Y) (h:St S w0 (bV X::C) w):St S w0 (bV Y::C) w:=by
 have h1:St S w0 (X++C) w:=h.jr
 exact (h1.perm (hp.append_right C)).tied
theorem St.out {M A:Type} {f:M→A→List aq} {S:BS} {w0 w:World} {C:List aq} {ms:List M} {asl:List A} {k:Nat} {m:M} {a:A} {X:aq} (hm:ms[k]? =some m) (ha:asl[k]? =some a) (hf:f m a=[X]) (h:St S w0 (bV (aU f ms asl)::C) w):St S w0 (X::bV (il f ms asl k)::C) w:=by
 have h1:=(sw (pY hm ha) h).jr
 rw [hf] at h1
 have h2:St S w0 (il f ms asl k++(X::C)) w:=h1.perm (List.perm_middle (a:=X) (l₁:=il f ms asl k) (l₂:=C)).symm
 exact h2.tied.perm (List.Perm.swap _ _ _)
theorem St.back {M A:Type} {f:M→A→List aq} {S:BS} {w0 w:World} {C:List aq} {ms:List M} {asl:List A} {k:Nat} {m':M} {a:A} {X:aq} (hk:k<ms.length) (ha:asl[k]? =some a) (hf:f m' a=[X]) (h:St S w0 (X::bV (il f ms asl k)::C) w):St S w0 (bV (aU f (ms.set k m') asl)::C) w:=by
 have h1:St S w0 (bV (il f ms asl k)::X::C) w:=h.perm (List.Perm.swap _ _ _)
 have h2:=h1.jr
 have h3:St S w0 ((f m' a++il f (ms.set k m') asl k)++C) w:=by
  rw [hf,DP]
  exact h2.perm (List.perm_middle (a:=X) (l₁:=il f ms asl k) (l₂:=C))
 exact sw (pY (List.getElem?_set_self hk) ha).symm h3.tied
section
variable {E:e9} {ops:Array Oper} {Q:dj} {rest:List Oper} {D:List Deferred} {L:List (Nat×Value)} {C C1:List aq}
variable {M A:Type} {f:M→A→List aq} {ms:List M} {asl:List A} {k:Nat} {m:M} {a:A} {X:aq}
theorem B6 {c:Code} (i:Nat) (hm:ms[k]? =some m) (ha:asl[k]? =some a) (hf:f m a=[X]) (hn:decide (i::(List.range C.length).filter fun k=>k != i).Nodup=true) (hC:lH C (i::(List.range C.length).filter fun k=>k != i)=bV (aU f ms asl)::C1)
 (h:WJ E c Q D L (X::bV (il f ms asl k)::C1)):WJ E c Q D L C:=fun a w hf' hs=>h a w hf' (St.out hm ha hf (St.lH _ hn hC hs))
theorem EV {K:Act→World→Prop} (i j:Nat) (hk:k<ms.length) (ha:asl[k]? =some a) (hf:f m a=[X]) (hn:decide (j::i::(List.range C.length).filter fun k=>k != i&&k != j).Nodup=true) (hC:lH C (j::i::(List.range C.length).filter fun k=>k != i&&k != j)=X::bV (il f ms asl k)::C1)
 (h:KJ E K D L (bV (aU f (ms.set k m) asl)::C1)):KJ E K D L C:=fun a w hf' hs=>h a w hf' (St.back hk ha hf (St.lH _ hn hC hs))
end
end
section
open Go.RowKit
structure GF (S:BS) (w0:World) (X:aq) (C0:List aq) (w:World) (S':BS):Prop where
 st:St S w0 (X::C0) w
 w_: ∀ b,S'.w b↔ ∃ A∈C0,A.wf b
theorem Bc {A B:aq} (h:z8 A B):z8 A.ro B:=fun b h1 h2=>⟨fun h=>h,(h b h1 h2).2⟩
theorem zi {E:e9} {c:Code} {Q:dj} {D:List Deferred} {L:List (Nat×Value)} {C C0:List aq} {X:aq} (i:Nat) (hn:decide (i::(List.range C.length).filter fun k=>k != i).Nodup=true) (hC:lH C (i::(List.range C.length).filter fun k=>k != i)=X::C0)
 (h: ∀ w S',GF E.S E.w0 X C0 w S'→WJ ⟨E.P,E.r,E.n,S',w⟩ c Q D L (X.ro::C0)):WJ E c Q D L C:=fun a w hf hs=>by
 have h0:=St.lH _ hn hC hs
 obtain ⟨p1,p2⟩:=List.pairwise_cons.1 h0.sep
 refine h w ⟨fun b=> ∃ A∈C0,A.wf b,fun _=>True⟩ ⟨h0,fun b=>Iff.rfl⟩ a w hf ⟨dD.refl _ _,fun A hA=>?_,List.Pairwise.cons (fun B hB=>Bc (p1 B hB)) p2,fun A hA b hb=>?_,fun A hA b hb=> .inr trivial⟩
 ·rcases List.mem_cons.1 hA with rfl|hA
  ·exact h0.holds X (cZ ..)
  ·exact h0.holds A (dY _ hA)
 ·rcases List.mem_cons.1 hA with rfl|hA
  ·exact hb.elim
  ·exact .inr ⟨A,hA,hb⟩
theorem x5 {E:e9} {S':BS} {w:World} {K:Act→World→Prop} {D:List Deferred} {L:List (Nat×Value)} {C0 C1 C2:List aq} {X:aq} (hz:GF E.S E.w0 X C0 w S') (is:List Nat) (hn:decide is.Nodup=true) (hC:lH C2 is=C1) (hwr:C1.all (·.wr)=true)
 (h:KJ E K D L (X::C1)):KJ ⟨E.P,E.r,E.n,S',w⟩ K D L C2:=fun a w' hf hs=>by
 have h1:=St.lH is hn hC hs
 have h0:=hz.st
 obtain ⟨p1,p2⟩:=List.pairwise_cons.1 h0.sep
 have hno: ∀ b,X.eX b→ ¬ S'.w b:=fun b hb hw=>by
  obtain ⟨A,hA,hw⟩:=(hz.w_ b).1 hw
  exact (p1 A hA b hb (A.j3 b hw)).2 hw
 have hown: ∀ b,S'.w b→E.w0.heap.size≤b∨E.S.w b:=fun b hb=>by
  obtain ⟨A,hA,hw⟩:=(hz.w_ b).1 hb
  exact h0.own A (dY _ hA) b hw
 have hfr: ∀ A∈C1,∀ b,A.eX b→w.heap.size≤b∨S'.w b:=fun A hA b hb=>h1.own A hA b (A.whole (List.all_eq_true.1 hwr A hA) b hb)
 refine h a w' hf ⟨?_,fun A hA=>?_,List.Pairwise.cons (fun B hB b hb hb'=>?_) h1.sep,fun A hA b hb=>?_,fun A hA b hb=>?_⟩
 ·refine ⟨h1.keeps.os.trans h0.keeps.os,h1.keeps.tape.trans h0.keeps.tape,h1.keeps.output.trans h0.keeps.output,Nat.le_trans h0.keeps.size h1.keeps.size,fun k hk hn'=>?_⟩
  refine (h1.keeps.block k (Nat.lt_of_lt_of_le hk h0.keeps.size) fun hw=>?_).trans (h0.keeps.block k hk hn')
  rcases hown k hw with q|q
  ·omega
  ·exact hn' q
 ·rcases List.mem_cons.1 hA with rfl|hA
  ·have hh:=h0.holds A (cZ ..)
   exact A.lh w w' (fun b hb=>h1.keeps.block b (A.lt w hh b hb) (hno b hb)) hh
  ·exact h1.holds A hA
 ·exfalso
  have hl:=X.lt w (h0.holds X (cZ ..)) b hb
  rcases hfr B hB b hb' with q|q
  ·omega
  ·exact hno b hb q
 ·rcases List.mem_cons.1 hA with rfl|hA
  ·exact h0.own A (cZ ..) b hb
  ·rcases h1.own A hA b hb with q|q
   ·exact .inl (Nat.le_trans h0.keeps.size q)
   ·exact hown b q
 ·rcases List.mem_cons.1 hA with rfl|hA
  ·exact h0.seen A (cZ ..) b hb
  ·rcases hfr A hA b hb with q|q
   ·exact .inl (Nat.le_trans h0.keeps.size q)
   ·obtain ⟨B,hB,hw⟩:=(hz.w_ b).1 q
    exact h0.seen B (dY _ hB) b (B.j3 b hw)
/-- put back, as it was -/
theorem C4 {M A:Type} {f:M→A→List aq} {S:BS} {w0 w:World} {C:List aq} {ms:List M} {asl:List A} {k:Nat} {m:M} {a:A} {X:aq} (hm:ms[k]? =some m) (ha:asl[k]? =some a) (hf:f m a=[X]) (h:St S w0 (X::bV (il f ms asl k)::C) w):St S w0 (bV (aU f ms asl)::C) w:=by
 have h1:St S w0 (bV (il f ms asl k)::X::C) w:=h.perm (List.Perm.swap _ _ _)
 have h3:St S w0 ((f m a++il f ms asl k)++C) w:=by
  rw [hf]
  exact h1.jr.perm (List.perm_middle (a:=X) (l₁:=il f ms asl k) (l₂:=C))
 exact sw (pY hm ha).symm h3.tied
theorem Fa {E:e9} {K:Act→World→Prop} {D:List Deferred} {L:List (Nat×Value)} {C C1:List aq} {M A:Type} {f:M→A→List aq} {ms:List M} {asl:List A} {k:Nat} {m:M} {a:A} {X:aq} (i j:Nat) (hm:ms[k]? =some m) (ha:asl[k]? =some a) (hf:f m a=[X])
 (hn:decide (j::i::(List.range C.length).filter fun k=>k != i&&k != j).Nodup=true) (hC:lH C (j::i::(List.range C.length).filter fun k=>k != i&&k != j)=X::bV (il f ms asl k)::C1)
 (h:KJ E K D L (bV (aU f ms asl)::C1)):KJ E K D L C:=fun a w hf' hs=>h a w hf' (C4 hm ha hf (St.lH _ hn hC hs))
theorem wF {M A:Type} {f:M→A→List aq} {ms:List M} {asl:List A} {m:M} {a:A} {X:aq} (hl:ms.length=asl.length) (hf:f m a=[X]):aU f ms asl++[X]=aU f (ms++[m]) (asl++[a]):=by
 rw [lP hl,← hf]; simp [aU]
theorem wY {E:e9} {K:Act→World→Prop} {D:List Deferred} {L:List (Nat×Value)} {C C1:List aq} {M A:Type} {f:M→A→List aq} {ms:List M} {asl:List A} {m:M} {a:A} {X:aq} (i j:Nat) (hf:f m a=[X])
 (hn:decide (j::i::(List.range C.length).filter fun k=>k != i&&k != j).Nodup=true) (hC:lH C (j::i::(List.range C.length).filter fun k=>k != i&&k != j)=X::bV (aU f ms asl)::C1)
 (h:KJ E K D L (bV (aU f (m::ms) (a::asl))::C1)):KJ E K D L C:=fun b w hf' hs=>by
 have h0:=St.lH _ hn hC hs
 have h1:St E.S E.w0 (bV (aU f ms asl)::X::C1) w:=h0.perm (List.Perm.swap _ _ _)
 have h2:St E.S E.w0 (aU f (m::ms) (a::asl)++C1) w:=by
  show St E.S E.w0 ((f m a++aU f ms asl)++C1) w
  rw [hf]
  exact h1.jr.perm (List.perm_middle (a:=X) (l₁:=aU f ms asl) (l₂:=C1))
 exact h b w hf' h2.tied
end
section
open Go.RowKit
abbrev lk (r:Nat):aq:=kb r (.deferred (some []))
theorem H5 (rs:List Nat):(bV (rs.map lk)).wr=true:=by
 show (rs.map lk).all (·.wr)=true
 rw [fz]
 intro X hX
 obtain ⟨r,_,rfl⟩:=List.mem_map.1 hX
 rfl
theorem ux {E:e9} {c:Code} {Q:dj} {D:List Deferred} {L:List (Nat×Value)} {C:List aq} {ι:Type} (Di:ι→List Deferred) (Li:ι→List (Nat×Value)) (Ci:ι→List aq) (μ:ι→Nat) (x0:ι)
 (hD:D=Di x0) (h0:dK L (Li x0)) (hC: ∀ w,St E.S E.w0 C w→St E.S E.w0 (Ci x0) w)
 (round: ∀ x (J:Act→World→Prop),(∀ y D' L' C',D'=Di y→μ y<μ x→dK L' (Li y)→(∀ w,St E.S E.w0 C' w→St E.S E.w0 (Ci y) w)→KJ E J D' L' C')→WJ E c (Exit.then J Q) (Di x) (Li x) (Ci x)):WJ E (.loop c) Q D L C:=by
 intro a w hf hs
 subst hD
 have hst: ∃ x,Fr E.n (Di x) (Li x) a∧St E.S E.w0 (Ci x) w:=⟨x0,hf.sub h0,hC w hs⟩
 clear hf hs
 have key: ∀ (m:Nat) (a:Act) (w:World),(∃ x,μ x=m∧Fr E.n (Di x) (Li x) a∧St E.S E.w0 (Ci x) w)→(Code.loop c).wpIn (Fw E.r) 0 E.P Q a w:=by
  intro m a w hx
  refine wpIn_loop (fun a w=> ∃ x,Fr E.n (Di x) (Li x) a∧St E.S E.w0 (Ci x) w) (fun a w=>leastOf fun k=> ∃ x,μ x=k∧Fr E.n (Di x) (Li x) a∧St E.S E.w0 (Ci x) w) (by obtain ⟨x,_,h⟩:=hx; exact ⟨x,h⟩) ?_
  intro a w hx
  have hex: ∃ k,∃ x,μ x=k∧Fr E.n (Di x) (Li x) a∧St E.S E.w0 (Ci x) w:=by obtain ⟨x,h⟩:=hx; exact ⟨_,x,rfl,h⟩
  obtain ⟨x,hxm,hxf,hxs⟩:=(leastOf_spec hex).1
  refine round x _ ?_ a w hxf hxs
  intro y D' L' C' hD hlt hsub hcc a' w' hf' hs'
  subst hD
  refine ⟨⟨y,hf'.sub hsub,hcc _ hs'⟩,?_⟩
  rw [← hxm]
  exact Nat.lt_of_le_of_lt ((leastOf_spec ⟨_,y,rfl,hf'.sub hsub,hcc _ hs'⟩).2 _ ⟨y,rfl,hf'.sub hsub,hcc _ hs'⟩) hlt
 obtain ⟨x,h⟩:=hst
 exact key _ a w ⟨x,rfl,h⟩
theorem St.Nf {S:BS} {w0 w:World} {C X:List aq} {A:aq} (h:St S w0 (A::bV X::C) w):St S w0 (bV (A::X)::C) w:=by
 have h1:St S w0 (bV X::A::C) w:=h.perm (List.Perm.swap _ _ _)
 have h2:St S w0 ((A::X)++C) w:=h1.jr.perm (List.perm_middle (a:=A) (l₁:=X) (l₂:=C))
 exact h2.tied
theorem ER {E:e9} {K:Act→World→Prop} {D:List Deferred} {L:List (Nat×Value)} {C C1 X:List aq} {A:aq} (i j:Nat) (hn:decide (j::i::(List.range C.length).filter fun k=>k != i&&k != j).Nodup=true) (hC:lH C (j::i::(List.range C.length).filter fun k=>k != i&&k != j)=A::bV X::C1)
 (h:KJ E K D L (bV (A::X)::C1)):KJ E K D L C:=fun a w hf hs=>h a w hf ((St.lH _ hn hC hs).Nf)
theorem Bp {E:e9} {K:Act→World→Prop} {D:List Deferred} {L:List (Nat×Value)} {C:List aq} (h:KJ E K D L (bV []::C)):KJ E K D L C:=fun a w hf hs=>h a w hf hs.JX
theorem J1 {E:e9} {K:Act→World→Prop} {D:List Deferred} {L:List (Nat×Value)} (C1 C2:List aq) (h:KJ E K D L (bV C1::C2)):KJ E K D L (C1++C2):=fun a w hf hs=>h a w hf (St.tied hs)
theorem HL {E:e9} {fn:Func} {R:Ending→World→Prop} {D:List Deferred} {L:List (Nat×Value)} {C C1:List aq} {rs:List Nat} (i:Nat) (hn:decide (i::(List.range C.length).filter fun k=>k != i).Nodup=true) (hC:lH C (i::(List.range C.length).filter fun k=>k != i)=bV (rs.map lk)::C1)
 (h:LJ E fn R D L C1):LJ E fn R (rs.map kO++D) L C:=by
 have key: ∀ rs:List Nat,LJ E fn R (rs.map kO++D) L (bV (rs.map lk)::C1):=by
  intro rs
  induction rs with
  |nil=>exact fun a w hf hs=>h a w hf (hs.take (List.sublist_cons_self _ _))
  |cons r rs ih=>
   have h2:LJ E fn R (kO r::(rs.map kO++D)) L (lk r::bV (rs.map lk)::C1):=oh 0 rfl rfl (fun a w hf hs=>ih a w hf (hs.take (List.sublist_cons_self _ _)))
   intro a w hf hs
   refine h2 a w hf ?_
   have h3:St E.S E.w0 ((lk r::rs.map lk)++C1) w:=St.jr (C1:=lk r::rs.map lk) hs
   have h4:St E.S E.w0 (rs.map lk++(lk r::C1)) w:=h3.perm (List.perm_middle (a:=lk r) (l₁:=rs.map lk) (l₂:=C1)).symm
   exact h4.tied.perm (List.Perm.swap _ _ _)
 exact fun a w hf hs=>key rs a w hf (St.lH _ hn hC hs)
theorem FE {E:e9} {fn:Func} {R:Ending→World→Prop} {L:List (Nat×Value)} {C C1:List aq} {rs:List Nat} (i:Nat) (hn:decide (i::(List.range C.length).filter fun k=>k != i).Nodup=true) (hC:lH C (i::(List.range C.length).filter fun k=>k != i)=bV (rs.map lk)::C1)
 (h:LJ E fn R [] L C1):LJ E fn R (rs.map kO) L C:=by
 have:=HL (D:=[]) i hn hC h
 rwa [List.append_nil] at this
end
section
open Go.RowKit
theorem nG (fs:List FM) (fb:List Nat):(bV (aU lx fs fb)).wr=true:=by
 show (aU lx fs fb).all (·.wr)=true
 rw [fz]
 intro X hX
 obtain ⟨k,m,a,_,_,h⟩:=pb hX
 simp only [lx,bU] at h
 subst h; rfl
theorem pD (fs:List TM) (fb:List Nat):(bV (aU n8 fs fb)).wr=true:=by
 show (aU n8 fs fb).all (·.wr)=true
 rw [fz]
 intro X hX
 obtain ⟨k,m,a,_,_,h⟩:=pb hX
 simp only [n8,bU] at h
 subst h; rfl
end
section
def dL (bl:List Nat) (n:Nat):List (Option Nat):=bl.map some++List.replicate (n-bl.length) none
def gP (bl:List Nat) (n:Nat):List (Option Nat):=List.replicate (n-bl.length) none++bl.map some
theorem pQ {bl:List Nat} {n:Nat} (h:bl.length≤n):(dL bl n).length=n:=by simp [dL]; omega
theorem w5 {bl:List Nat} {n:Nat} (h:bl.length≤n):(gP bl n).length=n:=by simp [gP]; omega
theorem xp {n:Nat}:List.replicate n none=dL [] n:=by simp [dL]
theorem CV {n:Nat}:List.replicate n none=gP [] n:=by simp [gP]
theorem w8 {bl:List Nat} {n:Nat} (h:bl.length=n):dL bl n=bl.map some:=by simp [dL,h]
theorem Ds {bl:List Nat} {n:Nat} (h:bl.length=n):gP bl n=bl.map some:=by simp [gP,h]
theorem nN {bl:List Nat} {n k g:Nat} (h:bl[k]? =some g):(dL bl n)[k]? =some (some g):=by
 have hk:=(List.getElem?_eq_some_iff.1 h).1
 unfold dL
 rw [List.getElem?_append_left (by simpa using hk),fq,h]; rfl
theorem rU {bl:List Nat} {n k i g:Nat} (h:bl[i]? =some g) (hk:k=n-bl.length+i):(gP bl n)[k]? =some (some g):=by
 subst hk
 unfold gP
 rw [List.getElem?_append_right sm,fq,List.length_replicate,Nat.add_sub_cancel_left,h]; rfl
theorem s_ {bl:List Nat} {n k g:Nat} (hk:k=bl.length) (h:bl.length<n):(dL bl n).set k (some g)=dL (bl++[g]) n:=by
 subst hk
 unfold dL
 rw [List.set_append_right _ _ sm]
 have e:n-bl.length=(n-(bl++[g]).length)+1:=by simp; omega
 rw [e,List.replicate_succ]
 simp
theorem Db {bl:List Nat} {n k g:Nat} (hk:k+1+bl.length=n):(gP bl n).set k (some g)=gP (g::bl) n:=by
 unfold gP
 have e:n-bl.length=k+1:=by omega
 have e2:n-(g::bl).length=k:=by simp; omega
 rw [e,e2,List.set_append_left _ _ sm,List.replicate_succ',List.set_append_right _ _ sm]
 simp
theorem qn {l:List (Option Nat)} {k g:Nat} (h:l[k]? =some (some g)):(l.map oC)[k]? =some (oC (some g)):=by rw [fq,h]; rfl
theorem xP {α:Type} {l:List α} {x:α} {k:Nat} (h:k=l.length):(l++[x])[k]? =some x:=by subst h; simp
theorem FF {α:Type} {l:List α} {x y:α} {k:Nat} (h:l[k]? =some y):(l++[x])[k]? =some y:=by rw [List.getElem?_append_left (List.getElem?_eq_some_iff.1 h).1]; exact h
structure oO (w:bE) (fs:List FM):Prop where
 all: ∀ (b:Nat) m,fs[b]? =some m→rH m (fwd w b)∧(m.map (·.1)).Nodup
structure gC (w:bE) (k:Nat) (bs:List FM):Prop where
 all: ∀ (i:Nat) m,bs[i]? =some m→tG m (back w (k+i))∧(m.map (·.1)).Nodup
variable {w:bE} {b:Nat} {mb m left:List (ao×Int)} {o:Int×aa} {os:List (Int×aa)} {p:ao×Int}
theorem oO.first:oO w [[(⟨0,0⟩,w.Start)]]:=⟨fun b m h=>by
 match b with
 |0=>simp at h; subst h; exact ⟨CN,sm⟩
 |n+1=>simp at h⟩
theorem oO.add {fs:List FM} (h:oO w fs) (hl:fs.length=b+1) (hmb:fs[b]? =some mb) (hm:vp w b m) (hd:jA w b mb m left) (h0:left=[]):oO w (fs++[m]):=⟨fun i x hx=>by
 rcases Nat.lt_or_ge i fs.length with q|q
 ·rw [List.getElem?_append_left q] at hx; exact h.all i x hx
 ·rw [List.getElem?_append_right q] at hx
  have hi:i-fs.length=0:=by
   rcases Nat.eq_zero_or_pos (i-fs.length) with z|z
   ·exact z
   ·rw [List.getElem?_eq_none (by simp; omega)] at hx; cases hx
  rw [hi] at hx
  simp at hx; subst hx
  obtain rfl:i=b+1:=by omega
  have h1:=h.all b mb hmb
  exact ⟨GI h1.2 h1.1 hm.snd (hd.fin h0),hm.keys⟩⟩
theorem oO.ok {fs:List FM} (h:oO w fs) (hl:fs.length=w.n+1):vU w fs:=⟨hl,fun b m hm=>(h.all b m hm).1,fun b m hm=>(h.all b m hm).2⟩
theorem gC.none_:gC w b []:=⟨fun i m h=>by simp at h⟩
theorem gC.last (hb:w.n≤b):gC w b [[(⟨0,0⟩,w.fR)]]:=⟨fun i m h=>by
 match i with
 |0=>simp at h; subst h; exact ⟨E0 om,sm⟩
 |n+1=>simp at h⟩
theorem gC.add {bs:List FM} (h:gC w (b+1) bs) (hb:b<w.n) (hmb:bs[0]? =some mb) (hm:ua w b m) (hd:jo w b mb m left) (h0:left=[]):gC w b (m::bs):=⟨fun i x hx=>by
 match i with
 |0=>
  simp at hx; subst hx
  have h1:=h.all 0 mb hmb
  exact ⟨Gi hb h1.2 h1.1 hm.snd hm.zero (hd.fin h0),hm.keys⟩
 |n+1=>
  have:=h.all n x (by simpa using hx)
  rw [show b+1+n=b+(n+1) by omega] at this
  exact this⟩
theorem gC.ok {bs:List FM} (h:gC w 0 bs) (hl:bs.length=w.n+1):sU w bs:=⟨hl,fun b m hm=>by have:=(h.all b m hm).1; rwa [Nat.zero_add] at this,fun b m hm=>(h.all b m hm).2⟩
/-- on the way through one entry's options -/
structure mI (w:bE) (b:Nat) (mb left m:List (ao×Int)) (p:ao×Int) (os:List (Int×aa)):Prop where
 on:vp w b m
 rL:jA w b mb m left
 done:iA w b m p os
structure mB (w:bE) (b:Nat) (mb left m:List (ao×Int)) (p:ao×Int) (os:List (Int×aa)):Prop where
 on:ua w b m
 rL:jo w b mb m left
 done:iE w b m p os
theorem mI.start (h:vp w b m) (h2:jA w b mb m left):mI w b mb left m p []:=⟨h,h2,fun o ho=>by cases ho⟩
theorem mB.start (h:ua w b m) (h2:jo w b mb m left):mB w b mb left m p []:=⟨h,h2,fun o ho=>by cases ho⟩
theorem CW {q:ao×Int} (h:(m.lookup q.1).isSome=false∨q.2<(m.lookup q.1).getD 0):nY m q=eg m q.1 q.2:=by
 unfold nY
 cases e:m.lookup q.1 with
 |none=>rfl
 |some v=>rw [e] at h; simp at h; simp only; rw [if_pos h]
theorem Bj {q:ao×Int} (h:(m.lookup q.1).isSome=true) (h2: ¬ q.2<(m.lookup q.1).getD 0):nY m q=m:=by
 unfold nY
 cases e:m.lookup q.1 with
 |none=>rw [e] at h; cases h
 |some v=>rw [e] at h2; simp only [Option.getD_some] at h2; simp only; rw [if_neg h2]
theorem D6 {q:ao×Int} (h:(m.lookup q.1).isSome=false∨(m.lookup q.1).getD 0<q.2):nV m q=eg m q.1 q.2:=by
 unfold nV
 cases e:m.lookup q.1 with
 |none=>rfl
 |some v=>rw [e] at h; simp at h; simp only; rw [if_pos h]
theorem Bi {q:ao×Int} (h:(m.lookup q.1).isSome=true) (h2: ¬ (m.lookup q.1).getD 0<q.2):nV m q=m:=by
 unfold nV
 cases e:m.lookup q.1 with
 |none=>rw [e] at h; cases h
 |some v=>rw [e] at h2; simp only [Option.getD_some] at h2; simp only; rw [if_neg h2]
theorem j_ {t:ao} {v y:Int} (hy:w.oU[b]? =some y) (h:max (v+y) o.2.Lo≤min o.2.Hi w.fR):kh w b (t,v) o=some (c_ t (eL o.1),max (v+y) o.2.Lo):=by
 have e:=mJ hy
 subst e
 exact FT h
theorem qX {t:ao} {v y:Int} (hy:w.oU[b]? =some y) (h: ¬ max (v+y) o.2.Lo≤min o.2.Hi w.fR):kh w b (t,v) o=none:=by
 have e:=mJ hy
 subst e
 exact It h
theorem j9 {t:ao} {v y:Int} (hy:w.oU[b]? =some y) (h:o.2.Lo≤min v o.2.Hi):mS w b (t,v) o=some (c_ t (eL o.1),min v o.2.Hi-y):=by
 have e:=mJ hy
 subst e
 exact EL h
theorem mI.set {q:ao×Int} (h:mI w b mb left m p os) (hp:p∈fwd w b) (ho:o∈g7 w b) (he:kh w b p o=some q) (hs:(m.lookup q.1).isSome=false∨q.2<(m.lookup q.1).getD 0):mI w b mb left (eg m q.1 q.2) p (os++[o]):=by
 rw [← CW hs]
 exact ⟨h.on.add hp ho he,h.rL.lower tI,h.done.Ep he⟩
theorem mI.lh {q:ao×Int} (h:mI w b mb left m p os) (he:kh w b p o=some q) (hs:(m.lookup q.1).isSome=true) (h2: ¬ q.2<(m.lookup q.1).getD 0):mI w b mb left m p (os++[o]):=by
 have:=h.done.Ep he
 rw [Bj hs h2] at this
 exact ⟨h.on,h.rL,this⟩
theorem mI.skip (h:mI w b mb left m p os) (he:kh w b p o=none):mI w b mb left m p (os++[o]):=⟨h.on,h.rL,h.done.none_ he⟩
theorem mB.set {q:ao×Int} (hb:b<w.n) (h:mB w b mb left m p os) (hp:p∈back w (b+1)) (ho:o∈g7 w b) (he:mS w b p o=some q) (hs:(m.lookup q.1).isSome=false∨(m.lookup q.1).getD 0<q.2):mB w b mb left (eg m q.1 q.2) p (os++[o]):=by
 rw [← D6 hs]
 exact ⟨h.on.add hb hp ho he,h.rL.upper o9,h.done.Ep he⟩
theorem mB.lh {q:ao×Int} (h:mB w b mb left m p os) (he:mS w b p o=some q) (hs:(m.lookup q.1).isSome=true) (h2: ¬ (m.lookup q.1).getD 0<q.2):mB w b mb left m p (os++[o]):=by
 have:=h.done.Ep he
 rw [Bi hs h2] at this
 exact ⟨h.on,h.rL,this⟩
theorem mB.skip (h:mB w b mb left m p os) (he:mS w b p o=none):mB w b mb left m p (os++[o]):=⟨h.on,h.rL,h.done.none_ he⟩
theorem mI.next {t:ao} {v:Int} (hn:(left.map (·.1)).Nodup) (hm:(t,v)∈left) (h:mI w b mb left m (t,v) os) (ho: ∀ o∈g7 w b,o∈os):jA w b mb m (cj left t):=h.rL.next hn hm h.done ho
theorem mB.next {t:ao} {v:Int} (hn:(left.map (·.1)).Nodup) (hm:(t,v)∈left) (h:mB w b mb left m (t,v) os) (ho: ∀ o∈g7 w b,o∈os):jo w b mb m (cj left t):=h.rL.next hn hm h.done ho
theorem oO.mem {fs:List FM} (h:oO w fs) (hm:fs[b]? =some mb) (hp:p∈mb):p∈fwd w b:=(h.all b mb hm).1.1 _ _ ((eW (h.all b mb hm).2).1 hp)
theorem gC.MS {bs:List FM} {k:Nat} (h:gC w k bs) (hk:k=b+1) (hm:bs[0]? =some mb) (hp:p∈mb):p∈back w (b+1):=by
 subst hk
 exact (h.all 0 mb hm).1.1 _ _ ((eW (h.all 0 mb hm).2).1 hp)
theorem gC.end_ {bs:List FM} {k j:Nat} (h:gC w k bs) (hj:bs.length=0) (hk:j=b) (hb:w.n≤b):gC w j ([(⟨0,0⟩,w.fR)]::bs):=by
 subst hk
 rw [fX hj]
 exact gC.last hb
theorem gC.more {bs:List FM} {k j:Nat} (h:gC w k bs) (hk:k=b+1) (hj:j=b) (hb:b<w.n) (hmb:bs[0]? =some mb) (hm:ua w b m) (hd:jo w b mb m left) (h0:left=[]):gC w j (m::bs):=by
 subst hk hj
 exact h.add hb hmb hm hd h0
end
section
open Go.RowKit
theorem jU {a:OA} {c e sz n:Nat} {es:List (List Value)} (h:es.length=n):GY (own a c e sz es) (rd a n sz es):=by subst h; exact Hv
theorem rQ {L:List aq}:GY (bV L) (du L):=⟨fun w h=>h.1,fun b h=>h⟩
theorem H2 {b:Nat} {fb:List Nat} {g:Nat} (h:fb.length=b):aU n8 (List.replicate b ([]:TM)) fb++[gQ iV g (bw dF [])]=aU n8 (List.replicate (b+1) ([]:TM)) (fb++[g]):=by
 rw [List.replicate_succ']
 exact wF (by rw [List.length_replicate]; exact h.symm) rfl
theorem NA {α:Type} {ms:List α} {fb:List Nat} {n:Nat} (h:fb.length=n) (h2:ms.length=n):List.map oC (dL fb n)=List.zipWith eV ms fb:=by
 rw [w8 h]; exact (xS om).symm
theorem lE {l:aV} {r:cq} {i:Nat} {x:aM} (hx:r.ag[i]? =some x) (h: ¬ ib l r.ag i x): ¬ ed l r:=fun q=>h (q.sig i x hx)
end
section
open Go.RowKit
theorem qo (ln:cE) (ri:eE) (e:List Int) (tms:List TM) (e_A:OA) (e_C:Nat) (tb:List Nat) (t_A:OA) (t_C:Nat) (fA:OA) (fN fC:Nat) (bA:OA) (bN bC:Nat) (gw b:Nat) (g1 g2:Nat) (hb:b<tms.length) (htb:tb.length=tms.length):
 DO Tryz.prog 220 [] [(vP g1),(vP g2)] [(rd e_A e.length 1 (e.map iC)),(rd t_A tms.length 1 (List.zipWith eV tms tb)),(du (aU n8 tms tb)),(br gw 276 (bK.cells (bK.mk ln ri (bB.mk e_A e.length e_C) (bB.mk t_A tms.length t_C) (bB.mk fA fN fC) (bB.mk bA bN bC)))),(br g1 265 [(vP gw)]),(br g2 3 [(vI ((b:Nat):Int))])] ([]:List (Int×aa)) (fun ys x ys'=> ∃ o,o∈g7 (ck ln ri e tms) b∧x=IF o∧ys'=ys++[o]) (fun ys=> ∀ o∈g7 (ck ln ri e tms) b,o∈ys):=by
 refine ud kr Tryz.func220 rfl rfl fun l J Z A0 w0 Q hY hJ0 hF0 hQ hN=>?_
 try dsimp only
 refine ai fun _ hK1=>ai fun _ hK2=>dC cD 12 kr<|dP 2 [] (mr 5 rfl mn) ?_
 refine dS (SX (cf rfl rfl) rfl rfl)<|dP 4 [0,1] (mr 4 rfl (mr 5 rfl mn)) ?_
 refine dS (SX (cf rfl rfl) rfl rfl)<|dP 3 [] (mr 4 rfl mn) ?_
 refine dS (SX (bg (xs:=[(0,.tmp 11),(1,.tmp 16)]) (cs:=(aa.cells (aa.mk ri.Start ri.fR))) rfl rfl (bf fg rfl)) rfl rfl)<|cO ?_
 refine kH (k:=([]:List (Int×aa))) (k':=(([]:List (Int×aa))++[((-1),(aa.mk ri.Start ri.fR))])) 0 (by first|exact hsz|exact Nat.le_refl _) hY hJ0 hF0 rfl rfl rfl (by exact ⟨(-1,⟨ri.Start,ri.fR⟩),cZ ..,rfl,rfl⟩) rfl rfl (fun B3 hJ4 hF5=>?_) (fun B3 hJ4 hF5=>?_)
 rotate_left 1
 ·refine rP 1 [] mn ?_
  refine RK hK2<|aI rfl<|an ?_
  refine hQ _ _ _ (aZ (vs:=[]) trivial fun w hs=>qL 0 rfl hJ4 hF5 hs)
 refine rP 1 [] mn ?_
 refine RK hK2<|aW rfl<|WK hK1<|ai fun _ hK6=>dC cD 7 kr<|dP 1 [] (mr 5 rfl mn) ?_
 refine dS (SX (cf rfl rfl) rfl rfl)<|dP 3 [0,1] (mr 4 rfl (mr 6 rfl mn)) ?_
 obtain ⟨x,hx⟩:=aO tms b om
 obtain ⟨xa,hxa⟩:=aO tb b om
 have hxm:(List.zipWith eV tms tb)[b]? =some (eV x xa):=gn hx hxa
 refine dS (IA b rfl (aA 2 rfl) BX dc om om)<|dS (gU b 0 (Value.map (some xa)) rfl bJ (aA 2 rfl) hxm rfl dc rfl)<|cO<|kd (kV:=iV) (m:=bw dF x) 3 rfl rfl nJ rfl ⟨⟨(gQ iV xa (bw dF x)),(cm hx hxa (by simp [n8])),rfl⟩,fun h=>h⟩ (show ji _ (gQ iV xa (bw dF x)).holds from dA 3 rfl (cm hx hxa (by simp [n8]))) rfl fun r7=>?_
 try dsimp only
 refine RK hK6<|av ?_
 have hinit:(∀ o∈x,o∈x∨o∈(([]:List (Int×aa))++[((-1),(aa.mk ri.Start ri.fR))]))∧(∀ o∈x,o∈x)∧(J (([]:List (Int×aa))++[((-1),(aa.mk ri.Start ri.fR))]) B3)∧(Fo A0 w0 B3)∧((-1,(⟨ri.Start,ri.fR⟩:aa))∈(([]:List (Int×aa))++[((-1),(aa.mk ri.Start ri.fR))])):=by exact ⟨fun o ho=> .inl ho,fun o ho=>ho,asm,asm,sm⟩
 refine cp (ι:={z:TM×(List (Int×aa))×aq // (∀ o∈x,o∈z.1∨o∈z.2.1)∧(∀ o∈z.1,o∈x)∧(J z.2.1 z.2.2)∧(Fo A0 w0 z.2.2)∧((-1,(⟨ri.Start,ri.fR⟩:aa))∈z.2.1)}) (fun z=>[(0,(Value.func (.yield l) #[] #[])),(1,(vP g1)),(2,(vP g2)),(27,(vP r7))]) (fun z=>[(wo iV r7 xa (bw dF x) (bw dF z.1.1) none),z.1.2.2,(rd e_A e.length 1 (e.map iC)).ro,(rd t_A tms.length 1 (List.zipWith eV tms tb)).ro,(du (aU n8 tms tb)).ro,(br g1 265 [(vP gw)]).ro,(br g2 3 [(vI ((b:Nat):Int))]).ro]) (fun z=>z.1.1.length) ⟨(x,(([]:List (Int×aa))++[((-1),(aa.mk ri.Start ri.fR))]),B3),hinit⟩ (aL rfl) (aG [0,1,2,3,4,6,7]) ?_
 clear hinit
 rintro ⟨⟨left,ys,A⟩,⟨hl2_0,hl2_1,hl2_2,hl2_3,hl2_4⟩⟩ J8 hJ8
 try dsimp only at hl2_0 hl2_1 hl2_2 hl2_3 hl2_4
 try dsimp only
 refine WS fun _ hK9=>?_
 refine jE (eK oZ).inj (f:=dF) 0 rfl rfl rfl rfl (fun h28=>?_) (fun i z hm hn=>?_)
 ·refine rP 1 [] mn ?_
  refine RK hK9<|ai fun _ hK10=>aW rfl<|bp<|ae<|ae<|au ?_
  refine hN _ _ _ (aZ (vs:=[]) trivial fun w hs=>HW 1 rfl (by exact Du hx hl2_0 h28 hl2_4) hl2_2 hl2_3 hs)
 try dsimp only
 refine rP 1 [] mn ?_
 refine RK hK9<|ai fun _ hK11=>aI rfl<|WK hK11<|av<|WS fun _ hK12=>rS (SX (jL 0 rfl rfl rfl) rfl rfl)<|rP 2 [] mn ?_
 refine AL rfl cV fun b13=>rP 1 [] mn ?_
 refine f_ rfl bY rfl<|RK hK12<|WS fun _ hK14=>rP 3 [] (mc 0 rfl mn) ?_
 refine kH (k:=ys) (k':=(ys++[(i,z)])) 2 (by first|exact hsz|exact Nat.le_refl _) hY hl2_2 hl2_3 rfl rfl rfl (by exact ⟨(i,z),(vf hx).2 (.inr (hl2_1 _ hm)),rfl,rfl⟩) rfl rfl (fun B15 hJ16 hF17=>?_) (fun B15 hJ16 hF17=>?_)
 rotate_left 1
 ·refine rP 1 [] mn ?_
  refine RK hK14<|aI rfl<|an ?_
  refine hQ _ _ _ (aZ (vs:=[]) trivial fun w hs=>qL 2 rfl hJ16 hF17 hs)
 refine rP 1 [] mn ?_
 refine RK hK14<|aW rfl<|bZ<|ax<|gT 1 rfl fx rfl ?_
 refine aN (hJ8 ⟨((cj left i),(ys++[(i,z)]),B15),⟨Dh hn hm hl2_0,lK hl2_1,asm,asm,by simp [hl2_4]⟩⟩ _ _ _ rfl (eI hm) (aL rfl) (aG [1,2,3,4,5,6,7]))
theorem sK (gw b:Nat):
 oY Tryz.prog 212 [(vP gw),(vI ((b:Nat):Int))] [] (fun (x:Nat×Nat)=>(Value.func (.func 220) [].toArray [(Value.pointer (some ⟨x.1,0,none⟩)),(Value.pointer (some ⟨x.2,0,none⟩))].toArray)) (fun (x:Nat×Nat)=>True) (fun (x:Nat×Nat)=>[(br x.1 265 [(vP gw)]),(br x.2 3 [(vI ((b:Nat):Int))])]):=by
 refine ff kr Tryz.func212 rfl rfl fun w0 Q hQ hN=>?_
 try dsimp only
 refine WS fun _ hK1=>t_ rfl rfl fun b2=>t_ rfl rfl fun b3=>rP 1 [] mn ?_
 refine RK hK1<|WS fun _ hK4=>rS (FU rfl)<|rP 1 [] mn ?_
 refine RK hK4<|an ?_
 refine hQ _ _ _ (aZ (vs:=[(Value.func (.func 220) [].toArray [(vP b2),(vP b3)].toArray)]) ⟨rfl,trivial⟩ fun w hs=>ej (b2,b3) [1,0] ?_ ?_ rfl rfl rfl hs)
 ·rfl
 ·trivial
theorem Gr (gw b:Nat):
 oY Tryz.prog 207 [(vP gw),(vI ((b:Nat):Int))] [] (fun (x:Nat×Nat)=>(Value.func (.func 211) [].toArray [(Value.pointer (some ⟨x.1,0,none⟩)),(Value.pointer (some ⟨x.2,0,none⟩))].toArray)) (fun (x:Nat×Nat)=>True) (fun (x:Nat×Nat)=>[(br x.1 265 [(vP gw)]),(br x.2 3 [(vI ((b:Nat):Int))])]):=by
 refine ff kr Tryz.func207 rfl rfl fun w0 Q hQ hN=>?_
 try dsimp only
 refine WS fun _ hK1=>t_ rfl rfl fun b2=>t_ rfl rfl fun b3=>rP 1 [] mn ?_
 refine RK hK1<|WS fun _ hK4=>rS (FU rfl)<|rP 1 [] mn ?_
 refine RK hK4<|an ?_
 refine hQ _ _ _ (aZ (vs:=[(Value.func (.func 211) [].toArray [(vP b2),(vP b3)].toArray)]) ⟨rfl,trivial⟩ fun w hs=>ej (b2,b3) [1,0] ?_ ?_ rfl rfl rfl hs)
 ·rfl
 ·trivial
end
section
open Go.RowKit
theorem nB:sV Tryz.prog 282 dI:=Hq I9 (fun x y w=>JQ 9998 x y w) (fun x y h=>by cases x; cases y; simp [ao.cells] at h; simp [h]) (fun x=>by simp [ao.cells,Instr.sameBits]) (fun x w=>⟨_,rfl,fun p hp=>by
 simp only [dZ,List.not_mem_nil,or_false] at hp
 rcases hp with rfl|rfl
 ·exact ⟨⟨_,jH bJ rfl w⟩,_,oZ⟩
 ·exact ⟨⟨_,jH bJ rfl w⟩,_,oZ⟩⟩)
theorem F5 (s:Int):
 eu Tryz.prog 215 [(vI s)] [] (vA (ao.cells (eL s))):=by
 refine bu kr Tryz.func215 rfl rfl fun w0 Q hQ hN=>?_
 try dsimp only
 refine WS fun _ hK1=>AL rfl rY fun b2=>RK hK1<|ai fun _ hK3=>WS fun _ hK4=>rP 2 [] mn ?_
 refine RK hK4 ?_
 refine cP rfl (aP fun h4=>?_) (aQ fun h4=>?_)
 ·refine WS fun _ hK5=>?_
  refine rS (SX (bg (xs:=[(1,.const (vI 1))]) (cs:=(ao.cells (ao.mk 0 1))) rfl rfl (bf yr rfl)) rfl rfl)<|f_ rfl qg rfl<|RK hK5<|an ?_
  refine hQ _ _ _ (aZ (vs:=[(vA (ao.cells (ao.mk 0 1)))]) ⟨⟨_,rfl,.inl ⟨_,_,bJ,bQ (vs:=(ao.cells (ao.mk 0 1))) 0 rfl rfl,rfl,rfl⟩⟩,trivial⟩ fun w hs=>eM ?_ hs)
  show (vA (ao.cells (ao.mk 0 1)))=(vA (ao.cells (eL s)))
  clear hs w hQ hN hK5 hK4 hK3 hK1
  unfold eL; first|rw [if_pos h4]|rw [if_neg h4]
 refine WK hK3<|WS fun _ hK6=>rS (SX (bg (xs:=[(0,.const (vI 1))]) (cs:=(ao.cells (ao.mk 1 0))) rfl rfl (bf yr rfl)) rfl rfl)<|f_ rfl qg rfl<|RK hK6<|an ?_
 refine hQ _ _ _ (aZ (vs:=[(vA (ao.cells (ao.mk 1 0)))]) ⟨⟨_,rfl,.inl ⟨_,_,bJ,bQ (vs:=(ao.cells (ao.mk 1 0))) 0 rfl rfl,rfl,rfl⟩⟩,trivial⟩ fun w hs=>eM ?_ hs)
 show (vA (ao.cells (ao.mk 1 0)))=(vA (ao.cells (eL s)))
 clear hs w hQ hN hK6 hK4 hK3 hK1
 unfold eL; first|rw [if_pos h4]|rw [if_neg h4]
theorem uf (x:ao) (y:ao) (hx:(0≤x.right∧x.right≤1000)∧0≤x.dG∧x.dG≤1000) (hy:(0≤y.right∧y.right≤1000)∧0≤y.dG∧y.dG≤1000):
 eu Tryz.prog 214 [(vA (ao.cells x)),(vA (ao.cells y))] [] (vA (ao.cells (c_ x y))):=by
 refine bu kr Tryz.func214 rfl rfl fun w0 Q hQ hN=>?_
 try dsimp only
 refine WS fun _ hK1=>fP rfl fun b2=>fP rfl fun b3=>AL rfl rY fun b4=>RK hK1<|WS fun _ hK5=>rP 10 [0,1,0,1] (mc 2 rfl (mc 1 rfl mn)) ?_
 refine rS (SX (bg (xs:=[(0,.tmp 9),(1,.tmp 14)]) (cs:=(ao.cells (ao.mk (x.right+y.right) (x.dG+y.dG)))) rfl rfl (bf yr rfl)) rfl rfl)<|f_ rfl qg rfl<|RK hK5<|an ?_
 refine hQ _ _ _ (aZ (vs:=[(vA (ao.cells (ao.mk (x.right+y.right) (x.dG+y.dG))))]) ⟨⟨_,rfl,.inl ⟨_,_,bJ,bQ (vs:=(ao.cells (ao.mk (x.right+y.right) (x.dG+y.dG)))) 0 rfl rfl,rfl,rfl⟩⟩,trivial⟩ fun w hs=>eM ?_ hs)
 show (vA (ao.cells (ao.mk (x.right+y.right) (x.dG+y.dG))))=(vA (ao.cells (c_ x y)))
 clear hs w hQ hN hK5 hK1
 rfl
theorem I6 (ln:cE) (ri:eE) (e:List Int) (tms:List TM) (e_A:OA) (e_C:Nat) (tb:List Nat) (t_A:OA) (t_C:Nat) (fs:List FM) (bs:List FM) (fb:List Nat) (f_A:OA) (f_C:Nat) (bb:List Nat) (b_A:OA) (b_C gw:Nat) (x:ao) (hx:(0≤x.right∧x.right≤1000)∧0≤x.dG∧x.dG≤1000) (hn:ri.ag.n≤1000):
 eu Tryz.prog 213 [(vP gw),(vA (ao.cells x))] [(rd e_A e.length 1 (e.map iC)),(rd t_A tms.length 1 (List.zipWith eV tms tb)),(du (aU n8 tms tb)),(rd f_A fs.length 1 (List.zipWith eV fs fb)),(du (aU lx fs fb)),(rd b_A bs.length 1 (List.zipWith eV bs bb)),(du (aU lx bs bb)),(br gw 276 (bK.cells (bK.mk ln ri (bB.mk e_A e.length e_C) (bB.mk t_A tms.length t_C) (bB.mk f_A fs.length f_C) (bB.mk b_A bs.length b_C))))] (vB (j4 (ck ln ri e tms) x)):=by
 refine bu kr Tryz.func213 rfl rfl fun w0 Q hQ hN=>?_
 try dsimp only
 refine WS fun _ hK1=>fP rfl fun b2=>rP 1 [] mn ?_
 refine RK hK1<|ai fun _ hK3=>dC cD 26 kr<|dP 3 [] (mc 0 rfl mn) ?_
 refine dS (SX (cf rfl rfl) rfl rfl)<|dP 5 [] (mr 8 rfl mn) ?_
 refine jT (t:=13) rfl (aQ fun h13=>?_) (aP fun h13=>?_)
 ·refine dP 17 [] mn ?_
  refine cO<|RK hK3<|an<|Q1 hQ rfl rfl rfl ?_
  first|exact cB (a7 (fun h=>h13 h.1)).symm|exact cB (decide_eq_decide.2 ⟨fun h=>⟨h13,h⟩,fun h=>h.2⟩)
 refine dP 1 [] mn ?_
 refine dS (SX (cf rfl rfl) rfl rfl)<|dP 8 [0,1] (mr 8 rfl (mc 0 rfl mn)) ?_
 refine dS (SX (cf rfl rfl) rfl rfl)<|dP 6 [] (mr 8 rfl mn) ?_
 refine cO<|RK hK3<|an<|Q1 hQ rfl rfl rfl ?_
 first|exact cB (a7 (fun h=>h13 h.1)).symm|exact cB (decide_eq_decide.2 ⟨fun h=>⟨h13,h⟩,fun h=>h.2⟩)
end
section
open Go.RowKit
theorem CI (ln:cE) (ri:eE) (e:List Int) (tms:List TM) (e_A:OA) (e_C:Nat) (tb:List Nat) (t_A:OA) (t_C:Nat) (fs:List FM) (bs:List FM) (fb:List Nat) (f_A:OA) (f_C:Nat) (bb:List Nat) (b_A:OA) (b_C gw:Nat) (b g1 g2:Nat) (mf:FM) (mb:FM) (hb:b<e.length) (hw:DY (ck ln ri e tms)) (htb:tb.length=tms.length) (hfw:vU (ck ln ri e tms) fs) (hfb:fb.length=fs.length) (hbw:sU (ck ln ri e tms) bs) (hbb:bb.length=bs.length) (hsg:ri.ag.n≤1000) (hm1:fs[b]? =some mf) (hm2:bs[b+1]? =some mb):
 DO Tryz.prog 211 [] [(vP g1),(vP g2)] [(rd e_A e.length 1 (e.map iC)),(rd t_A tms.length 1 (List.zipWith eV tms tb)),(du (aU n8 tms tb)),(rd f_A fs.length 1 (List.zipWith eV fs fb)),(du (aU lx fs fb)),(rd b_A bs.length 1 (List.zipWith eV bs bb)),(du (aU lx bs bb)),(br gw 276 (bK.cells (bK.mk ln ri (bB.mk e_A e.length e_C) (bB.mk t_A tms.length t_C) (bB.mk f_A fs.length f_C) (bB.mk b_A bs.length b_C)))),(br g1 265 [(vP gw)]),(br g2 3 [(vI ((b:Nat):Int))])] ([]:List (Int×aa)) (fun ys x ys'=> ∃ q,q∈oQ (ck ln ri e tms) b mf mb∧x=IF q∧ys'=ys++[q]) (fun ys=> ∀ q∈oQ (ck ln ri e tms) b mf mb,q∈ys):=by
 have hw6:e.length≤6:=hw.n
 have hwt:tms.length=e.length:=hw.times
 have hfl:fs.length=e.length+1:=hfw.len
 have hbl:bs.length=e.length+1:=hbw.len
 refine ud kr Tryz.func211 rfl rfl fun l J Z A0 w0 Q hY hJ0 hF0 hQ hN=>?_
 try dsimp only
 refine WS fun _ hK1=>t_ rfl rfl fun b2=>RK hK1<|WS fun _ hK3=>rP 2 [0,1] (mr 10 rfl (mr 11 rfl mn)) ?_
 refine cX (sK gw b) (aT) rfl fun y4 hy5=>?_
 obtain ⟨x16,x27⟩:=y4
 try dsimp only
 refine RK hK3<|av<|ky 4 rfl (by exact fun _ h=>h)<|ky 6 rfl (by exact fun _ h=>h)<|ky 8 rfl (by exact fun _ h=>h)<|ky 14 rfl (by exact fun _ h=>h) ?_
 refine nA (L0:=[(0,(Value.func (.yield l) #[] #[])),(1,(vP g1)),(2,(vP g2)),(3,(vP b2))]) (F:=[(rd e_A e.length 1 (e.map iC)).ro,(rd t_A tms.length 1 (List.zipWith eV tms tb)).ro,(du (aU n8 tms tb)).ro,(br gw 276 (bK.cells (bK.mk ln ri (bB.mk e_A e.length e_C) (bB.mk t_A tms.length t_C) (bB.mk f_A fs.length f_C) (bB.mk b_A bs.length b_C)))).ro,(br x16 265 [(vP gw)]),(br x27 3 [(vI ((b:Nat):Int))])]) (fun k (y:(List (Int×aa))×aq)=>(kP (ck ln ri e tms) b mf mb k y.1)∧(J y.1 y.2)∧(Fo A0 w0 y.2)) (fun k y=>[(br b2 279 [(Value.func (.yield l) #[] #[])]),y.2,(rd e_A e.length 1 (e.map iC)).ro,(rd t_A tms.length 1 (List.zipWith eV tms tb)).ro,(du (aU n8 tms tb)).ro,(rd f_A fs.length 1 (List.zipWith eV fs fb)).ro,(du (aU lx fs fb)).ro,(rd b_A bs.length 1 (List.zipWith eV bs bb)).ro,(du (aU lx bs bb)).ro,(br gw 276 (bK.cells (bK.mk ln ri (bB.mk e_A e.length e_C) (bB.mk t_A tms.length t_C) (bB.mk f_A fs.length f_C) (bB.mk b_A bs.length b_C)))).ro,(br g1 265 [(vP gw)]).ro,(br g2 3 [(vI ((b:Nat):Int))]).ro]) (fun c (z:aq)=>(c= .ret∧(Z z)∧(Fo A0 w0 z))) (fun _ z=>[(br b2 279 [(Value.func (.yield l) #[] #[])]),z,(rd e_A e.length 1 (e.map iC)).ro,(rd t_A tms.length 1 (List.zipWith eV tms tb)).ro,(du (aU n8 tms tb)).ro,(rd f_A fs.length 1 (List.zipWith eV fs fb)).ro,(du (aU lx fs fb)).ro,(rd b_A bs.length 1 (List.zipWith eV bs bb)).ro,(du (aU lx bs bb)).ro,(br gw 276 (bK.cells (bK.mk ln ri (bB.mk e_A e.length e_C) (bB.mk t_A tms.length t_C) (bB.mk f_A fs.length f_C) (bB.mk b_A bs.length b_C)))).ro,(br g1 265 [(vP gw)]).ro,(br g2 3 [(vI ((b:Nat):Int))]).ro]) [6,7,8,9,10,11,12,13,14,15,16,17] [3,2,1,0,4,5] (([]:List (Int×aa)),A0) rfl rfl (qo ln ri e tms e_A e_C tb t_A t_C f_A fs.length f_C b_A bs.length b_C gw b x16 x27 om om) rfl rfl rfl (by exact ⟨kP.nil,hJ0,hF0⟩) (by simp only [List.forall_mem_cons,List.not_mem_nil,false_imp_iff,implies_true,and_true]; exact ⟨⟨_,aw (i:=0) rfl,(eD (bO _))⟩,⟨_,aw (i:=1) rfl,(eD (bO _))⟩,⟨_,aw (i:=2) rfl,(eD (bO _))⟩,⟨_,aw (i:=3) rfl,(eD (bO _))⟩,⟨_,aw (i:=4) rfl,(bO _)⟩,⟨_,aw (i:=5) rfl,(bO _)⟩⟩) (by rintro k x k2 ⟨o,_,rfl,_⟩; rfl) rfl (aL rfl) ?_ ?_ ?_ ?_
 rotate_left 1
 ·rintro r37 k ⟨ys,A⟩ hfin hin38
  obtain ⟨hr0,hr1,hr2⟩:=hin38
  try dsimp only at hr0 hr1 hr2
  try dsimp only
  refine ax ?_
  refine hN _ _ _ (oh 0 rfl rfl<|aZ (vs:=[]) trivial fun w hs=>HW 8 rfl (by exact kP.fin hr0 hfin) hr1 hr2 hs)
 ·rintro r39 id A hx40
  simp at hx40
 ·rintro r41 A hx42
  obtain ⟨hc,hq0,hq1⟩:=hx42
  try dsimp only
  refine hQ _ _ _ (oh 0 rfl rfl<|aZ (vs:=[]) trivial fun w hs=>qL 8 rfl hq0 hq1 hs)
 rintro k x k2 ⟨ys,A⟩ lr ra rb S w1 K8 Qr9 hsz hx hin10 hK8 hQr9 xQr9 yQr9
 obtain ⟨o,ho,rfl,rfl⟩:=hx
 obtain ⟨hr0,hr1,hr2⟩:=hin10
 try dsimp only at hr0 hr1 hr2
 try dsimp only
 refine WS fun _ hK11=>rP 1 [] mn ?_
 refine RK hK11<|ak<|AL rfl cV fun b12=>f_ rfl bY rfl<|aB<|jz (fun _ _ h=>h) (aG [1,0,2,3,4,5,6,7,8,9,10,11,12,13]) ?_
 refine aN (hK8 _ _ ?_)
 refine av<|ai fun _ hK13=>dC cD 7 kr<|dP 1 [] (mr 12 rfl mn) ?_
 refine dS (SX (cf rfl rfl) rfl rfl)<|dP 3 [0,1] (mr 11 rfl (mr 13 rfl mn)) ?_
 obtain ⟨ga,hga⟩:=aO fb b om
 have hgam:(List.zipWith eV fs fb)[b]? =some (eV mf ga):=gn hm1 hga
 refine dS (IA b rfl (aA 7 rfl) m7 dc om om)<|dS (gU b 0 (Value.map (some ga)) rfl bJ (aA 7 rfl) hgam rfl dc rfl)<|cO<|kd (kV:=dI) (m:=bw iV mf) 8 rfl rfl nH rfl ⟨⟨(gQ dI ga (bw iV mf)),(cm hm1 hga (by simp [lx])),rfl⟩,fun h=>h⟩ (show ji _ (gQ dI ga (bw iV mf)).holds from dA 8 rfl (cm hm1 hga (by simp [lx]))) rfl fun r14=>?_
 try dsimp only
 refine RK hK13<|av ?_
 have hinit:(∀ p∈mf,p∈mf)∧(mG (ck ln ri e tms) b mf mb o mf ys)∧(kP (ck ln ri e tms) b mf mb k ys)∧(J ys A)∧(Fo A0 w0 A):=by exact ⟨fun p hp=>hp,mG.start,hr0,hr1,hr2⟩
 refine cp (ι:={z:FM×(List (Int×aa))×aq // (∀ p∈z.1,p∈mf)∧(mG (ck ln ri e tms) b mf mb o z.1 z.2.1)∧(kP (ck ln ri e tms) b mf mb k z.2.1)∧(J z.2.1 z.2.2)∧(Fo A0 w0 z.2.2)}) (fun z=>[(0,(Value.func (.yield l) #[] #[])),(1,(vP g1)),(2,(vP g2)),(3,(vP b2)),(4,(vI o.1)),(5,(vP b12)),(23,(vP r14))]) (fun z=>[(wo dI r14 ga (bw iV mf) (bw iV z.1.1) none),(kb lr (.loop rb)),(br b12 47 (aa.cells o.2)),(br b2 279 [(Value.func (.yield l) #[] #[])]),z.1.2.2,(rd e_A e.length 1 (e.map iC)).ro,(rd t_A tms.length 1 (List.zipWith eV tms tb)).ro,(du (aU n8 tms tb)).ro,(rd f_A fs.length 1 (List.zipWith eV fs fb)).ro,(du (aU lx fs fb)).ro,(rd b_A bs.length 1 (List.zipWith eV bs bb)).ro,(du (aU lx bs bb)).ro,(br gw 276 (bK.cells (bK.mk ln ri (bB.mk e_A e.length e_C) (bB.mk t_A tms.length t_C) (bB.mk f_A fs.length f_C) (bB.mk b_A bs.length b_C)))).ro,(br g1 265 [(vP gw)]).ro,(br g2 3 [(vI ((b:Nat):Int))]).ro]) (fun z=>z.1.1.length) ⟨(mf,ys,A),hinit⟩ (aL rfl) (aG [0,1,2,3,4,5,6,7,8,9,10,11,12,13,14]) ?_
 clear hinit
 rintro ⟨⟨left,ys,A⟩,⟨hl5_0,hl5_1,hl5_2,hl5_3,hl5_4⟩⟩ J15 hJ15
 try dsimp only at hl5_0 hl5_1 hl5_2 hl5_3 hl5_4
 try dsimp only
 refine WS fun _ hK16=>?_
 refine jE nB.inj (f:=iV) 0 rfl rfl rfl rfl (fun h24=>?_) (fun t v hm hn=>?_)
 ·refine rP 1 [] mn ?_
  refine RK hK16<|ai fun _ hK17=>aW rfl<|bp<|ae<|ae<|au<|ax ?_
  exact hQr9 (ys,A) _ _ (by exact ⟨kP.next hl5_2 hl5_1 h24,hl5_3,hl5_4⟩) (aG [1,3,4,5,6,7,8,9,10,11,12,13,14])
 try dsimp only
 refine rP 1 [] mn ?_
 refine RK hK16<|ai fun _ hK18=>aI rfl<|WK hK18<|av<|WS fun _ hK19=>rS (SX (jL 0 rfl rfl rfl) rfl rfl)<|rP 2 [] mn ?_
 refine AL rfl rY fun b20=>f_ rfl qg rfl<|rP 1 [] mn ?_
 refine RK hK19<|ai fun _ hK21=>dC cD 8 kr<|dP 1 [] (mr 14 rfl mn) ?_
 refine dS (SX (cf rfl rfl) rfl rfl)<|dP 4 [0,1] (mr 13 rfl (mr 15 rfl mn)) ?_
 obtain ⟨gb,hgb⟩:=aO bb (b+1) om
 have hgbm:(List.zipWith eV bs bb)[(b+1)]? =some (eV mb gb):=gn hm2 hgb
 refine dS (IA (b+1) rfl (aA 11 rfl) m7 dc om om)<|dS (gU (b+1) 0 (Value.map (some gb)) rfl bJ (aA 11 rfl) hgbm rfl dc rfl)<|cO<|kd (kV:=dI) (m:=bw iV mb) 12 rfl rfl nH rfl ⟨⟨(gQ dI gb (bw iV mb)),(cm hm2 hgb (by simp [lx])),rfl⟩,fun h=>h⟩ (show ji _ (gQ dI gb (bw iV mb)).holds from dA 12 rfl (cm hm2 hgb (by simp [lx]))) rfl fun r22=>?_
 try dsimp only
 refine RK hK21<|av ?_
 have hinit:(∀ p∈mb,p∈mb)∧(mK (ck ln ri e tms) b mb o (t,v) mb ys)∧(mG (ck ln ri e tms) b mf mb o left ys)∧(kP (ck ln ri e tms) b mf mb k ys)∧(J ys A)∧(Fo A0 w0 A):=by exact ⟨fun p hp=>hp,mK.start,hl5_1,hl5_2,hl5_3,hl5_4⟩
 refine cp (ι:={z:FM×(List (Int×aa))×aq // (∀ p∈z.1,p∈mb)∧(mK (ck ln ri e tms) b mb o (t,v) z.1 z.2.1)∧(mG (ck ln ri e tms) b mf mb o left z.2.1)∧(kP (ck ln ri e tms) b mf mb k z.2.1)∧(J z.2.1 z.2.2)∧(Fo A0 w0 z.2.2)}) (fun z=>[(0,(Value.func (.yield l) #[] #[])),(1,(vP g1)),(2,(vP g2)),(3,(vP b2)),(4,(vI o.1)),(5,(vP b12)),(6,(vP b20)),(7,(vI v)),(23,(vP r14)),(37,(vP r22))]) (fun z=>[(wo dI r22 gb (bw iV mb) (bw iV z.1.1) none),(br b20 282 (ao.cells t)),(wo dI r14 ga (bw iV mf) (bw iV (cj left t)) (some (t,(vI v)))),(kb lr (.loop rb)),(br b12 47 (aa.cells o.2)),(br b2 279 [(Value.func (.yield l) #[] #[])]),z.1.2.2,(rd e_A e.length 1 (e.map iC)).ro,(rd t_A tms.length 1 (List.zipWith eV tms tb)).ro,(du (aU n8 tms tb)).ro,(rd f_A fs.length 1 (List.zipWith eV fs fb)).ro,(du (aU lx fs fb)).ro,(rd b_A bs.length 1 (List.zipWith eV bs bb)).ro,(du (aU lx bs bb)).ro,(br gw 276 (bK.cells (bK.mk ln ri (bB.mk e_A e.length e_C) (bB.mk t_A tms.length t_C) (bB.mk f_A fs.length f_C) (bB.mk b_A bs.length b_C)))).ro,(br g1 265 [(vP gw)]).ro,(br g2 3 [(vI ((b:Nat):Int))]).ro]) (fun z=>z.1.1.length) ⟨(mb,ys,A),hinit⟩ (aL rfl) (aG [0,1,2,3,4,5,6,7,8,9,10,11,12,13,14,15,16]) ?_
 clear hinit
 rintro ⟨⟨l2,ys2,A2⟩,⟨hl8_0,hl8_1,hl8_2,hl8_3,hl8_4,hl8_5⟩⟩ J23 hJ23
 try dsimp only at hl8_0 hl8_1 hl8_2 hl8_3 hl8_4 hl8_5
 try dsimp only
 refine WS fun _ hK24=>?_
 refine jE nB.inj (f:=iV) 0 rfl rfl rfl rfl (fun h38=>?_) (fun u z hmm hnn=>?_)
 ·refine rP 1 [] mn ?_
  refine RK hK24<|ai fun _ hK25=>aW rfl<|bp<|ae<|ae<|au<|ax<|gT 2 rfl fx rfl ?_
  refine aN (hJ15 ⟨((cj left t),ys2,A2),⟨lK hl5_0,mG.next hn hm hl8_2 hl8_1 h38,hl8_3,hl8_4,hl8_5⟩⟩ _ _ _ rfl (eI hm) (aL rfl) (aG [2,3,4,5,6,7,8,9,10,11,12,13,14,15,16]))
 try dsimp only
 refine rP 1 [] mn ?_
 refine RK hK24<|ai fun _ hK26=>aI rfl<|WK hK26<|av<|WS fun _ hK27=>rS (SX (jL 0 rfl rfl rfl) rfl rfl)<|rP 2 [] mn ?_
 refine AL rfl rY fun b28=>f_ rfl qg rfl<|rP 1 [] mn ?_
 refine RK hK27<|ai fun _ hK29=>ep cD [17,18] [] [] [0,1,2,3,4,5,6,7,8,9,10,11,12,13,14,15,16,17] [] rfl rfl rfl rfl rfl<|eS rfl (MV rfl)<|eS rfl (MH 16 rfl bJ rfl)<|eS rfl (SX (cf rfl rfl) rfl rfl)<|eS rfl (FA 10 rfl gp rfl)<|eS rfl (Ed (vS e_A e.length e_C) 15 rfl bJ rfl rfl)<|eS rfl (MH 17 rfl bJ rfl) ?_
 obtain ⟨y,hy⟩:=aO e b om
 have hym:=bI iC hy
 refine eS rfl (IA b rfl (aA 8 rfl) dB dc om om)<|eS rfl (gU b 0 (vI y) rfl bJ (aA 8 rfl) hym rfl dc rfl) ?_
 have hlb:=hw.least y (aw hy)
 have hfp:=EO hw _ _ (hfw.mem hm1 (hl5_0 _ hm))
 have hbp:=FV hw (hbw.mem hm2 (hl8_0 _ hmm))
 have ho1:=sN o.1
 have hob:=hw.opt ho
 dsimp only at hfp hbp
 refine eS rfl (BI rfl (g8 ⟨om,om⟩))<|eS rfl (FA 0 rfl gp rfl)<|eS rfl (L1 (vI o.2.Lo) 5 rfl bJ rfl rfl)<|eS rfl (MX rfl)<|eS rfl (MV rfl)<|eS rfl (FA 1 rfl gp rfl)<|eS rfl (L1 (vI o.2.Hi) 5 rfl bJ rfl rfl)<|eS rfl (MN rfl)<|eS rfl (SX (bg (xs:=[(0,.tmp 54),(1,.tmp 58)]) (cs:=(aa.cells (aa.mk (max (v+y) o.2.Lo) (min z o.2.Hi)))) rfl rfl (bf fg rfl)) rfl rfl)<|fp rfl ?_
 refine cr rfl fun T30 hT30=>AL rfl cV fun b31=>?_
 refine aB (hT30 _ _ (aG [1,2,3,4,5,6,7,8,9,10,11,12,13,14,15,16,17,18]) ?_)
 refine cr rfl fun T32 hT32=>f_ rfl bY rfl ?_
 refine aB (hT32 _ _ (aG [1,2,3,4,5,6,7,8,9,10,11,12,13,14,15,16,17,18]) ?_)
 refine gh rfl<|KK hK29<|ai fun _ hK33=>dC cD 19 kr<|dP 6 [] (mc 0 rfl mn) ?_
 refine jT (t:=65) rfl (aQ fun h65=>?_) (aP fun h65=>?_)
 ·refine dP 3 [] mn ?_
  refine dP 10 [] mn ?_
  refine cO<|rP 3 [] mn ?_
  refine RK hK33<|aW rfl<|bZ<|ax<|gT 2 rfl fx rfl ?_
  refine aN (hJ23 ⟨((cj l2 u),ys2,A2),⟨lK hl8_0,mK.skip hnn hmm hl8_1 (by first|exact wX hy h65|exact xx h75),hl8_2,hl8_3,hl8_4,hl8_5⟩⟩ _ _ _ rfl (eI hmm) (aL rfl) (aG [2,3,4,5,6,7,8,9,10,11,12,13,14,15,16,17,18]))
 refine dP 3 [0,1,2] (mr 17 rfl (mc 3 rfl (mc 1 rfl mn))) ?_
 have hpu:(0≤(c_ t u).right∧(c_ t u).right≤1000)∧0≤(c_ t u).dG∧(c_ t u).dG≤1000:=by simp only [c_]; omega
 have hpa:(0≤(c_ (c_ t u) (eL o.1)).right∧(c_ (c_ t u) (eL o.1)).right≤1000)∧0≤(c_ (c_ t u) (eL o.1)).dG∧(c_ (c_ t u) (eL o.1)).dG≤1000:=by simp only [c_]; omega
 refine dS (CL (uf t u sd sd) (aT) rfl)<|dP 1 [] mn ?_
 refine dS (CL (F5 o.1) (aT) rfl)<|dS (CL (uf (c_ t u) (eL o.1) sd sd) (aT) rfl)<|dS (CL (I6 ln ri e tms e_A e_C tb t_A t_C fs bs fb f_A f_C bb b_A b_C gw (c_ (c_ t u) (eL o.1)) sd hsg) (bh [9,10,11,12,13,14,15,16]) rfl)<|dP 2 [] mn ?_
 refine jT (t:=75) rfl (fun h75=>?_) (fun h75=>?_)
 ·refine dP 3 [] mn ?_
  refine cO<|rP 3 [] mn ?_
  refine RK hK33<|aW rfl<|bZ<|ax<|gT 2 rfl fx rfl ?_
  refine aN (hJ23 ⟨((cj l2 u),ys2,A2),⟨lK hl8_0,mK.skip hnn hmm hl8_1 (by first|exact wX hy h65|exact xx h75),hl8_2,hl8_3,hl8_4,hl8_5⟩⟩ _ _ _ rfl (eI hmm) (aL rfl) (aG [2,3,4,5,6,7,8,9,10,11,12,13,14,15,16,17,18]))
 refine dP 3 [0,1] (mc 7 rfl (mc 0 rfl mn)) ?_
 refine cO ?_
 refine kH (k:=ys2) (k':=(ys2++[(o.1,(aa.mk (max (v+y) o.2.Lo) (min z o.2.Hi)))])) 8 (by first|exact hsz|exact Nat.le_refl _) hY hl8_4 hl8_5 rfl rfl rfl (by exact ⟨(o.1,_),gY.2 ⟨o,ho,(t,v),hl5_0 _ hm,(u,z),hl8_0 _ hmm,(yT hy h65 h75)⟩,rfl,rfl⟩) rfl rfl (fun B34 hJ35 hF36=>?_) (fun B34 hJ35 hF36=>?_)
 rotate_left 1
 ·refine rP 2 [] mn ?_
  refine RK hK33<|aI rfl<|an ?_
  exact yQr9 B34 _ _ (by exact ⟨rfl,hJ35,hF36⟩) (aG [5,7,8,9,10,11,12,13,14,15,16,17,18])
 refine rP 2 [] mn ?_
 refine RK hK33<|aW rfl<|bZ<|ax<|gT 2 rfl fx rfl ?_
 refine aN (hJ23 ⟨((cj l2 u),(ys2++[(o.1,(aa.mk (max (v+y) o.2.Lo) (min z o.2.Hi)))]),B34),⟨lK hl8_0,mK.MU hnn hmm hl8_1 (yT hy h65 h75),hl8_2.app,hl8_3.app,hJ35,hF36⟩⟩ _ _ _ rfl (eI hmm) (aL rfl) (aG [2,3,4,5,6,7,8,9,10,11,12,13,14,15,16,17,18]))
end
section
open Go.RowKit
theorem C6 (ln:cE) (ri:eE) (e:List Int) (tms:List TM) (e_A:OA) (e_C:Nat) (tb:List Nat) (t_A:OA) (t_C:Nat) (fs:List FM) (bs:List FM) (fb:List Nat) (f_A:OA) (f_C:Nat) (bb:List Nat) (b_A:OA) (b_C gw:Nat) (hw:DY (ck ln ri e tms)) (hsg:ri.ag.n≤1000) (hn:ln.ab.n=e.length) (hfw:vU (ck ln ri e tms) fs) (hfb:fb.length=fs.length):
 oY Tryz.prog 210 [(vP gw)] [(rd e_A e.length 1 (e.map iC)),(rd t_A tms.length 1 (List.zipWith eV tms tb)),(du (aU n8 tms tb)),(rd f_A fs.length 1 (List.zipWith eV fs fb)),(du (aU lx fs fb)),(rd b_A bs.length 1 (List.zipWith eV bs bb)),(du (aU lx bs bb)),(br gw 276 (bK.cells (bK.mk ln ri (bB.mk e_A e.length e_C) (bB.mk t_A tms.length t_C) (bB.mk f_A fs.length f_C) (bB.mk b_A bs.length b_C))))] (fun (x:(OA)×Nat)=>(vS x.1 ((gR (ck ln ri e tms)).length) x.2)) (fun (x:(OA)×Nat)=>True) (fun (x:(OA)×Nat)=>[(own x.1 x.2 3 1 ((gR (ck ln ri e tms)).map iC))]):=by
 have hw6:e.length≤6:=hw.n
 have hfl:fs.length=e.length+1:=hfw.len
 refine ff kr Tryz.func210 rfl rfl fun w0 Q hQ hN=>?_
 try dsimp only
 refine WS fun _ hK1=>rP 1 [] mn ?_
 refine RK hK1<|WS fun _ hK2=>rP 1 [] mn ?_
 refine RK hK2<|ai fun _ hK3=>WS fun _ hK4=>rP 1 [] mn ?_
 refine rS (SX (cf rfl rfl) rfl rfl)<|rP 6 [] (mr 7 rfl mn) ?_
 refine RK hK4<|av<|fI 3 1 ?_
 have hinit:(0≤e.length+1):=by exact Nat.zero_le _
 refine cp (ι:={z:Nat×(OA)×Nat // (z.1≤e.length+1)}) (fun z=>[(0,(vP gw)),(3,(vS z.1.2.1 ((jn (ck ln ri e tms) z.1.1).length) z.1.2.2)),(12,(vI (((ln.ab.n:Nat):Int)+1))),(13,(vI ((z.1.1:Nat):Int)))]) (fun z=>[(own z.1.2.1 z.1.2.2 3 1 ((jn (ck ln ri e tms) z.1.1).map iC)),(rd e_A e.length 1 (e.map iC)).ro,(rd t_A tms.length 1 (List.zipWith eV tms tb)).ro,(du (aU n8 tms tb)).ro,(rd f_A fs.length 1 (List.zipWith eV fs fb)).ro,(du (aU lx fs fb)).ro,(rd b_A bs.length 1 (List.zipWith eV bs bb)).ro,(du (aU lx bs bb)).ro,(br gw 276 (bK.cells (bK.mk ln ri (bB.mk e_A e.length e_C) (bB.mk t_A tms.length t_C) (bB.mk f_A fs.length f_C) (bB.mk b_A bs.length b_C)))).ro]) (fun z=>e.length+1-z.1.1) ⟨(0,none,0),hinit⟩ (aL rfl) (aG [0,1,2,3,4,5,6,7,8]) ?_
 clear hinit
 rintro ⟨⟨n,a,c⟩,hl3_0⟩ J5 hJ5
 try dsimp only at hl3_0
 try dsimp only
 refine WS fun _ hK6=>rP 1 [] mn ?_
 refine RK hK6<|ai fun _ hK7=>?_
 refine bM rfl (aQ fun h8=>?_) (aP fun h8=>?_)
 ·refine bp ?_
  refine ae<|ae<|au<|KK hK3<|WS fun _ hK26=>?_
  rw [show jn (ck ln ri e tms) n=gR (ck ln ri e tms) by (obtain rfl:n=e.length+1:=by omega); rfl]
  refine rP 2 [] mn ?_
  refine RK hK26<|an ?_
  refine hQ _ _ _ (aZ (vs:=[(vS a ((gR (ck ln ri e tms)).length) c)]) ⟨rfl,trivial⟩ fun w hs=>ej (a,c) [0] ?_ ?_ rfl rfl rfl hs)
  ·rfl
  ·trivial
 refine WK hK7<|ai fun _ hK9=>av<|WS fun _ hK10=>rP 2 [] mn ?_
 refine RK hK10<|WS fun _ hK11=>rP 1 [] mn ?_
 refine rS (SX (cf rfl rfl) rfl rfl)<|rP 3 [] (mr 8 rfl mn) ?_
 obtain ⟨m,hm0⟩:=aO fs n om
 obtain ⟨ma,hm0a⟩:=aO fb n om
 have hm0m:(List.zipWith eV fs fb)[n]? =some (eV m ma):=gn hm0 hm0a
 refine rS (IA n rfl (aA 4 rfl) m7 dc om om)<|rS (gU n 0 (Value.map (some ma)) rfl bJ (aA 4 rfl) hm0m rfl dc rfl)<|kd (kV:=dI) (m:=bw iV m) 5 rfl rfl nH rfl ⟨⟨(gQ dI ma (bw iV m)),(cm hm0 hm0a (by simp [lx])),rfl⟩,fun h=>h⟩ (show ji _ (gQ dI ma (bw iV m)).holds from dA 5 rfl (cm hm0 hm0a (by simp [lx]))) rfl fun r12=>?_
 try dsimp only
 refine RK hK11<|av ?_
 have hinit:(∀ p∈m,p∈m)∧(∀ p∈m,p∈m∨j4 (ck ln ri e tms) p.1=false):=by exact ⟨fun p hp=>hp,fun p hp=> .inl hp⟩
 refine cp (ι:={z:FM // (∀ p∈z,p∈m)∧(∀ p∈m,p∈z∨j4 (ck ln ri e tms) p.1=false)}) (fun z=>[(0,(vP gw)),(3,(vS a ((jn (ck ln ri e tms) n).length) c)),(4,(vI ((n:Nat):Int))),(12,(vI (((ln.ab.n:Nat):Int)+1))),(13,(vI ((n:Nat):Int))),(23,(vP r12))]) (fun z=>[(wo dI r12 ma (bw iV m) (bw iV z.1) none),(own a c 3 1 ((jn (ck ln ri e tms) n).map iC)),(rd e_A e.length 1 (e.map iC)).ro,(rd t_A tms.length 1 (List.zipWith eV tms tb)).ro,(du (aU n8 tms tb)).ro,(rd f_A fs.length 1 (List.zipWith eV fs fb)).ro,(du (aU lx fs fb)).ro,(rd b_A bs.length 1 (List.zipWith eV bs bb)).ro,(du (aU lx bs bb)).ro,(br gw 276 (bK.cells (bK.mk ln ri (bB.mk e_A e.length e_C) (bB.mk t_A tms.length t_C) (bB.mk f_A fs.length f_C) (bB.mk b_A bs.length b_C)))).ro]) (fun z=>z.1.length) ⟨m,hinit⟩ (aL rfl) (aG [0,1,2,3,4,5,6,7,8,9]) ?_
 clear hinit
 rintro ⟨left,⟨hl6_0,hl6_1⟩⟩ J13 hJ13
 try dsimp only
 refine WS fun _ hK14=>?_
 refine jE nB.inj (f:=iV) 0 rfl rfl rfl rfl (fun h24=>?_) (fun t v hm hnd=>?_)
 ·refine rP 1 [] mn ?_
  refine RK hK14<|ai fun _ hK15=>aW rfl<|bp<|ae<|ae<|au<|ax<|KK hK9<|ak ?_
  refine rP 2 [] mn ?_
  refine aB ?_
  rw [← CD (w:=(ck ln ri e tms)) (k:=n) ((ym (hfw.min _ _ hm0) (hfw.keys _ _ hm0)).symm.trans (FO hl6_1 h24))]
  have hb16:(vI (((n+1):Nat):Int))=(vI (((n:Nat):Int)+1)):=by exact cI om
  refine aN (hJ5 ⟨((n+1),a,c),(by first|omega|(simp only []; omega))⟩ _ _ _ rfl os (cv 3<|aY rfl hb16<|dK.nil _) (aG [1,2,3,4,5,6,7,8,9]))
 try dsimp only
 refine rP 1 [] mn ?_
 refine RK hK14<|ai fun _ hK17=>aI rfl<|WK hK17<|av<|WS fun _ hK18=>rS (SX (jL 0 rfl rfl rfl) rfl rfl)<|rP 1 [] mn ?_
 refine AL rfl rY fun b19=>f_ rfl qg rfl<|RK hK18<|WS fun _ hK20=>rP 2 [] (mc 0 rfl mn) ?_
 have htb:=EO hw _ _ (hfw.mem hm0 (hl6_0 _ hm))
 dsimp only at htb
 refine rS (CL (I6 ln ri e tms e_A e_C tb t_A t_C fs bs fb f_A f_C bb b_A b_C gw t sd hsg) (bh [3,4,5,6,7,8,9,10]) rfl)<|RK hK20 ?_
 refine bM rfl (fun h30=>?_) (fun h30=>?_)
 ·refine bZ ?_
  refine ax<|gT 1 rfl fx rfl ?_
  refine aN (hJ13 ⟨(cj left t),⟨lK hl6_0,EN hnd hm hl6_1 (by first|exact h30|simpa using h30)⟩⟩ _ _ _ rfl (eI hm) (aL rfl) (aG [1,2,3,4,5,6,7,8,9,10]))
 refine WS fun _ hK21=>rP 2 [] mn ?_
 refine fc (xs:=[.tmp 32]) (cs:=[(vI ((n:Nat):Int))]) rfl dB lT rfl rfl rfl rfl (by simp [Value.cells]) rfl rfl fun b22=>?_
 have hy:iU (ck ln ri e tms) (fwd (ck ln ri e tms) n)=true:=(ym (hfw.min _ _ hm0) (hfw.keys _ _ hm0)).symm.trans (Hw (hl6_0 _ hm) h30)
 refine er (es2:=(List.map iC (jn (ck ln ri e tms) (n+1)))) (m':=(jn (ck ln ri e tms) (n+1)).length) 3 rfl rfl rfl qe rfl rfl sm (a_ (es:=List.map iC [((n:Nat):Int)]) 0 rfl rfl (by simp [bT]) rfl) (kK _) (by have:=u6 (w:=(ck ln ri e tms)) (k:=n); first|omega|(simp; omega)) (by have:=u6 (w:=(ck ln ri e tms)) (k:=n); simp only [maxLen]; omega) (by rw [Ba hy]; simp) sm rfl fun a23 c24=>?_
 try dsimp only
 refine rP 1 [] mn ?_
 refine RK hK21<|bp<|im rfl<|ae<|au<|ax<|KK hK9<|ak<|rP 2 [] mn ?_
 refine aB ?_
 have hb25:(vI (((n+1):Nat):Int))=(vI (((n:Nat):Int)+1)):=by exact cI om
 refine aN (hJ5 ⟨((n+1),a23,c24),(by first|omega|(simp only []; omega))⟩ _ _ _ rfl os (cv 3<|aY rfl hb25<|dK.nil _) (aG [3,4,5,6,7,8,9,10,11]))
end
section
open Go.RowKit
theorem E5 (ln:cE) (ri:eE) (e:List Int) (tms:List TM) (e_A:OA) (e_C:Nat) (tb:List Nat) (t_A:OA) (t_C gw:Nat) (hw:DY (ck ln ri e tms)) (hn:ln.ab.n=e.length) (htb:tb.length=tms.length):
 Ee Tryz.prog 209 [(vP gw)] [(rd e_A e.length 1 (e.map iC)),(rd t_A tms.length 1 (List.zipWith eV tms tb)),(du (aU n8 tms tb))] (br gw 276 (bK.cells (bK.mk ln ri (bB.mk e_A e.length e_C) (bB.mk t_A tms.length t_C) (bB.mk none 0 0) (bB.mk none 0 0)))) (fun (x:(List FM)×(List Nat)×(OA)×Nat×(List FM)×(List Nat)×(OA)×Nat)=>(vT [])) (fun (x:(List FM)×(List Nat)×(OA)×Nat×(List FM)×(List Nat)×(OA)×Nat)=>vU (ck ln ri e tms) x.1∧sU (ck ln ri e tms) x.2.2.2.2.1∧x.2.1.length=x.1.length∧x.2.2.2.2.2.1.length=x.2.2.2.2.1.length) (fun (x:(List FM)×(List Nat)×(OA)×Nat×(List FM)×(List Nat)×(OA)×Nat)=>(bV [(br gw 276 (bK.cells (bK.mk ln ri (bB.mk e_A e.length e_C) (bB.mk t_A tms.length t_C) (bB.mk x.2.2.1 x.1.length x.2.2.2.1) (bB.mk x.2.2.2.2.2.2.1 x.2.2.2.2.1.length x.2.2.2.2.2.2.2)))),(own x.2.2.1 x.2.2.2.1 280 1 (List.zipWith eV x.1 x.2.1)),(bV (aU lx x.1 x.2.1)),(own x.2.2.2.2.2.2.1 x.2.2.2.2.2.2.2 280 1 (List.zipWith eV x.2.2.2.2.1 x.2.2.2.2.2.1)),(bV (aU lx x.2.2.2.2.1 x.2.2.2.2.2.1))])):=by
 have hw6:e.length≤6:=hw.n
 have hwt:tms.length=e.length:=hw.times
 refine o5 kr Tryz.func209 rfl rfl fun w0 Q hQ hN=>?_
 try dsimp only
 refine WS fun _ hK1=>t_ rfl rfl fun b2=>RK hK1<|WS fun _ hK3=>rP 1 [] (mc 0 rfl mn) ?_
 refine rS (SX (cf rfl rfl) rfl rfl)<|rP 5 [] (mc 1 rfl mn) ?_
 refine RK hK3 ?_
 refine pn (ι:={z:(OA)×(OA) // True}) (fun z=>[(0,(vP gw)),(1,(vP b2)),(2,(vI ((ln.ab.n:Nat):Int)))]) (fun z=>[(own z.1.1 (ln.ab.n+1) 280 1 (List.map oC (List.replicate (ln.ab.n+1) (none:Option Nat)))),(own z.1.2 (ln.ab.n+1) 280 1 (List.map oC (List.replicate (ln.ab.n+1) (none:Option Nat)))),(br b2 265 [(vP gw)]),(br gw 276 (bK.cells (bK.mk ln ri (bB.mk e_A e.length e_C) (bB.mk t_A tms.length t_C) (bB.mk z.1.1 (ln.ab.n+1) (ln.ab.n+1)) (bB.mk z.1.2 (ln.ab.n+1) (ln.ab.n+1))))),(rd e_A e.length 1 (e.map iC)).ro,(rd t_A tms.length 1 (List.zipWith eV tms tb)).ro,(du (aU n8 tms tb)).ro]) ?_ fun K4 hK4=>?_
 ·rintro ⟨⟨fA,bA⟩,_⟩
  try dsimp only
  refine zi 3 rfl rfl fun wz Sz hz=>?_
  have hl0:(List.replicate (ln.ab.n+1) (none:Option Nat)).length=(ln.ab.n+1):=List.length_replicate
  try dsimp only
  refine pn (ι:={z:Nat // True}) (fun z=>[(0,(vP gw)),(1,(vP b2)),(2,(vI ((ln.ab.n:Nat):Int)))]) (fun z=>[(bV (aU lx [[((ao.mk 0 0),ri.Start)]] [z.1])),(br gw 276 (bK.cells (bK.mk ln ri (bB.mk e_A e.length e_C) (bB.mk t_A tms.length t_C) (bB.mk fA (ln.ab.n+1) (ln.ab.n+1)) (bB.mk bA (ln.ab.n+1) (ln.ab.n+1))))).ro,(own fA (ln.ab.n+1) 280 1 (List.map oC (dL [z.1] (ln.ab.n+1)))),(own bA (ln.ab.n+1) 280 1 (List.map oC (List.replicate (ln.ab.n+1) (none:Option Nat)))),(br b2 265 [(vP gw)]),(rd e_A e.length 1 (e.map iC)).ro,(rd t_A tms.length 1 (List.zipWith eV tms tb)).ro,(du (aU n8 tms tb)).ro]) ?_ fun K5 hK5=>?_
  ·rintro ⟨ga,_⟩
   try dsimp only
   refine ai fun _ hK6=>WS fun _ hK7=>rP 2 [] mn ?_
   refine RK hK7<|av<|sD ?_
   have hinit:(0≤ln.ab.n)∧(([[((ao.mk 0 0),ri.Start)]]).length=0+1)∧(([ga]).length=0+1)∧(oO (ck ln ri e tms) ([[((ao.mk 0 0),ri.Start)]])):=by exact ⟨Nat.zero_le _,rfl,rfl,oO.first⟩
   refine ux (ι:={z:Nat×(List FM)×(List Nat)×(List Nat) // (z.1≤ln.ab.n)∧(z.2.1.length=z.1+1)∧(z.2.2.1.length=z.1+1)∧(oO (ck ln ri e tms) z.2.1)}) (fun z=>z.1.2.2.2.map kO) (fun z=>[(0,(vP gw)),(1,(vP b2)),(2,(vI ((ln.ab.n:Nat):Int))),(52,(vI ((ln.ab.n:Nat):Int))),(53,(vI ((z.1.1:Nat):Int)))]) (fun z=>[(bV (z.1.2.2.2.map lk)),(bV (aU lx z.1.2.1 z.1.2.2.1)),(br gw 276 (bK.cells (bK.mk ln ri (bB.mk e_A e.length e_C) (bB.mk t_A tms.length t_C) (bB.mk fA (ln.ab.n+1) (ln.ab.n+1)) (bB.mk bA (ln.ab.n+1) (ln.ab.n+1))))).ro,(own fA (ln.ab.n+1) 280 1 (List.map oC (dL z.1.2.2.1 (ln.ab.n+1)))),(own bA (ln.ab.n+1) 280 1 (List.map oC (List.replicate (ln.ab.n+1) (none:Option Nat)))),(br b2 265 [(vP gw)]),(rd e_A e.length 1 (e.map iC)).ro,(rd t_A tms.length 1 (List.zipWith eV tms tb)).ro,(du (aU n8 tms tb)).ro]) (fun z=>ln.ab.n-z.1.1) ⟨(0,[[((ao.mk 0 0),ri.Start)]],[ga],([]:List Nat)),hinit⟩ rfl (aL rfl) (aG [0,1,2,3,4,5,6,7,8]) ?_
   clear hinit
   rintro ⟨⟨b,fs,fb,rs5⟩,⟨hl5_0,hl5_1,hl5_2,hl5_3⟩⟩ J8 hJ8
   try dsimp only at hl5_0 hl5_1 hl5_2 hl5_3
   try dsimp only
   have hlf:(dL fb (ln.ab.n+1)).length=(ln.ab.n+1):=pQ om
   refine WS fun _ hK9=>rP 1 [] mn ?_
   refine RK hK9<|ai fun _ hK10=>?_
   refine cP rfl (aP fun h11=>?_) (aQ fun h11=>?_)
   ·refine WK hK10 ?_
    refine ai fun _ hK12=>av<|WS fun _ hK13=>rP 1 [] mn ?_
    refine AL rfl lT fun b14=>GW rfl DI rfl rfl<|RK hK13<|ai fun _ hK15=>ep cD [6,8] [6] [0] [0,1,2,3,5,6,7,8,9] [0,1,2,3,4,5,6,7,8,9] rfl rfl rfl rfl rfl<|eS rfl (Ax 5 rfl bJ rfl)<|eS rfl (SX (cf rfl rfl) rfl rfl)<|eS rfl (FA 12 rfl gp rfl)<|eS rfl (Ed (vS fA (ln.ab.n+1) (ln.ab.n+1)) 3 rfl bJ rfl rfl)<|eS rfl (Ax 0 rfl bJ rfl) ?_
    refine eS rfl (BI rfl (g8 ⟨om,om⟩)) ?_
    obtain ⟨x16,hx17⟩:=aO (dL fb (ln.ab.n+1)) (b+1) om
    have hx17m:(List.map oC (dL fb (ln.ab.n+1)))[(b+1)]? =some (oC x16):=by rw [fq,hx17]; rfl
    refine fS rfl (IA (b+1) rfl (aK (n:=(ln.ab.n+1)) 4 rfl sq) m7 dc om om)<|fp rfl<|l8 rfl fun T18 hT18=>mD (kV:=dI) rfl rfl fun b19=>?_
    try dsimp only
    refine aB (hT18 _ _ (aG [1,2,3,4,6,7,8,9,10]) (aG [1,2,3,4,5,6,7,8,9,10]) ?_)
    refine cr rfl fun T20 hT20=>?_
    have hb21:((dL fb (ln.ab.n+1)).set (b+1) (some b19))=(dL (fb++[b19]) (ln.ab.n+1)):=by exact s_ om om
    refine hZ (k:=(b+1)) (o:=0) (vs:=[(Value.map (some b19))]) (es':=(List.map oC (dL (fb++[b19]) (ln.ab.n+1)))) (C':=[_,_,_,_,_,(own fA (ln.ab.n+1) 280 1 (List.map oC (dL (fb++[b19]) (ln.ab.n+1)))),_,_,_,_,_]) 5 rfl rfl rfl Gv rfl rfl rfl rfl hx17m rfl dc (by exact (List.map_set (f:=oC) (l:=(dL fb (ln.ab.n+1))) (i:=(b+1)) (a:=(some b19))).symm.trans (congrArg _ hb21)) rfl ?_
    refine aB (hT20 _ _ (aG [1,2,3,4,6,7,8,9,10]) ?_)
    refine gh rfl<|KK hK15<|ai fun _ hK22=>?_
    have hlq23:(dL (fb++[b19]) (ln.ab.n+1)).length=(ln.ab.n+1):=pQ (by simp; omega)
    obtain ⟨mb,hmb⟩:=aO fs b om
    obtain ⟨ga,hga⟩:=aO fb b om
    refine B6 3 hmb hga rfl rfl rfl ?_
    try dsimp only
    refine dC cD 7 kr<|dP 1 [] (mc 8 rfl mn) ?_
    refine dS (SX (cf rfl rfl) rfl rfl)<|dP 3 [0,1] (mr 5 rfl (mc 3 rfl mn)) ?_
    have hk24:(List.map oC (dL (fb++[b19]) (ln.ab.n+1)))[b]? =some (oC (some ga)):=qn (nN (FF hga))
    refine dS (IA b rfl (aK (n:=(ln.ab.n+1)) 6 rfl sq) m7 dc om om)<|dS (gU b 0 (Value.map (some ga)) rfl bJ (aK (n:=(dL (fb++[b19]) (ln.ab.n+1)).length) 6 rfl sm) hk24 rfl dc rfl)<|cO<|sX 0 rfl rfl nH rfl rfl fun r25=>?_
    try dsimp only
    refine RK hK22<|av ?_
    have hinit:(∀ p∈mb,p∈mb)∧(vp (ck ln ri e tms) b ([]:FM))∧(jA (ck ln ri e tms) b mb ([]:FM) mb):=by exact ⟨fun p hp=>hp,vp.start,jA.start⟩
    refine ux (ι:={z:FM×FM×(List Nat) // (∀ p∈z.1,p∈mb)∧(vp (ck ln ri e tms) b z.2.1)∧(jA (ck ln ri e tms) b mb z.2.1 z.1)}) (fun z=>z.1.2.2.map kO) (fun z=>[(0,(vP gw)),(1,(vP b2)),(2,(vI ((ln.ab.n:Nat):Int))),(3,(vP b14)),(52,(vI ((ln.ab.n:Nat):Int))),(53,(vI ((b:Nat):Int))),(71,(vP r25))]) (fun z=>[(wJ dI r25 ga (bw iV mb) (bw iV z.1.1) none),(bV (il lx fs fb b)),(gQ dI b19 (bw iV z.1.2.1)),(br b14 3 [(vI ((b:Nat):Int))]),(bV (z.1.2.2.map lk)),(br gw 276 (bK.cells (bK.mk ln ri (bB.mk e_A e.length e_C) (bB.mk t_A tms.length t_C) (bB.mk fA (ln.ab.n+1) (ln.ab.n+1)) (bB.mk bA (ln.ab.n+1) (ln.ab.n+1))))).ro,(own fA (ln.ab.n+1) 280 1 (List.map oC (dL (fb++[b19]) (ln.ab.n+1)))),(own bA (ln.ab.n+1) 280 1 (List.map oC (List.replicate (ln.ab.n+1) (none:Option Nat)))),(br b2 265 [(vP gw)]),(rd e_A e.length 1 (e.map iC)).ro,(rd t_A tms.length 1 (List.zipWith eV tms tb)).ro,(du (aU n8 tms tb)).ro]) (fun z=>z.1.1.length) ⟨(mb,([]:FM),rs5),hinit⟩ rfl (aL rfl) (aG [0,1,2,3,4,5,6,7,8,9,10,11]) ?_
    clear hinit
    rintro ⟨⟨left,m,rs9⟩,⟨hl9_0,hl9_1,hl9_2⟩⟩ J26 hJ26
    try dsimp only at hl9_0 hl9_1 hl9_2
    try dsimp only
    refine WS fun _ hK27=>?_
    refine qC nB.inj (f:=iV) 0 rfl rfl rfl rfl (fun h72=>?_) (fun t v hm hnd=>?_)
    ·refine rP 1 [] mn ?_
     refine RK hK27<|ai fun _ hK28=>aW rfl<|bp<|ae<|ae<|au<|ax<|KK hK12<|ak ?_
     refine rP 2 [] mn ?_
     refine aB<|ED (C':=[(gQ dI ga (bw iV mb)),(bV (il lx fs fb b)),(gQ dI b19 (bw iV m)),(br b14 3 [(vI ((b:Nat):Int))]),(bV (rs9.map lk)),(br gw 276 (bK.cells (bK.mk ln ri (bB.mk e_A e.length e_C) (bB.mk t_A tms.length t_C) (bB.mk fA (ln.ab.n+1) (ln.ab.n+1)) (bB.mk bA (ln.ab.n+1) (ln.ab.n+1))))).ro,(own fA (ln.ab.n+1) 280 1 (List.map oC (dL (fb++[b19]) (ln.ab.n+1)))),(own bA (ln.ab.n+1) 280 1 (List.map oC (List.replicate (ln.ab.n+1) (none:Option Nat)))),(br b2 265 [(vP gw)]),(rd e_A e.length 1 (e.map iC)).ro,(rd t_A tms.length 1 (List.zipWith eV tms tb)).ro,(du (aU n8 tms tb)).ro]) 0 rfl Ez rfl<|Fa 1 0 hmb hga rfl rfl rfl ?_
     try dsimp only
     refine zI (X':=aU lx (fs++[m]) (fb++[b19])) 0 1 rfl rfl (wF om rfl) ?_
     try dsimp only
     have hb29:(vI (((b+1):Nat):Int))=(vI (((b:Nat):Int)+1)):=by exact cI om
     refine aN (hJ8 ⟨((b+1),(fs++[m]),(fb++[b19]),rs9),⟨om,by simp; omega,by simp; omega,hl5_3.add hl5_1 hmb hl9_1 hl9_2 h72⟩⟩ _ _ _ rfl os (cv 4<|aY rfl hb29<|dK.nil _) (aG [2,0,3,4,5,6,7,8,9]))
    try dsimp only
    refine rP 1 [] mn ?_
    refine RK hK27<|ai fun _ hK30=>aI rfl<|WK hK30<|av<|WS fun _ hK31=>rS (SX (qp 0 rfl rfl rfl) rfl rfl)<|rP 2 [] mn ?_
    refine AL rfl rY fun b32=>AL rfl lT fun b33=>oV rfl qg rfl<|GW rfl DI rfl rfl<|RK hK31<|WS fun _ hK34=>rP 2 [0,1] (mc 10 rfl (mc 5 rfl mn)) ?_
    refine cX (sK gw b) (aT) rfl fun y35 hy36=>?_
    obtain ⟨x137,x238⟩:=y35
    try dsimp only
    refine RK hK34<|av<|ky 13 rfl (by exact fun _ h=>h)<|ky 15 rfl (by exact fun _ h=>h)<|ky 17 rfl (by exact fun _ h=>h)<|ky 12 rfl (by exact fun _ h=>h) ?_
    refine nA (L0:=[(0,(vP gw)),(1,(vP b2)),(2,(vI ((ln.ab.n:Nat):Int))),(3,(vP b14)),(4,(vP b32)),(5,(vP b33)),(52,(vI ((ln.ab.n:Nat):Int))),(53,(vI ((b:Nat):Int))),(71,(vP r25))]) (F:=[(rd e_A e.length 1 (e.map iC)).ro,(rd t_A tms.length 1 (List.zipWith eV tms tb)).ro,(du (aU n8 tms tb)).ro,(br gw 276 (bK.cells (bK.mk ln ri (bB.mk e_A e.length e_C) (bB.mk t_A tms.length t_C) (bB.mk fA (ln.ab.n+1) (ln.ab.n+1)) (bB.mk bA (ln.ab.n+1) (ln.ab.n+1))))).ro,(br x137 265 [(vP gw)]),(br x238 3 [(vI ((b:Nat):Int))])]) (fun k (y:FM)=>(mI (ck ln ri e tms) b mb left y (t,v) k)) (fun k y=>[(br b33 3 [(vI v)]),(br b32 282 (ao.cells t)),(wJ dI r25 ga (bw iV mb) (bw iV (cj left t)) (some (t,(vI v)))),(bV (il lx fs fb b)),(gQ dI b19 (bw iV y)),(br b14 3 [(vI ((b:Nat):Int))]),(bV (rs9.map lk)),(br gw 276 (bK.cells (bK.mk ln ri (bB.mk e_A e.length e_C) (bB.mk t_A tms.length t_C) (bB.mk fA (ln.ab.n+1) (ln.ab.n+1)) (bB.mk bA (ln.ab.n+1) (ln.ab.n+1))))).ro,(own fA (ln.ab.n+1) 280 1 (List.map oC (dL (fb++[b19]) (ln.ab.n+1)))),(own bA (ln.ab.n+1) 280 1 (List.map oC (List.replicate (ln.ab.n+1) (none:Option Nat)))),(br b2 265 [(vP gw)]),(rd e_A e.length 1 (e.map iC)).ro,(rd t_A tms.length 1 (List.zipWith eV tms tb)).ro,(du (aU n8 tms tb)).ro]) (fun _ (_:Unit)=>False) (fun _ _=>[]) [6,7,8,9,10,11,12,13,14,15,16,17,18,19] [3,2,1,0,4,5] m rfl rfl (qo ln ri e tms e_A e_C tb t_A t_C fA (ln.ab.n+1) (ln.ab.n+1) bA (ln.ab.n+1) (ln.ab.n+1) gw b x137 x238 om om) rfl rfl rfl (by exact mI.start hl9_1 hl9_2) (by simp only [List.forall_mem_cons,List.not_mem_nil,false_imp_iff,implies_true,and_true]; exact ⟨⟨_,aw (i:=0) rfl,(eD (bO _))⟩,⟨_,aw (i:=1) rfl,(eD (bO _))⟩,⟨_,aw (i:=2) rfl,(eD (bO _))⟩,⟨_,aw (i:=3) rfl,(eD (bO _))⟩,⟨_,aw (i:=4) rfl,(bO _)⟩,⟨_,aw (i:=5) rfl,(bO _)⟩⟩) (by rintro k x k2 ⟨o,_,rfl,_⟩; rfl) rfl (aL rfl) ?_ ?_ (fun _ _ _ h=>h.elim) (fun _ _ h=>h.elim)
    rotate_left 1
    ·rintro r53 k m2 hfin hin54
     have hr0:=hin54
     try dsimp only
     refine ax<|ax<|ER (X:=rs9.map lk) 13 0 rfl rfl ?_
     try dsimp only
     refine gT 9 rfl vZ rfl ?_
     refine aN (hJ26 ⟨((cj left t),m2,(r53::rs9)),⟨lK hl9_0,hr0.on,hr0.next hnd hm hfin⟩⟩ _ _ _ rfl (eI hm) (aL rfl) (aG [9,10,11,12,0,4,14,15,16,1,2,3]))
    rintro k x k2 m2 l ra rb S w1 K39 Qr40 hsz hx hin41 hK39 hQr40 xQr40 yQr40
    obtain ⟨o,ho,rfl,rfl⟩:=hx
    have hr0:=hin41
    try dsimp only
    refine WS fun _ hK42=>rP 1 [] mn ?_
    refine RK hK42<|ak<|AL rfl cV fun b43=>f_ rfl bY rfl<|aB<|jz (fun _ _ h=>h) (aG [1,0,2,3,4,5,6,7,8,9,10,11,12,13,14,15]) ?_
    refine aN (hK39 _ _ ?_)
    refine av<|ai fun _ hK44=>ep cD [16,18] [] [] [0,1,2,3,4,5,6,7,8,9,10,11,12,13,14,15] [] rfl rfl rfl rfl rfl<|eS rfl (Ax 2 rfl bJ rfl)<|eS rfl (Ax 12 rfl bJ rfl)<|eS rfl (SX (cf rfl rfl) rfl rfl)<|eS rfl (FA 10 rfl gp rfl)<|eS rfl (Ed (vS e_A e.length e_C) 9 rfl bJ rfl rfl)<|eS rfl (Ax 7 rfl bJ rfl) ?_
    obtain ⟨y,hy⟩:=aO e b om
    have hym:=bI iC hy
    refine eS rfl (IA b rfl (aA 13 rfl) dB dc om om)<|eS rfl (gU b 0 (vI y) rfl bJ (aA 13 rfl) hym rfl dc rfl) ?_
    have hlb:=hw.least y (aw hy)
    have hp:=hl5_3.mem hmb (hl9_0 _ hm)
    have hfp:=EO hw _ _ hp
    have ho1:=sN o.1
    have hob:=hw.opt ho
    have hnw:=hw.now
    dsimp only at hfp
    refine eS rfl (BI rfl (g8 ⟨om,om⟩))<|eS rfl (FA 0 rfl gp rfl)<|eS rfl (L1 (vI o.2.Lo) 1 rfl bJ rfl rfl)<|eS rfl (MX rfl)<|eS rfl (LW 3 rfl bJ rfl rfl)<|eS rfl (MV rfl)<|eS rfl (CL (F5 o.1) (aT) rfl)<|eS rfl (CL (uf t (eL o.1) sd sd) (aT) rfl)<|eS rfl (AG rfl)<|fp rfl ?_
    refine cr rfl fun T45 hT45=>AL rfl rY fun b46=>?_
    refine aB (hT45 _ _ (aG [1,2,3,4,5,6,7,8,9,10,11,12,13,14,15,16]) ?_)
    refine cr rfl fun T47 hT47=>f_ rfl qg rfl ?_
    refine aB (hT47 _ _ (aG [1,2,3,4,5,6,7,8,9,10,11,12,13,14,15,16]) ?_)
    refine gh rfl<|KK hK44<|ai fun _ hK48=>dC cD 15 kr<|dP 1 [] (mc 13 rfl mn) ?_
    refine dS (SX (cf rfl rfl) rfl rfl)<|dP 4 [0,1] (mr 10 rfl (mc 8 rfl mn)) ?_
    have hk49:(List.map oC (dL (fb++[b19]) (ln.ab.n+1)))[(b+1)]? =some (oC (some b19)):=qn (nN (xP om))
    refine dS (IA (b+1) rfl (aK (n:=(ln.ab.n+1)) 11 rfl sq) m7 dc om om)<|dS (gU (b+1) 0 (Value.map (some b19)) rfl bJ (aK (n:=(dL (fb++[b19]) (ln.ab.n+1)).length) 11 rfl sm) hk49 rfl dc rfl)<|dP 1 [] (mc 0 rfl mn) ?_
    refine dS (SX (iY (kV:=dI) (x:=(c_ t (eL o.1))) (l:=m2) (f:=iV) (z:=0) rfl rfl rfl nH nB N5 (by exact aA 7 rfl)) rfl rfl)<|dP 5 [] mn ?_
    refine cO<|RK hK48<|ai fun _ hK50=>dC cD 19 kr<|dP 4 [0,1] (mc 2 rfl (mc 13 rfl mn)) ?_
    refine dS (SX (cf rfl rfl) rfl rfl)<|dP 3 [] (mr 10 rfl mn) ?_
    refine dS (MN rfl)<|dP 2 [] mn ?_
    refine jT (t:=121) rfl (aQ fun h121=>?_) (aP fun h121=>?_)
    ·refine dP 8 [] mn ?_
     refine cO<|RK hK50<|aW rfl<|bZ<|ax ?_
     exact hQr40 m2 _ _ (by first|exact hr0.skip (qX hy h121)|exact hr0.lh (j_ hy h121) (by simpa using h124) h129|exact hr0.set hp ho (j_ hy h121) (.inl (by simpa using h124))|exact hr0.set hp ho (j_ hy h121) (.inr h129)) (aG [1,3,4,5,6,7,8,9,10,11,12,13,14,15,16])
    refine dP 3 [] mn ?_
    refine iL (t:=124) rfl (fun h124=>?_) (fun h124=>?_)
    ·rw [Bool.not_eq_true'] at h124
     refine dP 5 [] mn ?_
     refine cO<|RK hK50<|aI rfl<|dC cD 10 kr<|dP 1 [] (mc 13 rfl mn) ?_
     refine dS (SX (cf rfl rfl) rfl rfl)<|dP 4 [0,1] (mr 10 rfl (mc 8 rfl mn)) ?_
     have hk51:(List.map oC (dL (fb++[b19]) (ln.ab.n+1)))[(b+1)]? =some (oC (some b19)):=qn (nN (xP om))
     refine dS (IA (b+1) rfl (aK (n:=(ln.ab.n+1)) 11 rfl sq) m7 dc om om)<|dS (gU (b+1) 0 (Value.map (some b19)) rfl bJ (aK (n:=(dL (fb++[b19]) (ln.ab.n+1)).length) 11 rfl sm) hk51 rfl dc rfl)<|dP 2 [] (mc 0 rfl mn) ?_
     refine cO<|jk (kV:=dI) (x:=(c_ t (eL o.1))) (C':=[_,_,_,_,_,_,_,(gQ dI b19 (bw iV (eg m2 (c_ t (eL o.1)) (max (v+y) o.2.Lo)))),_,_,_,_,_,_,_,_,_]) 7 rfl rfl rfl rfl nH nB rfl (gK _ _ _ _).symm rfl<|aB<|ax ?_
     exact hQr40 (eg m2 (c_ t (eL o.1)) (max (v+y) o.2.Lo)) _ _ (by first|exact hr0.skip (qX hy h121)|exact hr0.lh (j_ hy h121) (by simpa using h124) h129|exact hr0.set hp ho (j_ hy h121) (.inl (by simpa using h124))|exact hr0.set hp ho (j_ hy h121) (.inr h129)) (aG [1,3,4,5,6,7,8,9,10,11,12,13,14,15,16])
    rw [Bool.not_eq_false'] at h124
    refine dP 5 [] mn ?_
    refine cO<|RK hK50 ?_
    refine bM rfl (aQ fun h129=>?_) (aP fun h129=>?_)
    ·refine bZ ?_
     refine ax ?_
     exact hQr40 m2 _ _ (by first|exact hr0.skip (qX hy h121)|exact hr0.lh (j_ hy h121) (by simpa using h124) h129|exact hr0.set hp ho (j_ hy h121) (.inl (by simpa using h124))|exact hr0.set hp ho (j_ hy h121) (.inr h129)) (aG [1,3,4,5,6,7,8,9,10,11,12,13,14,15,16])
    refine dC cD 10 kr<|dP 1 [] (mc 13 rfl mn) ?_
    refine dS (SX (cf rfl rfl) rfl rfl)<|dP 4 [0,1] (mr 10 rfl (mc 8 rfl mn)) ?_
    have hk52:(List.map oC (dL (fb++[b19]) (ln.ab.n+1)))[(b+1)]? =some (oC (some b19)):=qn (nN (xP om))
    refine dS (IA (b+1) rfl (aK (n:=(ln.ab.n+1)) 11 rfl sq) m7 dc om om)<|dS (gU (b+1) 0 (Value.map (some b19)) rfl bJ (aK (n:=(dL (fb++[b19]) (ln.ab.n+1)).length) 11 rfl sm) hk52 rfl dc rfl)<|dP 2 [] (mc 0 rfl mn) ?_
    refine cO<|jk (kV:=dI) (x:=(c_ t (eL o.1))) (C':=[_,_,_,_,_,_,_,(gQ dI b19 (bw iV (eg m2 (c_ t (eL o.1)) (max (v+y) o.2.Lo)))),_,_,_,_,_,_,_,_,_]) 7 rfl rfl rfl rfl nH nB rfl (gK _ _ _ _).symm rfl<|aB<|ax ?_
    exact hQr40 (eg m2 (c_ t (eL o.1)) (max (v+y) o.2.Lo)) _ _ (by first|exact hr0.skip (qX hy h121)|exact hr0.lh (j_ hy h121) (by simpa using h124) h129|exact hr0.set hp ho (j_ hy h121) (.inl (by simpa using h124))|exact hr0.set hp ho (j_ hy h121) (.inr h129)) (aG [1,3,4,5,6,7,8,9,10,11,12,13,14,15,16])
   refine bp<|ae<|ae<|au<|KK hK6<|WS fun _ hK55=>rP 1 [] mn ?_
   refine AL rfl lT fun b56=>GW rfl DI rfl rfl<|RK hK55<|av ?_
   rw [CV]
   refine sD ?_
   have hinit:(0≤ln.ab.n+1)∧(([]:List FM).length=0)∧(([]:List Nat).length=0)∧(gC (ck ln ri e tms) (ln.ab.n+1-0) ([]:List FM)):=by exact ⟨Nat.zero_le _,rfl,rfl,gC.none_⟩
   refine ux (ι:={z:Nat×(List FM)×(List Nat)×Nat×(List Nat) // (z.1≤ln.ab.n+1)∧(z.2.1.length=z.1)∧(z.2.2.1.length=z.1)∧(gC (ck ln ri e tms) (ln.ab.n+1-z.1) z.2.1)}) (fun z=>z.1.2.2.2.2.map kO) (fun z=>[(0,(vP gw)),(1,(vP b2)),(2,(vI ((ln.ab.n:Nat):Int))),(12,(Value.pointer (some ⟨z.1.2.2.2.1,0,none⟩)))]) (fun z=>[(bV (aU lx z.1.2.1 z.1.2.2.1)),(br z.1.2.2.2.1 3 [(vI (((ln.ab.n:Nat):Int)-((z.1.1:Nat):Int)))]),(bV (z.1.2.2.2.2.map lk)),(bV (aU lx fs fb)),(br gw 276 (bK.cells (bK.mk ln ri (bB.mk e_A e.length e_C) (bB.mk t_A tms.length t_C) (bB.mk fA (ln.ab.n+1) (ln.ab.n+1)) (bB.mk bA (ln.ab.n+1) (ln.ab.n+1))))).ro,(own fA (ln.ab.n+1) 280 1 (List.map oC (dL fb (ln.ab.n+1)))),(own bA (ln.ab.n+1) 280 1 (List.map oC (gP z.1.2.2.1 (ln.ab.n+1)))),(br b2 265 [(vP gw)]),(rd e_A e.length 1 (e.map iC)).ro,(rd t_A tms.length 1 (List.zipWith eV tms tb)).ro,(du (aU n8 tms tb)).ro]) (fun z=>ln.ab.n+1-z.1.1) ⟨(0,([]:List FM),([]:List Nat),b56,rs5),hinit⟩ rfl (aL rfl) (aG [0,1,2,3,4,5,6,7,8,9,10]) ?_
   clear hinit
   rintro ⟨⟨j,bs,bb,gq,rs20⟩,⟨hl20_0,hl20_1,hl20_2,hl20_3⟩⟩ J57 hJ57
   try dsimp only at hl20_0 hl20_1 hl20_2 hl20_3
   try dsimp only
   refine ai fun _ hK58=>WS fun _ hK59=>rP 2 [] (mc 1 rfl mn) ?_
   refine RK hK59 ?_
   refine bM rfl (aQ fun h143=>?_) (aP fun h143=>?_)
   ·refine bp ?_
    refine ae<|ae<|au ?_
    rw [show (List.map oC (dL fb (ln.ab.n+1)))=(List.zipWith eV fs fb) from by rw [w8 om]; exact (xS om).symm]
    rw [show (List.map oC (gP bb (ln.ab.n+1)))=(List.zipWith eV bs bb) from by rw [Ds om]; exact (xS om).symm]
    refine x5 (C1:=[(own fA (ln.ab.n+1) 280 1 (List.zipWith eV fs fb)),(bV (aU lx fs fb)),(own bA (ln.ab.n+1) 280 1 (List.zipWith eV bs bb)),(bV (aU lx bs bb)),(bV (rs20.map lk))]) hz [5,3,6,0,2] rfl rfl (by simp only [cg,List.all_nil,nG,H5,Bool.and_true]; rfl) ?_
    rw [show (br gw 276 (bK.cells (bK.mk ln ri (bB.mk e_A e.length e_C) (bB.mk t_A tms.length t_C) (bB.mk fA (ln.ab.n+1) (ln.ab.n+1)) (bB.mk bA (ln.ab.n+1) (ln.ab.n+1)))))=(br gw 276 (bK.cells (bK.mk ln ri (bB.mk e_A e.length e_C) (bB.mk t_A tms.length t_C) (bB.mk fA fs.length (ln.ab.n+1)) (bB.mk bA bs.length (ln.ab.n+1))))) from by rw [show fs.length=(ln.ab.n+1) from by omega,show bs.length=(ln.ab.n+1) from by omega]]
    refine J1 [(br gw 276 (bK.cells (bK.mk ln ri (bB.mk e_A e.length e_C) (bB.mk t_A tms.length t_C) (bB.mk fA fs.length (ln.ab.n+1)) (bB.mk bA bs.length (ln.ab.n+1))))),(own fA (ln.ab.n+1) 280 1 (List.zipWith eV fs fb)),(bV (aU lx fs fb)),(own bA (ln.ab.n+1) 280 1 (List.zipWith eV bs bb)),(bV (aU lx bs bb))] [(bV (rs20.map lk))] ?_
    refine hN _ _ _ (FE 1 rfl rfl<|aZ (vs:=[]) trivial fun w hs=>vM (fs,fb,fA,(ln.ab.n+1),bs,bb,bA,(ln.ab.n+1)) 0 ?_ ?_ rfl (by show List.all _ _=true; simp only [cg,List.all_nil,nG,Bool.and_true]; rfl) hs)
    ·clear hs w hQ hN hK59 hK58 hK55 hK10 hK9 hK7 hK6 hK3 hK1; rfl
    ·clear hs w hQ hN hK59 hK58 hK55 hK10 hK9 hK7 hK6 hK3 hK1; exact ⟨hl5_3.ok (by show fs.length=e.length+1; omega),gC.ok (by have:=hl20_3; rwa [show ln.ab.n+1-j=0 by omega] at this) (by show bs.length=e.length+1; omega),dso,dso⟩
   refine WK hK58<|ai fun _ hK60=>av<|ai fun _ hK61=>?_
   obtain ⟨b,hbj⟩: ∃ b:Nat,b+j=ln.ab.n:=⟨ln.ab.n-j,om⟩
   rw [show ((ln.ab.n:Nat):Int)-((j:Nat):Int)=((b:Nat):Int) from by omega]
   have hlb0:(gP bb (ln.ab.n+1)).length=(ln.ab.n+1):=w5 om
   refine ep cD [5,12,13,15] [11] [0,1,2] [0,1,2,3,4,5,7,8,9,10] [0,1,2,3,4,5,6,7,8,9,10] rfl rfl rfl rfl rfl<|eS rfl (Ax 6 rfl bJ rfl)<|eS rfl (SX (cf rfl rfl) rfl rfl)<|eS rfl (FA 13 rfl gp rfl)<|eS rfl (Ed (vS bA (ln.ab.n+1) (ln.ab.n+1)) 4 rfl bJ rfl rfl)<|eS rfl (Ax 1 rfl bJ rfl)<|eS rfl (SX (bg (xs:=[]) (cs:=(ao.cells (ao.mk 0 0))) rfl rfl (bf yr rfl)) rfl rfl)<|eS rfl (Ax 6 rfl bJ rfl)<|eS rfl (SX (cf rfl rfl) rfl rfl)<|eS rfl (FA 7 rfl gp rfl) ?_
   refine eS rfl (FA 8 rfl gp rfl)<|eS rfl (Ed (vI ri.fR) 4 rfl bJ rfl rfl) ?_
   obtain ⟨x62,hx63⟩:=aO (gP bb (ln.ab.n+1)) b om
   have hx63m:(List.map oC (gP bb (ln.ab.n+1)))[b]? =some (oC x62):=by rw [fq,hx63]; rfl
   refine fS rfl (IA b rfl (aK (n:=(ln.ab.n+1)) 6 rfl sq) m7 dc om om)<|fp rfl<|l8 rfl fun T64 hT64=>mD (kV:=dI) rfl rfl fun b65=>?_
   try dsimp only
   refine aB (hT64 _ _ (aG [1,2,3,4,5,6,8,9,10,11]) (aG [1,2,3,4,5,6,7,8,9,10,11]) ?_)
   refine l8 rfl fun T66 hT66=>?_
   have hb67:(eg ([]:List (ao×Int)) (ao.mk 0 0) ri.fR)=[((ao.mk 0 0),ri.fR)]:=by rfl
   refine xr (kV:=dI) (x:=(ao.mk 0 0)) (C':=[(gQ dI b65 (bw iV ([((ao.mk 0 0),ri.fR)]))),_,_,_,_,_,_,_,_,_,_,_]) 0 rfl rfl rfl rfl nH nB rfl ((gK _ _ _ _).symm.trans (congrArg _ hb67)) rfl ?_
   refine aB (hT66 _ _ (aG [1,2,3,4,5,6,8,9,10,11]) (aG [1,2,3,4,5,6,7,8,9,10,11]) ?_)
   refine l8 rfl fun T68 hT68=>rS (MV rfl) ?_
   refine aB (hT68 _ _ (aG [1,2,3,4,5,6,8,9,10,11]) (aG [1,2,3,4,5,6,7,8,9,10,11]) ?_)
   refine cr rfl fun T69 hT69=>?_
   have hb70:((gP bb (ln.ab.n+1)).set b (some b65))=(gP (b65::bb) (ln.ab.n+1)):=by exact Db om
   refine hZ (k:=b) (o:=0) (vs:=[(Value.map (some b65))]) (es':=(List.map oC (gP (b65::bb) (ln.ab.n+1)))) (C':=[_,_,_,_,_,_,_,(own bA (ln.ab.n+1) 280 1 (List.map oC (gP (b65::bb) (ln.ab.n+1)))),_,_,_,_]) 7 rfl rfl rfl Gv rfl rfl rfl rfl hx63m rfl dc (by exact (List.map_set (f:=oC) (l:=(gP bb (ln.ab.n+1))) (i:=b) (a:=(some b65))).symm.trans (congrArg _ hb70)) rfl ?_
   refine aB (hT69 _ _ (aG [1,2,3,4,5,6,8,9,10,11]) ?_)
   refine gh rfl<|KK hK61<|ai fun _ hK71=>WS fun _ hK72=>rP 3 [] (mc 2 rfl mn) ?_
   refine RK hK72 ?_
   refine cP rfl (aP fun h162=>?_) (aQ fun h162=>?_)
   ·refine bp ?_
    refine ae<|au<|KK hK60<|ai fun _ hK73=>WS fun _ hK74=>rP 1 [] (mc 2 rfl mn) ?_
    refine RK hK74<|ak<|AL rfl lT fun b75=>GW rfl DI rfl rfl<|RK hK73<|ak<|rP 2 [] (mc 0 rfl mn) ?_
    refine GW rfl DI rfl rfl<|aB ?_
    rw [show ((b:Nat):Int)-1=((ln.ab.n:Nat):Int)-(((j+1):Nat):Int) from by omega]
    refine wY (ms:=bs) (m:=[((ao.mk 0 0),ri.fR)]) (a:=b65) 2 1 rfl rfl rfl ?_
    try dsimp only
    refine aN (hJ57 ⟨((j+1),([((ao.mk 0 0),ri.fR)]::bs),(b65::bb),b75,rs20),⟨om,by simp; omega,by simp; omega,by first|exact gC.end_ (b:=b) hl20_3 om om (by show e.length≤b; omega)|exact gC.more (b:=b) hl20_3 om om (by show b<e.length; omega) hmb hl25_1 hl25_2 h172⟩⟩ _ _ _ rfl os (aL rfl) (aG [0,1,3,4,5,6,7,8,9,10,11]))
   refine WK hK71<|ai fun _ hK76=>?_
   have hlq77:(gP (b65::bb) (ln.ab.n+1)).length=(ln.ab.n+1):=w5 (by simp; omega)
   obtain ⟨mb,hmb⟩:=aO bs 0 om
   obtain ⟨ga,hga⟩:=aO bb 0 om
   refine B6 1 hmb hga rfl rfl rfl ?_
   try dsimp only
   refine dC cD 8 kr<|dP 1 [] (mc 9 rfl mn) ?_
   refine dS (SX (cf rfl rfl) rfl rfl)<|dP 4 [0,1] (mr 6 rfl (mc 3 rfl mn)) ?_
   have hk78:(List.map oC (gP (b65::bb) (ln.ab.n+1)))[(b+1)]? =some (oC (some ga)):=qn (rU (i:=1) (by simpa using hga) (by simp; omega))
   refine dS (IA (b+1) rfl (aK (n:=(ln.ab.n+1)) 8 rfl sq) m7 dc om om)<|dS (gU (b+1) 0 (Value.map (some ga)) rfl bJ (aK (n:=(gP (b65::bb) (ln.ab.n+1)).length) 8 rfl sm) hk78 rfl dc rfl)<|cO<|sX 0 rfl rfl nH rfl rfl fun r79=>?_
   try dsimp only
   refine RK hK76<|av ?_
   have hinit:(∀ p∈mb,p∈mb)∧(ua (ck ln ri e tms) b ([((ao.mk 0 0),ri.fR)]))∧(jo (ck ln ri e tms) b mb ([((ao.mk 0 0),ri.fR)]) mb):=by exact ⟨fun p hp=>hp,ua.start (by show b<e.length; omega),jo.start⟩
   refine ux (ι:={z:FM×FM×(List Nat) // (∀ p∈z.1,p∈mb)∧(ua (ck ln ri e tms) b z.2.1)∧(jo (ck ln ri e tms) b mb z.2.1 z.1)}) (fun z=>z.1.2.2.map kO) (fun z=>[(0,(vP gw)),(1,(vP b2)),(2,(vI ((ln.ab.n:Nat):Int))),(12,(vP gq)),(171,(vP r79))]) (fun z=>[(wJ dI r79 ga (bw iV mb) (bw iV z.1.1) none),(bV (il lx bs bb 0)),(gQ dI b65 (bw iV z.1.2.1)),(br gq 3 [(vI ((b:Nat):Int))]),(bV (z.1.2.2.map lk)),(bV (aU lx fs fb)),(br gw 276 (bK.cells (bK.mk ln ri (bB.mk e_A e.length e_C) (bB.mk t_A tms.length t_C) (bB.mk fA (ln.ab.n+1) (ln.ab.n+1)) (bB.mk bA (ln.ab.n+1) (ln.ab.n+1))))).ro,(own fA (ln.ab.n+1) 280 1 (List.map oC (dL fb (ln.ab.n+1)))),(own bA (ln.ab.n+1) 280 1 (List.map oC (gP (b65::bb) (ln.ab.n+1)))),(br b2 265 [(vP gw)]),(rd e_A e.length 1 (e.map iC)).ro,(rd t_A tms.length 1 (List.zipWith eV tms tb)).ro,(du (aU n8 tms tb)).ro]) (fun z=>z.1.1.length) ⟨(mb,[((ao.mk 0 0),ri.fR)],rs20),hinit⟩ rfl (aL rfl) (aG [0,1,2,3,4,5,6,7,8,9,10,11,12]) ?_
   clear hinit
   rintro ⟨⟨left,m,rs25⟩,⟨hl25_0,hl25_1,hl25_2⟩⟩ J80 hJ80
   try dsimp only at hl25_0 hl25_1 hl25_2
   try dsimp only
   refine WS fun _ hK81=>?_
   refine qC nB.inj (f:=iV) 0 rfl rfl rfl rfl (fun h172=>?_) (fun t v hm hnd=>?_)
   ·refine rP 1 [] mn ?_
    refine RK hK81<|ai fun _ hK82=>aW rfl<|bp<|ae<|ae<|au<|ax<|KK hK60<|ai fun _ hK83=>?_
    refine WS fun _ hK84=>rP 1 [] (mc 3 rfl mn) ?_
    refine RK hK84<|ak<|AL rfl lT fun b85=>GW rfl DI rfl rfl<|RK hK83<|ak<|rP 2 [] (mc 0 rfl mn) ?_
    refine GW rfl DI rfl rfl<|aB<|ED (C':=[(br b85 3 [(vI (((b:Nat):Int)-1))]),(gQ dI ga (bw iV mb)),(bV (il lx bs bb 0)),(gQ dI b65 (bw iV m)),(br gq 3 [(vI ((b:Nat):Int))]),(bV (rs25.map lk)),(bV (aU lx fs fb)),(br gw 276 (bK.cells (bK.mk ln ri (bB.mk e_A e.length e_C) (bB.mk t_A tms.length t_C) (bB.mk fA (ln.ab.n+1) (ln.ab.n+1)) (bB.mk bA (ln.ab.n+1) (ln.ab.n+1))))).ro,(own fA (ln.ab.n+1) 280 1 (List.map oC (dL fb (ln.ab.n+1)))),(own bA (ln.ab.n+1) 280 1 (List.map oC (gP (b65::bb) (ln.ab.n+1)))),(br b2 265 [(vP gw)]),(rd e_A e.length 1 (e.map iC)).ro,(rd t_A tms.length 1 (List.zipWith eV tms tb)).ro,(du (aU n8 tms tb)).ro]) 1 rfl Ez rfl<|Fa 2 1 hmb hga rfl rfl rfl ?_
    try dsimp only
    rw [show ((b:Nat):Int)-1=((ln.ab.n:Nat):Int)-(((j+1):Nat):Int) from by omega]
    refine wY (ms:=bs) (m:=m) (a:=b65) 0 2 rfl rfl rfl ?_
    try dsimp only
    refine aN (hJ57 ⟨((j+1),(m::bs),(b65::bb),b85,rs25),⟨om,by simp; omega,by simp; omega,by first|exact gC.end_ (b:=b) hl20_3 om om (by show e.length≤b; omega)|exact gC.more (b:=b) hl20_3 om om (by show b<e.length; omega) hmb hl25_1 hl25_2 h172⟩⟩ _ _ _ rfl os (aL rfl) (aG [0,1,3,4,5,6,7,8,9,10,11]))
   try dsimp only
   refine rP 1 [] mn ?_
   refine RK hK81<|ai fun _ hK86=>aI rfl<|WK hK86<|av<|WS fun _ hK87=>rS (SX (qp 0 rfl rfl rfl) rfl rfl)<|rP 2 [] mn ?_
   refine AL rfl rY fun b88=>AL rfl lT fun b89=>oV rfl qg rfl<|GW rfl DI rfl rfl<|RK hK87<|WS fun _ hK90=>rP 2 [0,1] (mc 11 rfl (mc 5 rfl mn)) ?_
   refine cX (sK gw b) (aT) rfl fun y91 hy92=>?_
   obtain ⟨x193,x294⟩:=y91
   try dsimp only
   refine RK hK90<|av<|ky 14 rfl (by exact fun _ h=>h)<|ky 16 rfl (by exact fun _ h=>h)<|ky 18 rfl (by exact fun _ h=>h)<|ky 13 rfl (by exact fun _ h=>h) ?_
   refine nA (L0:=[(0,(vP gw)),(1,(vP b2)),(2,(vI ((ln.ab.n:Nat):Int))),(12,(vP gq)),(13,(vP b88)),(14,(vP b89)),(171,(vP r79))]) (F:=[(rd e_A e.length 1 (e.map iC)).ro,(rd t_A tms.length 1 (List.zipWith eV tms tb)).ro,(du (aU n8 tms tb)).ro,(br gw 276 (bK.cells (bK.mk ln ri (bB.mk e_A e.length e_C) (bB.mk t_A tms.length t_C) (bB.mk fA (ln.ab.n+1) (ln.ab.n+1)) (bB.mk bA (ln.ab.n+1) (ln.ab.n+1))))).ro,(br x193 265 [(vP gw)]),(br x294 3 [(vI ((b:Nat):Int))])]) (fun k (y:FM)=>(mB (ck ln ri e tms) b mb left y (t,v) k)) (fun k y=>[(br b89 3 [(vI v)]),(br b88 282 (ao.cells t)),(wJ dI r79 ga (bw iV mb) (bw iV (cj left t)) (some (t,(vI v)))),(bV (il lx bs bb 0)),(gQ dI b65 (bw iV y)),(br gq 3 [(vI ((b:Nat):Int))]),(bV (rs25.map lk)),(bV (aU lx fs fb)),(br gw 276 (bK.cells (bK.mk ln ri (bB.mk e_A e.length e_C) (bB.mk t_A tms.length t_C) (bB.mk fA (ln.ab.n+1) (ln.ab.n+1)) (bB.mk bA (ln.ab.n+1) (ln.ab.n+1))))).ro,(own fA (ln.ab.n+1) 280 1 (List.map oC (dL fb (ln.ab.n+1)))),(own bA (ln.ab.n+1) 280 1 (List.map oC (gP (b65::bb) (ln.ab.n+1)))),(br b2 265 [(vP gw)]),(rd e_A e.length 1 (e.map iC)).ro,(rd t_A tms.length 1 (List.zipWith eV tms tb)).ro,(du (aU n8 tms tb)).ro]) (fun _ (_:Unit)=>False) (fun _ _=>[]) [6,7,8,9,10,11,12,13,14,15,16,17,18,19,20] [3,2,1,0,4,5] m rfl rfl (qo ln ri e tms e_A e_C tb t_A t_C fA (ln.ab.n+1) (ln.ab.n+1) bA (ln.ab.n+1) (ln.ab.n+1) gw b x193 x294 om om) rfl rfl rfl (by exact mB.start hl25_1 hl25_2) (by simp only [List.forall_mem_cons,List.not_mem_nil,false_imp_iff,implies_true,and_true]; exact ⟨⟨_,aw (i:=0) rfl,(eD (bO _))⟩,⟨_,aw (i:=1) rfl,(eD (bO _))⟩,⟨_,aw (i:=2) rfl,(eD (bO _))⟩,⟨_,aw (i:=3) rfl,(eD (bO _))⟩,⟨_,aw (i:=4) rfl,(bO _)⟩,⟨_,aw (i:=5) rfl,(bO _)⟩⟩) (by rintro k x k2 ⟨o,_,rfl,_⟩; rfl) rfl (aL rfl) ?_ ?_ (fun _ _ _ h=>h.elim) (fun _ _ h=>h.elim)
   rotate_left 1
   ·rintro r109 k m2 hfin hin110
    have hr0:=hin110
    try dsimp only
    refine ax<|ax<|ER (X:=rs25.map lk) 13 0 rfl rfl ?_
    try dsimp only
    refine gT 9 rfl vZ rfl ?_
    refine aN (hJ80 ⟨((cj left t),m2,(r109::rs25)),⟨lK hl25_0,hr0.on,hr0.next hnd hm hfin⟩⟩ _ _ _ rfl (eI hm) (aL rfl) (aG [9,10,11,12,0,13,4,15,16,17,1,2,3]))
   rintro k x k2 m2 l ra rb S w1 K95 Qr96 hsz hx hin97 hK95 hQr96 xQr96 yQr96
   obtain ⟨o,ho,rfl,rfl⟩:=hx
   have hr0:=hin97
   try dsimp only
   refine WS fun _ hK98=>rP 1 [] mn ?_
   refine RK hK98<|ak<|AL rfl cV fun b99=>f_ rfl bY rfl<|aB<|jz (fun _ _ h=>h) (aG [1,0,2,3,4,5,6,7,8,9,10,11,12,13,14,15,16]) ?_
   refine aN (hK95 _ _ ?_)
   refine av<|ai fun _ hK100=>ep cD [16,18] [] [] [0,1,2,3,4,5,6,7,8,9,10,11,12,13,14,15,16] [] rfl rfl rfl rfl rfl<|eS rfl (Ax 2 rfl bJ rfl)<|eS rfl (FA 1 rfl gp rfl)<|eS rfl (L1 (vI o.2.Hi) 1 rfl bJ rfl rfl) ?_
   have hp:=hl20_3.MS (b:=b) om hmb (hl25_0 _ hm)
   have hbp:=FV hw hp
   have ho1:=sN o.1
   have hob:=hw.opt ho
   dsimp only at hbp
   refine eS rfl (MN rfl)<|eS rfl (Ax 13 rfl bJ rfl)<|eS rfl (SX (cf rfl rfl) rfl rfl)<|eS rfl (FA 10 rfl gp rfl)<|eS rfl (Ed (vS e_A e.length e_C) 10 rfl bJ rfl rfl)<|eS rfl (Ax 7 rfl bJ rfl) ?_
   obtain ⟨y,hy⟩:=aO e b om
   have hym:=bI iC hy
   refine eS rfl (IA b rfl (aA 14 rfl) dB dc om om)<|eS rfl (gU b 0 (vI y) rfl bJ (aA 14 rfl) hym rfl dc rfl) ?_
   have hlb:=hw.least y (aw hy)
   refine eS rfl (BI rfl (tM ⟨om,om⟩))<|eS rfl (LW 3 rfl bJ rfl rfl)<|eS rfl (MV rfl)<|eS rfl (CL (F5 o.1) (aT) rfl)<|eS rfl (CL (uf t (eL o.1) sd sd) (aT) rfl)<|eS rfl (AG rfl)<|fp rfl<|cr rfl fun T101 hT101=>AL rfl rY fun b102=>?_
   refine aB (hT101 _ _ (aG [1,2,3,4,5,6,7,8,9,10,11,12,13,14,15,16,17]) ?_)
   refine cr rfl fun T103 hT103=>f_ rfl qg rfl ?_
   refine aB (hT103 _ _ (aG [1,2,3,4,5,6,7,8,9,10,11,12,13,14,15,16,17]) ?_)
   refine gh rfl<|KK hK100<|ai fun _ hK104=>dC cD 14 kr<|dP 1 [] (mc 14 rfl mn) ?_
   refine dS (SX (cf rfl rfl) rfl rfl)<|dP 3 [0,1] (mr 11 rfl (mc 8 rfl mn)) ?_
   have hk105:(List.map oC (gP (b65::bb) (ln.ab.n+1)))[b]? =some (oC (some b65)):=qn (rU (i:=0) rfl (by simp; omega))
   refine dS (IA b rfl (aK (n:=(ln.ab.n+1)) 13 rfl sq) m7 dc om om)<|dS (gU b 0 (Value.map (some b65)) rfl bJ (aK (n:=(gP (b65::bb) (ln.ab.n+1)).length) 13 rfl sm) hk105 rfl dc rfl)<|dP 1 [] (mc 0 rfl mn) ?_
   refine dS (SX (iY (kV:=dI) (x:=(c_ t (eL o.1))) (l:=m2) (f:=iV) (z:=0) rfl rfl rfl nH nB N5 (by exact aA 7 rfl)) rfl rfl)<|dP 5 [] mn ?_
   refine cO<|RK hK104<|WS fun _ hK106=>rP 3 [0,1] (mc 3 rfl (mc 2 rfl mn)) ?_
   refine rS (MN rfl)<|rP 4 [] (mc 2 rfl mn) ?_
   refine dp (t:=217) rfl (aQ fun h217=>?_) (aP fun h217=>?_)
   ·refine rP 8 [] mn ?_
    refine RK hK106<|aW rfl<|bZ<|ax ?_
    exact hQr96 m2 _ _ (by first|exact hr0.skip (uu h217)|exact hr0.lh (j9 hy h217) (by simpa using h220) h225|exact hr0.set (by show b<e.length; omega) hp ho (j9 hy h217) (.inl (by simpa using h220))|exact hr0.set (by show b<e.length; omega) hp ho (j9 hy h217) (.inr h225)) (aG [1,3,4,5,6,7,8,9,10,11,12,13,14,15,16,17])
   refine rP 3 [] mn ?_
   refine c8 (t:=220) rfl (fun h220=>?_) (fun h220=>?_)
   ·rw [Bool.not_eq_true'] at h220
    refine rP 5 [] mn ?_
    refine RK hK106<|aI rfl<|dC cD 9 kr<|dP 1 [] (mc 14 rfl mn) ?_
    refine dS (SX (cf rfl rfl) rfl rfl)<|dP 3 [0,1] (mr 11 rfl (mc 8 rfl mn)) ?_
    have hk107:(List.map oC (gP (b65::bb) (ln.ab.n+1)))[b]? =some (oC (some b65)):=qn (rU (i:=0) rfl (by simp; omega))
    refine dS (IA b rfl (aK (n:=(ln.ab.n+1)) 13 rfl sq) m7 dc om om)<|dS (gU b 0 (Value.map (some b65)) rfl bJ (aK (n:=(gP (b65::bb) (ln.ab.n+1)).length) 13 rfl sm) hk107 rfl dc rfl)<|dP 2 [] (mc 0 rfl mn) ?_
    refine cO<|jk (kV:=dI) (x:=(c_ t (eL o.1))) (C':=[_,_,_,_,_,_,_,(gQ dI b65 (bw iV (eg m2 (c_ t (eL o.1)) ((min v o.2.Hi)-y)))),_,_,_,_,_,_,_,_,_,_]) 7 rfl rfl rfl rfl nH nB rfl (gK _ _ _ _).symm rfl<|aB<|ax ?_
    exact hQr96 (eg m2 (c_ t (eL o.1)) ((min v o.2.Hi)-y)) _ _ (by first|exact hr0.skip (uu h217)|exact hr0.lh (j9 hy h217) (by simpa using h220) h225|exact hr0.set (by show b<e.length; omega) hp ho (j9 hy h217) (.inl (by simpa using h220))|exact hr0.set (by show b<e.length; omega) hp ho (j9 hy h217) (.inr h225)) (aG [1,3,4,5,6,7,8,9,10,11,12,13,14,15,16,17])
   rw [Bool.not_eq_false'] at h220
   refine rP 5 [] mn ?_
   refine RK hK106 ?_
   refine bM rfl (aQ fun h225=>?_) (aP fun h225=>?_)
   ·refine bZ ?_
    refine ax ?_
    exact hQr96 m2 _ _ (by first|exact hr0.skip (uu h217)|exact hr0.lh (j9 hy h217) (by simpa using h220) h225|exact hr0.set (by show b<e.length; omega) hp ho (j9 hy h217) (.inl (by simpa using h220))|exact hr0.set (by show b<e.length; omega) hp ho (j9 hy h217) (.inr h225)) (aG [1,3,4,5,6,7,8,9,10,11,12,13,14,15,16,17])
   refine dC cD 9 kr<|dP 1 [] (mc 14 rfl mn) ?_
   refine dS (SX (cf rfl rfl) rfl rfl)<|dP 3 [0,1] (mr 11 rfl (mc 8 rfl mn)) ?_
   have hk108:(List.map oC (gP (b65::bb) (ln.ab.n+1)))[b]? =some (oC (some b65)):=qn (rU (i:=0) rfl (by simp; omega))
   refine dS (IA b rfl (aK (n:=(ln.ab.n+1)) 13 rfl sq) m7 dc om om)<|dS (gU b 0 (Value.map (some b65)) rfl bJ (aK (n:=(gP (b65::bb) (ln.ab.n+1)).length) 13 rfl sm) hk108 rfl dc rfl)<|dP 2 [] (mc 0 rfl mn) ?_
   refine cO<|jk (kV:=dI) (x:=(c_ t (eL o.1))) (C':=[_,_,_,_,_,_,_,(gQ dI b65 (bw iV (eg m2 (c_ t (eL o.1)) ((min v o.2.Hi)-y)))),_,_,_,_,_,_,_,_,_,_]) 7 rfl rfl rfl rfl nH nB rfl (gK _ _ _ _).symm rfl<|aB<|ax ?_
   exact hQr96 (eg m2 (c_ t (eL o.1)) ((min v o.2.Hi)-y)) _ _ (by first|exact hr0.skip (uu h217)|exact hr0.lh (j9 hy h217) (by simpa using h220) h225|exact hr0.set (by show b<e.length; omega) hp ho (j9 hy h217) (.inl (by simpa using h220))|exact hr0.set (by show b<e.length; omega) hp ho (j9 hy h217) (.inr h225)) (aG [1,3,4,5,6,7,8,9,10,11,12,13,14,15,16,17])
  refine ep cD [4,11,12,14] [10] [0,1,2] [0,2,3,4,5,6] [0,1,2,3,4,5,6] rfl rfl rfl rfl rfl<|eS rfl (Ax 2 rfl bJ rfl)<|eS rfl (SX (cf rfl rfl) rfl rfl)<|eS rfl (FA 12 rfl gp rfl)<|eS rfl (Ed (vS fA (ln.ab.n+1) (ln.ab.n+1)) 0 rfl bJ rfl rfl)<|eS rfl (SX (bg (xs:=[]) (cs:=(ao.cells (ao.mk 0 0))) rfl rfl (bf yr rfl)) rfl rfl)<|eS rfl (Ax 2 rfl bJ rfl)<|eS rfl (SX (cf rfl rfl) rfl rfl)<|eS rfl (FA 7 rfl gp rfl)<|eS rfl (FA 7 rfl gp rfl) ?_
  refine eS rfl (Ed (vI ri.Start) 0 rfl bJ rfl rfl) ?_
  obtain ⟨x6,hx7⟩:=aO (List.replicate (ln.ab.n+1) (none:Option Nat)) 0 om
  have hx7m:(List.map oC (List.replicate (ln.ab.n+1) (none:Option Nat)))[0]? =some (oC x6):=by rw [fq,hx7]; rfl
  refine fS rfl (IA 0 rfl (aK (n:=(ln.ab.n+1)) 1 rfl sq) m7 dc rfl om)<|fp rfl<|l8 rfl fun T8 hT8=>mD (kV:=dI) rfl rfl fun b9=>?_
  try dsimp only
  refine aB (hT8 _ _ (aG [1,3,4,5,6,7]) (aG [1,2,3,4,5,6,7]) ?_)
  refine l8 rfl fun T10 hT10=>?_
  have hb11:(eg ([]:List (ao×Int)) (ao.mk 0 0) ri.Start)=[((ao.mk 0 0),ri.Start)]:=by rfl
  refine xr (kV:=dI) (x:=(ao.mk 0 0)) (C':=[(gQ dI b9 (bw iV ([((ao.mk 0 0),ri.Start)]))),_,_,_,_,_,_,_]) 0 rfl rfl rfl rfl nH nB rfl ((gK _ _ _ _).symm.trans (congrArg _ hb11)) rfl ?_
  refine aB (hT10 _ _ (aG [1,3,4,5,6,7]) (aG [1,2,3,4,5,6,7]) ?_)
  refine l8 rfl fun T12 hT12=>rS (MV rfl) ?_
  refine aB (hT12 _ _ (aG [1,3,4,5,6,7]) (aG [1,2,3,4,5,6,7]) ?_)
  refine cr rfl fun T13 hT13=>?_
  have hb14:((List.replicate (ln.ab.n+1) (none:Option Nat)).set 0 (some b9))=(dL [b9] (ln.ab.n+1)):=by rw [xp]; exact s_ rfl sm
  refine hZ (k:=0) (o:=0) (vs:=[(Value.map (some b9))]) (es':=(List.map oC (dL [b9] (ln.ab.n+1)))) (C':=[_,_,(own fA (ln.ab.n+1) 280 1 (List.map oC (dL [b9] (ln.ab.n+1)))),_,_,_,_,_]) 2 rfl rfl rfl Gv rfl rfl rfl rfl hx7m rfl dc (by exact (List.map_set (f:=oC) (l:=(List.replicate (ln.ab.n+1) (none:Option Nat))) (i:=0) (a:=(some b9))).symm.trans (congrArg _ hb14)) rfl ?_
  refine aB (hT13 _ _ (aG [1,3,4,5,6,7]) ?_)
  refine gh rfl<|Bp<|zI (X:=[]) (X':=aU lx [[((ao.mk 0 0),ri.Start)]] [b9]) 0 1 rfl rfl rfl ?_
  try dsimp only
  refine aN (jz (aL rfl) (aG [0,1,2,3,4,5,6,7]) (hK5 ⟨b9,trivial⟩))
 refine pG cD [0,1,2,3,5,6,8,9,11,12] [4,7,10,13] [false,false,false,false,false,false,false,false,false,false] [] [(br b2 265 [(vP gw)]),(rd e_A e.length 1 (e.map iC)).ro,(rd t_A tms.length 1 (List.zipWith eV tms tb)).ro,(du (aU n8 tms tb)).ro] [] kr (aG [0,2,3,4]) (aG [])<|eS rfl (Ax 0 rfl bJ rfl)<|eS rfl (Ax 0 rfl bJ rfl)<|eS rfl (MV rfl)<|eS rfl (BI rfl (g8 ⟨om,om⟩))<|eS rfl (MV rfl)<|eS rfl (BI rfl (g8 ⟨om,om⟩))<|eS rfl (SX (cf rfl rfl) rfl rfl)<|eS rfl (FA 12 rfl gp rfl)<|eS rfl (SX (cf rfl rfl) rfl rfl) ?_
 refine eS rfl (FA 13 rfl gp rfl)<|fp rfl ?_
 refine ox [4,7] kr (jG ?_<|jG ?_<|qP)
 rotate_left 1
 ·refine NO rfl rfl [4,10,13] fun T5 hT5=>?_
  refine tR (n:=(ln.ab.n+1)) (es:=(List.map oC (List.replicate (ln.ab.n+1) (none:Option Nat)))) rfl rfl rfl zC om om (by simp only [maxLen]; omega) (by rw [List.map_replicate]; rfl) rfl fun b6=>?_
  try dsimp only
  refine aB (hT5 _ _ (aG [1,3,4,5]) ?_)
  refine N1 4<|NO rfl rfl [10,13] fun T7 hT7=>tR (n:=(ln.ab.n+1)) (es:=(List.map oC (List.replicate (ln.ab.n+1) (none:Option Nat)))) rfl rfl rfl zC om om (by simp only [maxLen]; omega) (by rw [List.map_replicate]; rfl) rfl fun b8=>?_
  try dsimp only
  refine aB (hT7 _ _ (aG [2,4,5,6]) ?_)
  refine N1 10<|NO rfl rfl [13] fun T9 hT9=>Jo (bK.cells (bK.mk ln ri (bB.mk e_A e.length e_C) (bB.mk t_A tms.length t_C) (bB.mk (some ⟨b8,0,none⟩) (ln.ab.n+1) (ln.ab.n+1)) (bB.mk none 0 0))) rfl wv rfl rfl ?_
  refine aB (hT9 _ _ (aG [2,4,5,6]) ?_)
  refine N1 13<|NO rfl rfl [] fun T10 hT10=>Jo (bK.cells (bK.mk ln ri (bB.mk e_A e.length e_C) (bB.mk t_A tms.length t_C) (bB.mk (some ⟨b8,0,none⟩) (ln.ab.n+1) (ln.ab.n+1)) (bB.mk (some ⟨b6,0,none⟩) (ln.ab.n+1) (ln.ab.n+1)))) rfl wv rfl rfl ?_
  refine aB (hT10 _ _ (aG [2,4,5,6]) ?_)
  refine oP ?_
  refine aN (jz (aL rfl) (aG [0,1,2,3,4,5,6]) (hK4 ⟨((some ⟨b8,0,none⟩),(some ⟨b6,0,none⟩)),trivial⟩))
 refine NO rfl rfl [7,10,13] fun T5 hT5=>tR (n:=(ln.ab.n+1)) (es:=(List.map oC (List.replicate (ln.ab.n+1) (none:Option Nat)))) rfl rfl rfl zC om om (by simp only [maxLen]; omega) (by rw [List.map_replicate]; rfl) rfl fun b6=>?_
 try dsimp only
 refine aB (hT5 _ _ (aG [1,3,4,5]) ?_)
 refine ox [7,10] kr (jG ?_<|jG ?_<|qP)
 rotate_left 1
 ·refine NO rfl rfl [7,13] fun T7 hT7=>?_
  refine N2 (bK.cells (bK.mk ln ri (bB.mk e_A e.length e_C) (bB.mk t_A tms.length t_C) (bB.mk (some ⟨b6,0,none⟩) (ln.ab.n+1) (ln.ab.n+1)) (bB.mk none 0 0))) rfl wv rfl rfl ?_
  refine aB (hT7 _ _ (aG [1,3,4,5]) ?_)
  refine N1 7<|NO rfl rfl [13] fun T8 hT8=>tR (n:=(ln.ab.n+1)) (es:=(List.map oC (List.replicate (ln.ab.n+1) (none:Option Nat)))) rfl rfl rfl zC om om (by simp only [maxLen]; omega) (by rw [List.map_replicate]; rfl) rfl fun b9=>?_
  try dsimp only
  refine aB (hT8 _ _ (aG [2,4,5,6]) ?_)
  refine N1 13<|NO rfl rfl [] fun T10 hT10=>Jo (bK.cells (bK.mk ln ri (bB.mk e_A e.length e_C) (bB.mk t_A tms.length t_C) (bB.mk (some ⟨b6,0,none⟩) (ln.ab.n+1) (ln.ab.n+1)) (bB.mk (some ⟨b9,0,none⟩) (ln.ab.n+1) (ln.ab.n+1)))) rfl wv rfl rfl ?_
  refine aB (hT10 _ _ (aG [2,4,5,6]) ?_)
  refine oP ?_
  refine aN (jz (aL rfl) (aG [1,0,2,3,4,5,6]) (hK4 ⟨((some ⟨b6,0,none⟩),(some ⟨b9,0,none⟩)),trivial⟩))
 refine NO rfl rfl [10,13] fun T7 hT7=>tR (n:=(ln.ab.n+1)) (es:=(List.map oC (List.replicate (ln.ab.n+1) (none:Option Nat)))) rfl rfl rfl zC om om (by simp only [maxLen]; omega) (by rw [List.map_replicate]; rfl) rfl fun b8=>?_
 try dsimp only
 refine aB (hT7 _ _ (aG [2,4,5,6]) ?_)
 refine N1 10<|NO rfl rfl [13] fun T9 hT9=>Jo (bK.cells (bK.mk ln ri (bB.mk e_A e.length e_C) (bB.mk t_A tms.length t_C) (bB.mk (some ⟨b6,0,none⟩) (ln.ab.n+1) (ln.ab.n+1)) (bB.mk none 0 0))) rfl wv rfl rfl ?_
 refine aB (hT9 _ _ (aG [2,4,5,6]) ?_)
 refine N1 13<|NO rfl rfl [] fun T10 hT10=>Jo (bK.cells (bK.mk ln ri (bB.mk e_A e.length e_C) (bB.mk t_A tms.length t_C) (bB.mk (some ⟨b6,0,none⟩) (ln.ab.n+1) (ln.ab.n+1)) (bB.mk (some ⟨b8,0,none⟩) (ln.ab.n+1) (ln.ab.n+1)))) rfl wv rfl rfl ?_
 refine aB (hT10 _ _ (aG [2,4,5,6]) ?_)
 refine oP ?_
 refine aN (jz (aL rfl) (aG [1,0,2,3,4,5,6]) (hK4 ⟨((some ⟨b6,0,none⟩),(some ⟨b8,0,none⟩)),trivial⟩))
end
section
open Go.RowKit
theorem AU (l:aV) (kA:OA) (kC:Nat) (az:List RA) (cA:OA) (cC:Nat) (bA:OA) (bC g1:Nat) (bm:Int) (g2:Nat) (hin:eN l az):
 eu Tryz.prog 206 [(vP g1),(vP g2)] [(rd kA l.aH.length 9 (l.aH.map ah.cells)),(rd cA l.aj.length 2 (List.zipWith al.cells l.aj az)),(du (aU al.fK l.aj az)),(rd bA l.ab.length 4 (l.ab.map bx.cells)),(br g1 28 (cE.cells (jx l kA kC cA cC bA bC))),(br g2 3 [(vI bm)])] (vI (jf l bm)):=by
 have htk:=hin.r_
 have hck:=hin.se
 have has:=hin.qa
 have hbm:=hin.sb
 refine bu kr Tryz.func206 rfl rfl fun w0 Q hQ hN=>?_
 try dsimp only
 refine WS fun _ hK1=>rP 1 [] mn ?_
 refine RK hK1<|ai fun _ hK2=>WS fun _ hK3=>rP 5 [0,1] (mr 4 rfl (mr 5 rfl mn)) ?_
 refine fc (xs:=[.tmp 7]) (cs:=[(vI bm)]) rfl dB lT rfl rfl rfl rfl (by simp [Value.cells]) rfl rfl fun b4=>rS (CL (eu.eq (iz 0 (((l.ab.length:Nat):Int)-1) ([bm]) (some ⟨b4,0,none⟩) 1 sd) dx) (bq (a_ 0 rfl rfl (by simp [bT]) rfl)<|aT) rfl)<|rP 1 [] mn ?_
 refine RK hK3 ?_
 refine cP rfl (bk fun h10=>?_) (bj fun h10=>?_)
 ·refine WS fun _ hK5=>?_
  refine rP 1 [] mn ?_
  refine RK hK5<|an<|Q1 hQ rfl rfl rfl ?_
  first|exact cI (if_pos om).symm|exact cI (if_neg om).symm
 refine WK hK2<|WS fun _ hK6=>rP 1 [] mn ?_
 refine RK hK6<|an<|Q1 hQ rfl rfl rfl ?_
 first|exact cI (if_pos om).symm|exact cI (if_neg om).symm
end
end Go.Proofs.YtcoejkiaokbmpaaGreatDoor
