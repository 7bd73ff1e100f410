/-
 The statement topRepaired_said, part 9 of 9: Q2, T2, T3, T7a, T7, LineOpen, RaceOpen, JOpen, Top70.
 Conditions: none.
-/
import Derived.Test.YtgnlmfdknlbkkaaGreatDoorTz1
import Derived.Test.YtgnlmfdknlbkkaaGreatDoorTz2
import Derived.Test.YtgnlmfdknlbkkaaGreatDoorTz3
import Derived.Test.YtgnlmfdknlbkkaaGreatDoorTz4
import Derived.Test.YtgnlmfdknlbkkaaGreatDoorTz5
import Derived.Test.YtgnlmfdknlbkkaaGreatDoorTz6
import Derived.Test.YtgnlmfdknlbkkaaGreatDoorTz7
import Derived.Test.YtgnlmfdknlbkkaaGreatDoorTz8
import Derived.Test.YtgnlmfdknlbkkaaGreatDoorCards
import Derived.Test.YtgnlmfdknlbkkaaGreatDoorTie
import Derived.SevenTiedAt
import Derived.LaidMore
import Derived.Stop.Joined
import Derived.Test.YtgnlmfdknlbkkaaGreatDoorRows
import Derived.Test.YtgnlmfdknlbkkaaGreatDoorProg
import Derived.KernelRfl
open List (zipWith)
open Bool (noConfusion)
namespace Go.Proofs.YtgnlmfdknlbkkaaGreatDoor
set_option maxRecDepth 100000
set_option maxHeartbeats 4000000
set_option linter.unusedVariables false
variable {w:World} {R1:World→ai→Prop} {R2:World→dB→Prop} {R3:World→dT→Prop} {R4:World→dj→Prop} {R5:World→Int→Prop} {R6:World→aV→Prop} {R7:World→aO→Prop} {R8:World→aZ→Prop}
abbrev ACB:= @List.getElem?_cons_zero
section
open Go.RowKit
theorem MB (gq:Nat):
 lf Tryz.prog 151 [(vA (qF.cells (qF.mk (aV.mk none 0 0)))),(vS (some ⟨gq,0,none⟩) 1 1)] [(cb gq 180 (l_.cells (l_.mk (aV.mk none 0 0) 500 0 0 (aV.mk none 0 0) (aV.mk none 0 0) 0 false)))] (fun (x:Nat×Nat)=>(vT [(Value.pointer (some ⟨x.1,0,none⟩)),(vI 0)])) (fun (x:Nat×Nat)=>True) (fun (x:Nat×Nat)=>[(cb x.1 317 (oI.cells (oI.mk (qF.mk (aV.mk none 0 0)) (Value.map (some x.2))))),(iu iV x.2 (bR (fun s=>vA (js.cells s)) ([]:List (Int×js))))]):=by
 refine cR kr Tryz.func151 U U fun AA Q hQ hN=>?_
 try dsimp only
 refine aS bS 2 U<|dV U fun H=>cm aj 7 [] (mc 0 U mn) ?_;refine cX Of (aA) U fun G F=>?_;obtain ⟨A,B⟩:=G
 try dsimp only
 refine aS aj 11 U<|rS (SX (ck (r:= .bool false) U U U nm) U U)<|aS aj 14 U<|iY 2<|eh fun R12 C=>aS bS 2 U<|rS (SX (ck (r:= .bool true) U U U g_) U U)<|aS aj 10 U<|rS (IAB 0 0 U UN U dc U)<|dD aj 1 [] (mr 3 U mn) U<|AL U Uq fun E=>eN U Zv U<|dD aj 6 [] (mc 0 U mn) U<|rS (CL (S4 A B) (aP [1,2]) U)<|aS aj 8 U<|rS (SX (ck (r:= .int .i64 1) U U U (jw ⟨dc,dc⟩)) U U)<|aS aj 2 U<|KK C<|eh fun R19 D=>aS bS 2 U<|rS (SX (ck (r:= .bool false) U U U g_) U U)<|aS aj 5 U<|aq fD 10 ?_;refine LX hQ (A,B) [1,2] [] mn U U U U ?_;trivial
theorem Ti (gh gm:Nat):
 de Tryz.prog 201 [(vP gh),(vA (l_.cells (l_.mk (aV.mk none 0 0) 500 0 0 (aV.mk none 0 0) (aV.mk none 0 0) 0 false)))] [(cb gh 317 (oI.cells (oI.mk (qF.mk (aV.mk none 0 0)) (Value.map (some gm))))),(iu iV gm (bR (fun s=>vA (js.cells s)) ([]:List (Int×js))))] (vS none 0 0):=by
 refine bg kr Tryz.func201 U U fun K Q hQ hN=>?_
 try dsimp only
 refine aS bS 2 U<|dV U fun J=>aq aj 5 ?_;refine lj (kV:=iV) U U fun D=>?_
 try dsimp only
 refine aS aj 7 U<|rS (SX (bK U U) U U)<|cm aj 2 [] (mr 2 U mn) ?_;refine kz (kV:=iV) (m:=bR (fun s=>vA (js.cells s)) ([]:List (Int×js))) 3 U U YJ U ⟨U,fun h=>h⟩ (by exact mP 3 U) U fun AA=>?_
 try dsimp only
 refine aq aj 3 ?_;have A:(([]:List (Int×js)).length≤1000000):=by decide
 refine bu (ι:={z:(List (Int×js))×(List (Int×Bool)) // (z.1.length≤1000000)}) [0,3,5,17] [2,3,4] U U (fun z=>[]) (fun z=>[(BA iV AA gm (bR (fun s=>vA (js.cells s)) ([]:List (Int×js))) (bR (fun s=>vA (js.cells s)) z.1.1) none),(iu iV D (bR vB z.1.2))]) (fun _=>rfl) (fun _=>rfl) (fun z=>z.1.1.length) ⟨(([]:List (Int×js)),([]:List (Int×Bool))),A⟩ (cS.nil _) (aB [2,3,4,0,1]) ?_;clear A;rintro ⟨⟨left,m⟩,B⟩ J8 C
 try dsimp only at B
 try dsimp only
 refine aq bS 2 ?_;refine jQ (eD nZ).inj (f:=(fun s=>vA (js.cells s))) 3 U U U U (fun G=>?_) (fun q z hm H=>?_);rotate_left 1
 ·try dsimp only
  refine aS aj 10 U<|rS (SX (jI 3 U U U) U U)<|aS aj 7 U<|iP (kV:=iV) (x:=q) (C':=[_,_,_,_,(iu iV D (bR vB (d_ m q true)))]) 4 U U U U pW (eD nZ) U (gH _ _ _ _).symm U<|aq aj 2 ?_;refine iM 3 U fX U ?_;refine aL (C ⟨((cH left q),(d_ m q true)),(by have:=e7 hm;simp only [];omega)⟩ _ _ _ U (e7 hm) (aN U) (aB [0,1,2,3,4]))
 refine aS aj 6 U<|dD fD 12 [] (mc 0 U mn) U<|iY 1<|eh fun R13 E=>aS bS 2 U<|rS (SX (ck (r:= .bool false) U U U g_) U U)<|aS aj 5 U<|aS fD 11 U<|rS (SX (bK U U) U U)<|dD aj 8 [] (mr 1 U mn) U<|iY 1<|eh fun R19 F=>aS bS 2 U<|rS (SX (ck (r:= .bool false) U U U g_) U U)<|aS aj 5 U<|cr fD 9 hQ U U ?_;rfl
theorem Kf (gh gm:Nat):
 lf Tryz.prog 152 [(vP gh),(vA (l_.cells (l_.mk (aV.mk none 0 0) 500 0 0 (aV.mk none 0 0) (aV.mk none 0 0) 0 false)))] [(cb gh 317 (oI.cells (oI.mk (qF.mk (aV.mk none 0 0)) (Value.map (some gm))))),(iu iV gm (bR (fun s=>vA (js.cells s)) ([]:List (Int×js))))] (fun (x:Nat)=>(vS (some ⟨x,0,none⟩) 1 1)) (fun (x:Nat)=>True) (fun (x:Nat)=>[(cb x 38 (aa.cells (aa.mk 500 500)))]):=by
 refine cR kr Tryz.func152 U U fun E Q hQ hN=>?_
 try dsimp only
 refine aS bS 2 U<|dV U fun C=>dD aj 9 [] (mc 0 U mn) U<|rS (SX (aU (xs:=[(0,.tmp 10),(1,.tmp 12)]) (cs:=(aa.cells (aa.mk 500 500))) U U (aT gP U)) U U)<|dC (xs:=[.tmp 13]) (cs:=(aa.cells (aa.mk 500 500))) U iA dA U U U U (by simp [Value.cells,aa.aC]) U U fun A=>AL U JW fun D=>IN U Qu U U<|aS aj 4 U<|rS (FU U)<|dD aj 8 [] (mc 2 U mn) U<|rS (CL (Ti gh gm) (aP [3,4]) U)<|aS aj 5 U<|iY 1<|eh fun R9 B=>aS bS 2 U<|rS (SX (ck (r:= .bool false) U U U g_) U U)<|aS aj 5 U<|cm fD 9 [] (mc 0 U mn) ?_;refine LX hQ A [1] [] mn U U U U ?_;trivial
theorem LY:
 lf Tryz.prog 99 [(vA (qF.cells (qF.mk (aV.mk none 0 0)))),(vA (l_.cells (l_.mk (aV.mk none 0 0) 500 0 0 (aV.mk none 0 0) (aV.mk none 0 0) 0 false)))] [] (fun (x:Nat)=>(vT [(vS (some ⟨x,0,none⟩) 1 1),(vI 0)])) (fun (x:Nat)=>True) (fun (x:Nat)=>[(cb x 38 (aa.cells (aa.mk 500 500)))]):=by
 refine cR kr Tryz.func99 U U fun J Q hQ hN=>?_
 try dsimp only
 refine aS bS 2 U<|dV U fun H=>dV U fun AA=>cm aj 8 [0,1] (mc 1 U (mc 0 U mn)) ?_;refine dC (xs:=[.tmp 11]) (cs:=(l_.cells (l_.mk (aV.mk none 0 0) 500 0 0 (aV.mk none 0 0) (aV.mk none 0 0) 0 false))) U UN Uq U U U U (by simp [Value.cells,l_.aC]) U U fun E=>cX (MB E) (aP [0]) U fun G F=>?_;obtain ⟨B,C⟩:=G
 try dsimp only
 refine aS aj 11 U<|rS (SX (ck (r:= .bool false) U U U nm) U U)<|cm aj 9 [] (mc 3 U mn) ?_;refine cX (Kf B C) (aP [0,1]) U fun A D=>?_
 try dsimp only
 refine aS aj 8 U<|rS (SX (ck (r:= .bool false) U U U nt) U U)<|aq aj 13 ?_;refine LX hQ A [0] [] mn U U U U ?_;trivial
end
section
open Go.RowKit
theorem Ml:
 de Tryz.prog 51 [] [] (vB true):=by
 refine bg kr Tryz.func51 U U fun N Q hQ hN=>?_
 try dsimp only
 refine aq bS 7 ?_;refine rS (SX (aU (xs:=[]) (cs:=(qF.cells (qF.mk (aV.mk none 0 0)))) U U (aT XH U)) U U)<|rS (SX (aU (xs:=[(1,.const (vI 500))]) (cs:=(l_.cells (l_.mk (aV.mk none 0 0) 500 0 0 (aV.mk none 0 0) (aV.mk none 0 0) 0 false))) U U (aT Zj U)) U U)<|cX LY (aA) U fun J M=>?_
 try dsimp only
 refine aS aj 9 U<|rS (CL (j1 1000 1000) (aA) U)<|rS (CL (j1 100 100) (aA) U)<|rS (SX (aU (xs:=[(0,.const (vI 1)),(1,.tmp 12),(2,.tmp 13)]) (cs:=(ai.cells (ai.mk 1 (aa.mk 1000 1000) (aa.mk 100 100) (aa.mk 0 0) 0 0))) U U (aT PJ U)) U U)<|dC (xs:=[.tmp 14]) (cs:=(ai.cells (ai.mk 1 (aa.mk 1000 1000) (aa.mk 100 100) (aa.mk 0 0) 0 0))) U vM GQ U U U U (by simp [Value.cells,ai.aC]) U U fun D=>rS (SX (aU (xs:=[(0,.tmp 15)]) (cs:=(aY.cells (aY.mk (aV.mk (some ⟨D,0,none⟩) 1 1)))) U U (aT VY U)) U U)<|AL U VL fun L=>eN U Vx U<|aq aj 3 ?_;refine mh bX [0,1,2,3] [4,5,6,7,8,9] [false,false,false,false] [] [(cb L 24 (aY.cells (aY.mk (aV.mk (some ⟨D,0,none⟩) 1 1)))),(cb D 65 (ai.cells (ai.mk 1 (aa.mk 1000 1000) (aa.mk 100 100) (aa.mk 0 0) 0 0))),(cb J 38 (aa.cells (aa.mk 500 500)))] [] kr (aB [0,1,2]) (aB [])<|eS U (LW 0 U bP U U)<|eS U (CL (j1 50 50) (aA) U)<|eS U (CL (j1 60000 60000) (aA) U)<|eS U (SX (aU (xs:=[(0,.const (Value.int .u8 3)),(1,.tmp 19),(4,.tmp 20)]) (cs:=(dv.cells (dv.mk 3 (aa.mk 50 50) (aa.mk 0 0) (aa.mk 0 0) (aa.mk 60000 60000) (aa.mk 0 0)))) U U (aT Ur U)) U U)<|dI U<|N1 4<|NO U U [5,6,7,8,9] fun T10 C=>cX (JL ([(ai.mk 1 (aa.mk 1000 1000) (aa.mk 100 100) (aa.mk 0 0) 0 0)]) (some ⟨D,0,none⟩) 1 (dv.mk 3 (aa.mk 50 50) (aa.mk 0 0) (aa.mk 0 0) (aa.mk 60000 60000) (aa.mk 0 0)) dc (by exact PY)) (aw (aM 1 U U (by simp [ai.aC]) U)<|aA) U fun AA K=>?_;obtain ⟨E,H⟩:=AA
 try dsimp only
 refine RD C 1 U<|NH [17,23,24,4,5] kr kr U _ U U (aB [1,2,3])<|iR 5 U<|cy<|aS aj 5 U<|rS (SX (ck (r:= .bool true) U U U nt) U U)<|aS aj 2 U<|rS (CL (j1 500 500) (aA) U)<|dC (xs:=[.tmp 29]) (cs:=(aa.cells (aa.mk 500 500))) U iA dA U U U U (by simp [Value.cells,aa.aC]) U U fun F=>rS (CL (yw ([(aa.mk 500 500)]) (some ⟨J,0,none⟩) 1 ([(aa.mk 500 500)]) (some ⟨F,0,none⟩) 1 dc dc) (aw (aM 4 U U (by simp [aa.aC]) U)<|aw (aM 0 U U (by simp [aa.aC]) U)<|aA) U)<|aq aj 2 ?_;refine cz (t:=33) U (aG fun A=>?_) (aH fun A=>?_)
 ·exact absurd U A
 refine aq aj 4 ?_;refine cz (t:=37) U (aG fun B=>?_) (aH fun B=>?_)
 ·exact absurd AK.1 B
 refine aS aj 1 U<|rS (CL (j1 50 50) (aA) U)<|rS (CL (j1 150 150) (aA) U)<|dC (xs:=[.tmp 39,.tmp 40]) (cs:=((aa.cells (aa.mk 50 50))++(aa.cells (aa.mk 150 150)))) U iA dA U U U U (by simp [Value.cells,aa.aC]) U U fun G=>rS (CL (yw (sj (dv.mk 3 (aa.mk 50 50) (aa.mk 0 0) (aa.mk 0 0) (aa.mk 60000 60000) (aa.mk 0 0)) ([(ai.mk 1 (aa.mk 1000 1000) (aa.mk 100 100) (aa.mk 0 0) 0 0)])) E H ([(aa.mk 50 50),(aa.mk 150 150)]) (some ⟨G,0,none⟩) 2 (by exact c6 (ACI (c7 List.length AK.2)) dc) dc) (aw (ak (n:=(sj (dv.mk 3 (aa.mk 50 50) (aa.mk 0 0) (aa.mk 0 0) (aa.mk 60000 60000) (aa.mk 0 0)) ([(ai.mk 1 (aa.mk 1000 1000) (aa.mk 100 100) (aa.mk 0 0) 0 0)])).length) 2 U sm)<|aw (aM 0 U U (by simp [aa.aC]) U)<|aA) U)<|cr aj 5 hQ U U ?_
 first|rfl|exact cB (cT AK.2)
end
section
open Go.RowKit
theorem Ma:
 de Tryz.prog 20 [] [] (vB true):=by
 refine bg kr Tryz.func20 U U fun AA Q hQ hN=>?_
 try dsimp only
 refine aS bS 7 U<|rS (CL (j1 1000 1000) (aA) U)<|rS (SX (aU (xs:=[(0,.const (vI 1)),(1,.tmp 8)]) (cs:=(ai.cells (ai.mk 1 (aa.mk 1000 1000) (aa.mk 0 0) (aa.mk 0 0) 0 0))) U U (aT PJ U)) U U)<|rS (CL (j1 1000 1000) (aA) U)<|rS (SX (aU (xs:=[(0,.const (vI 2)),(1,.tmp 10)]) (cs:=(ai.cells (ai.mk 2 (aa.mk 1000 1000) (aa.mk 0 0) (aa.mk 0 0) 0 0))) U U (aT PJ U)) U U)<|dC (xs:=[.tmp 9,.tmp 11]) (cs:=((ai.cells (ai.mk 1 (aa.mk 1000 1000) (aa.mk 0 0) (aa.mk 0 0) 0 0))++(ai.cells (ai.mk 2 (aa.mk 1000 1000) (aa.mk 0 0) (aa.mk 0 0) 0 0)))) U vM GQ U U U U (by simp [Value.cells,ai.aC]) U U fun L=>rS (SX (aU (xs:=[(0,.tmp 12)]) (cs:=(aY.cells (aY.mk (aV.mk (some ⟨L,0,none⟩) 2 2)))) U U (aT VY U)) U U)<|AL U VL fun S=>eN U Vx U<|aq aj 3 ?_;refine cP bX [8,9] [] [] [0,1] [] U U U U U<|eS U (LW 0 U bP U U)<|eS U (CL (j1 200 200) (aA) U)<|eS U (CL (j1 60000 60000) (aA) U)<|eS U (SX (aU (xs:=[(0,.const (Value.int .u8 1)),(1,.tmp 16),(4,.tmp 17)]) (cs:=(dv.cells (dv.mk 1 (aa.mk 200 200) (aa.mk 0 0) (aa.mk 0 0) (aa.mk 60000 60000) (aa.mk 0 0)))) U U (aT Ur U)) U U)<|eS U (CL (Rw ([(ai.mk 1 (aa.mk 1000 1000) (aa.mk 0 0) (aa.mk 0 0) 0 0),(ai.mk 2 (aa.mk 1000 1000) (aa.mk 0 0) (aa.mk 0 0) 0 0)]) (some ⟨L,0,none⟩) 2 (dv.mk 1 (aa.mk 200 200) (aa.mk 0 0) (aa.mk 0 0) (aa.mk 60000 60000) (aa.mk 0 0)) 1 dc (by exact zB)) (aw (aM 1 U U (by simp [ai.aC]) U)<|aA) U)<|eS U (MV U)<|eS U (EX U)<|eS U (EX U)<|eS U (AG U)<|dI U<|bQ U fun T6 M=>AL U dA fun T=>bG (M _ _ (aB [1,2]) ?_);refine bQ U fun T8 N=>eN U cJ U<|bG (N _ _ (aB [1,2]) ?_);refine eJ U<|cm jE 4 [] (mc 1 U mn) ?_;refine cX (B2 ([(ai.mk 1 (aa.mk 1000 1000) (aa.mk 0 0) (aa.mk 0 0) 0 0),(ai.mk 2 (aa.mk 1000 1000) (aa.mk 0 0) (aa.mk 0 0) 0 0)]) (some ⟨L,0,none⟩) 2 199 dc (by exact zB) dc) (aw (aM 2 U U (by simp [ai.aC]) U)<|aA) U fun P K=>?_;obtain ⟨A,D,C,B,E⟩:=P
 try dsimp only
 obtain ⟨O,J⟩:=K;refine aS aj 3 U<|AL U Sa fun R=>eN U Nw U<|dD aj 6 [] (mc 0 U mn) U<|rS (CL (Tq (a_.mk ([(ai.mk 1 (aa.mk 1000 1000) (aa.mk 0 0) (aa.mk 0 0) 0 0),(ai.mk 2 (aa.mk 1000 1000) (aa.mk 0 0) (aa.mk 0 0) 0 0)]) 199 ([eU]) (eM (min (([(ai.mk 1 (aa.mk 1000 1000) (aa.mk 0 0) (aa.mk 0 0) 0 0),(ai.mk 2 (aa.mk 1000 1000) (aa.mk 0 0) (aa.mk 0 0) 0 0)]).length-1) 6)) 0 0 0) (some ⟨L,0,none⟩) 2 C A D B E 0 (by exact J)) (aw (aM 6 U U (by simp [ai.aC]) U)<|aw (ak (n:=([eU]).length) 1 U (im O))<|aw (dK 2 U kJ)<|aw (ak (n:=(eM (min (([(ai.mk 1 (aa.mk 1000 1000) (aa.mk 0 0) (aa.mk 0 0) 0 0),(ai.mk 2 (aa.mk 1000 1000) (aa.mk 0 0) (aa.mk 0 0) 0 0)]).length-1) 6)).length) 3 U sm)<|aA) U)<|aS aj 8 U<|cK bX 22 kr<|dS (CL Ml (aA) U)<|dP 4 [] mn ?_;refine iQ (t:=36) U (aG fun F=>?_) (aH fun F=>?_)
 ·exact absurd Jc F
 refine dP 4 [] mn ?_;refine iQ (t:=40) U (aG fun G=>?_) (aH fun G=>?_)
 ·exact absurd Gk.2 G
 refine jZ 1 [] (mc 4 U mn) U<|dS (CL (j1 198 199) (aA) U)<|dS (BI U (wU _ _ (yh (dv.mk 1 (aa.mk 200 200) (aa.mk 0 0) (aa.mk 0 0) (aa.mk 60000 60000) (aa.mk 0 0)) ([(ai.mk 1 (aa.mk 1000 1000) (aa.mk 0 0) (aa.mk 0 0) 0 0),(ai.mk 2 (aa.mk 1000 1000) (aa.mk 0 0) (aa.mk 0 0) 0 0)]) 1) (aa.mk 198 199)))<|dP 2 [] mn ?_;refine iQ (t:=45) U (aG fun H=>?_) (aH fun H=>?_)
 ·exact absurd Gk.1 H
 refine dP 4 [] mn ?_;refine iQ (t:=49) U (aG fun AB=>?_) (aH fun AB=>?_)
 ·exact absurd Eu.2 AB
 refine iR 4 U<|cy<|cr aj 3 hQ U U ?_
 first|rfl|exact cB (cT Eu.1)
end
section
open Go.RowKit
theorem MI:
 de Tryz.prog 4 [] [(rd ig 3 2 fY)] (vB true):=by
 refine bg kr Tryz.func4 U U fun o Q hQ hN=>?_
 try dsimp only
 refine aS bS 7 U<|rS (CL (j1 1000 1000) (aA) U)<|rS (SX (aU (xs:=[(0,.const (vI 1)),(1,.tmp 9)]) (cs:=(ai.cells (ai.mk 1 (aa.mk 1000 1000) (aa.mk 0 0) (aa.mk 0 0) 0 0))) U U (aT PJ U)) U U)<|rS (CL (j1 1000 1000) (aA) U)<|rS (SX (aU (xs:=[(0,.const (vI 2)),(1,.tmp 11)]) (cs:=(ai.cells (ai.mk 2 (aa.mk 1000 1000) (aa.mk 0 0) (aa.mk 0 0) 0 0))) U U (aT PJ U)) U U)<|dC (xs:=[.tmp 10,.tmp 12]) (cs:=((ai.cells (ai.mk 1 (aa.mk 1000 1000) (aa.mk 0 0) (aa.mk 0 0) 0 0))++(ai.cells (ai.mk 2 (aa.mk 1000 1000) (aa.mk 0 0) (aa.mk 0 0) 0 0)))) U vM GQ U U U U (by simp [Value.cells,ai.aC]) U U fun F=>rS (SX (aU (xs:=[(0,.tmp 13)]) (cs:=(aY.cells (aY.mk (aV.mk (some ⟨F,0,none⟩) 2 2)))) U U (aT VY U)) U U)<|AL U VL fun j=>eN U Vx U<|cm aj 5 [] (mc 0 U mn) ?_;refine cX (B2 ([(ai.mk 1 (aa.mk 1000 1000) (aa.mk 0 0) (aa.mk 0 0) 0 0),(ai.mk 2 (aa.mk 1000 1000) (aa.mk 0 0) (aa.mk 0 0) 0 0)]) (some ⟨F,0,none⟩) 2 1000 dc (by exact zB) dc) (aw (aM 1 U U (by simp [ai.aC]) U)<|aA) U fun l g=>?_;obtain ⟨C,E,G,A,B⟩:=l
 try dsimp only
 obtain ⟨Z,N⟩:=g;refine aS aj 3 U<|AL U Sa fun P=>eN U Nw U<|aq aj 4 ?_;refine US (L':=[(0,(vB false)),(1,(vP j)),(2,(vP P)),(3,(vB (decide (dU (a_.mk ([(ai.mk 1 (aa.mk 1000 1000) (aa.mk 0 0) (aa.mk 0 0) 0 0),(ai.mk 2 (aa.mk 1000 1000) (aa.mk 0 0) (aa.mk 0 0) 0 0)]) 1000 [eU] (eM (min (([(ai.mk 1 (aa.mk 1000 1000) (aa.mk 0 0) (aa.mk 0 0) 0 0),(ai.mk 2 (aa.mk 1000 1000) (aa.mk 0 0) (aa.mk 0 0) 0 0)]).length-1) 6)) 0 0 0)=0)))),(9,(vA (aa.cells (aa.mk 1000 1000)))),(10,(vA (ai.cells (ai.mk 1 (aa.mk 1000 1000) (aa.mk 0 0) (aa.mk 0 0) 0 0)))),(11,(vA (aa.cells (aa.mk 1000 1000)))),(12,(vA (ai.cells (ai.mk 2 (aa.mk 1000 1000) (aa.mk 0 0) (aa.mk 0 0) 0 0)))),(13,(vS (some ⟨F,0,none⟩) 2 2)),(14,(vA (aY.cells (aY.mk (aV.mk (some ⟨F,0,none⟩) 2 2))))),(15,(vT [(vA (bU.cells (bU.mk (aY.mk (aV.mk (some ⟨F,0,none⟩) (([(ai.mk 1 (aa.mk 1000 1000) (aa.mk 0 0) (aa.mk 0 0) 0 0),(ai.mk 2 (aa.mk 1000 1000) (aa.mk 0 0) (aa.mk 0 0) 0 0)]).length) 2)) 1000 (aV.mk C 1 E) (aV.mk A ((eM (min (([(ai.mk 1 (aa.mk 1000 1000) (aa.mk 0 0) (aa.mk 0 0) 0 0),(ai.mk 2 (aa.mk 1000 1000) (aa.mk 0 0) (aa.mk 0 0) 0 0)]).length-1) 6)).length) B) 0 0 0))),(vB (decide (dU (a_.mk ([(ai.mk 1 (aa.mk 1000 1000) (aa.mk 0 0) (aa.mk 0 0) 0 0),(ai.mk 2 (aa.mk 1000 1000) (aa.mk 0 0) (aa.mk 0 0) 0 0)]) 1000 [eU] (eM (min (([(ai.mk 1 (aa.mk 1000 1000) (aa.mk 0 0) (aa.mk 0 0) 0 0),(ai.mk 2 (aa.mk 1000 1000) (aa.mk 0 0) (aa.mk 0 0) 0 0)]).length-1) 6)) 0 0 0)=0)))])),(16,(vA (aY.cells (aY.mk (aV.mk (some ⟨F,0,none⟩) 2 2))))),(17,(vT [(vA (bU.cells (bU.mk (aY.mk (aV.mk (some ⟨F,0,none⟩) (([(ai.mk 1 (aa.mk 1000 1000) (aa.mk 0 0) (aa.mk 0 0) 0 0),(ai.mk 2 (aa.mk 1000 1000) (aa.mk 0 0) (aa.mk 0 0) 0 0)]).length) 2)) 1000 (aV.mk C 1 E) (aV.mk A ((eM (min (([(ai.mk 1 (aa.mk 1000 1000) (aa.mk 0 0) (aa.mk 0 0) 0 0),(ai.mk 2 (aa.mk 1000 1000) (aa.mk 0 0) (aa.mk 0 0) 0 0)]).length-1) 6)).length) B) 0 0 0))),(vB (decide (dU (a_.mk ([(ai.mk 1 (aa.mk 1000 1000) (aa.mk 0 0) (aa.mk 0 0) 0 0),(ai.mk 2 (aa.mk 1000 1000) (aa.mk 0 0) (aa.mk 0 0) 0 0)]) 1000 [eU] (eM (min (([(ai.mk 1 (aa.mk 1000 1000) (aa.mk 0 0) (aa.mk 0 0) 0 0),(ai.mk 2 (aa.mk 1000 1000) (aa.mk 0 0) (aa.mk 0 0) 0 0)]).length-1) 6)) 0 0 0)=0)))])),(18,(vA (bU.cells (bU.mk (aY.mk (aV.mk (some ⟨F,0,none⟩) (([(ai.mk 1 (aa.mk 1000 1000) (aa.mk 0 0) (aa.mk 0 0) 0 0),(ai.mk 2 (aa.mk 1000 1000) (aa.mk 0 0) (aa.mk 0 0) 0 0)]).length) 2)) 1000 (aV.mk C 1 E) (aV.mk A ((eM (min (([(ai.mk 1 (aa.mk 1000 1000) (aa.mk 0 0) (aa.mk 0 0) 0 0),(ai.mk 2 (aa.mk 1000 1000) (aa.mk 0 0) (aa.mk 0 0) 0 0)]).length-1) 6)).length) B) 0 0 0)))),(19,(vB (decide (dU (a_.mk ([(ai.mk 1 (aa.mk 1000 1000) (aa.mk 0 0) (aa.mk 0 0) 0 0),(ai.mk 2 (aa.mk 1000 1000) (aa.mk 0 0) (aa.mk 0 0) 0 0)]) 1000 [eU] (eM (min (([(ai.mk 1 (aa.mk 1000 1000) (aa.mk 0 0) (aa.mk 0 0) 0 0),(ai.mk 2 (aa.mk 1000 1000) (aa.mk 0 0) (aa.mk 0 0) 0 0)]).length-1) 6)) 0 0 0)=0))))]) rfl<|mh bX [0,3,4,5,6] [7,8,1,2,9,10,11] [false,false,false,false,false] [] [(cb P 28 (bU.cells (bU.mk (aY.mk (aV.mk (some ⟨F,0,none⟩) (([(ai.mk 1 (aa.mk 1000 1000) (aa.mk 0 0) (aa.mk 0 0) 0 0),(ai.mk 2 (aa.mk 1000 1000) (aa.mk 0 0) (aa.mk 0 0) 0 0)]).length) 2)) 1000 (aV.mk C 1 E) (aV.mk A ((eM (min (([(ai.mk 1 (aa.mk 1000 1000) (aa.mk 0 0) (aa.mk 0 0) 0 0),(ai.mk 2 (aa.mk 1000 1000) (aa.mk 0 0) (aa.mk 0 0) 0 0)]).length-1) 6)).length) B) 0 0 0))),(own C E 109 2 (zipWith aX.cells [eU] G)),(bD (bx aX.owns [eU] G)),(own A B 113 4 ((eM (min (([(ai.mk 1 (aa.mk 1000 1000) (aa.mk 0 0) (aa.mk 0 0) 0 0),(ai.mk 2 (aa.mk 1000 1000) (aa.mk 0 0) (aa.mk 0 0) 0 0)]).length-1) 6)).map dT.cells)),(cb j 24 (aY.cells (aY.mk (aV.mk (some ⟨F,0,none⟩) 2 2)))),(cb F 65 ((ai.cells (ai.mk 1 (aa.mk 1000 1000) (aa.mk 0 0) (aa.mk 0 0) 0 0))++(ai.cells (ai.mk 2 (aa.mk 1000 1000) (aa.mk 0 0) (aa.mk 0 0) 0 0)))),(rd ig 3 2 fY).ro] [] kr (aB [0,1,2,3,4,5,6]) (aB [])<|eS rfl (LW 0 rfl bP rfl rfl)<|eS rfl (CL (j1 2600 2600) (aA) rfl)<|eS rfl (SX (aU (xs:=[(1,.const (vB true)),(2,.tmp 23)]) (cs:=(aO.cells (aO.mk false true (aa.mk 2600 2600) (dx.mk 0 0 (aV.mk none 0 0))))) rfl rfl (aT Ku rfl)) rfl rfl)<|eS rfl (CL (j1 2509 2509) (aA) rfl)<|eS rfl (SX (aU (xs:=[(1,.const (vB true)),(2,.tmp 25)]) (cs:=(aO.cells (aO.mk false true (aa.mk 2509 2509) (dx.mk 0 0 (aV.mk none 0 0))))) rfl rfl (aT Ku rfl)) rfl rfl)<|dI rfl<|IU [.take 7,.op 8,.take 1,.take 2,.op 9,.take 10,.op 11] [(24,(vA (aO.cells (aO.mk false true (aa.mk 2600 2600) (dx.mk 0 0 (aV.mk none 0 0)))))),(26,(vA (aO.cells (aO.mk false true (aa.mk 2509 2509) (dx.mk 0 0 (aV.mk none 0 0))))))] (fun i=>match i with |7=>27|1=>21|2=>22|10=>4|_=>0) (fun i b=>match i with |7=> .slice (some ⟨b,0,none⟩) 2 2|1=> .slice (some ⟨b,0,none⟩) 2 2|2=> .slice (some ⟨b,0,none⟩) 2 2|10=> .pointer (some ⟨b,0,none⟩)|_=>undef) (fun i b=>match i with |7=>cb b 52 ((aO.cells (aO.mk false true (aa.mk 2600 2600) (dx.mk 0 0 (aV.mk none 0 0))))++(aO.cells (aO.mk false true (aa.mk 2509 2509) (dx.mk 0 0 (aV.mk none 0 0)))))|1=>cb b 3 [(vI 3),(vI 4)]|2=>cb b 3 [(vI 0),(vI 1)]|10=>cb b 32 (cf.cells (cf.mk (bU.mk (aY.mk (aV.mk none 0 0)) 0 (aV.mk none 0 0) (aV.mk none 0 0) 0 0 0) (aV.mk none 0 0) (aV.mk none 0 0) 0 (aV.mk none 0 0)))|_=>cb b 0 []) rfl rfl rfl kr rfl rfl (aB [0,1,2,3,4,5,6]) (pS (Gl (xs:=[.tmp 24,.tmp 26]) (cs:=((aO.cells (aO.mk false true (aa.mk 2600 2600) (dx.mk 0 0 (aV.mk none 0 0))))++(aO.cells (aO.mk false true (aa.mk 2509 2509) (dx.mk 0 0 (aV.mk none 0 0)))))) rfl rV KP rfl rfl rfl rfl (by simp [Value.cells,aO.aC]) rfl rfl rfl (fun _=>rfl) fun _=>rfl)<|ve<|pS (Gl (xs:=[.const (vI 3),.const (vI 4)]) (cs:=[(vI 3),(vI 4)]) rfl cM jW rfl rfl rfl rfl (by simp [Value.cells]) rfl rfl rfl (fun _=>rfl) fun _=>rfl)<|pS (Gl (xs:=[.const (vI 0),.const (vI 1)]) (cs:=[(vI 0),(vI 1)]) rfl cM jW rfl rfl rfl rfl (by simp [Value.cells]) rfl rfl rfl (fun _=>rfl) fun _=>rfl)<|ve<|pS (P5 rfl vC rfl rfl (fun _=>rfl) fun _=>rfl)<|ve<|Oi) ?_;intro D
 try dsimp only
 refine uW U fun Y X K hT=>dC (xs:=[.tmp 27]) (cs:=[(vS (some ⟨D,0,none⟩) 2 2)]) U mz aa4 U U U U (by simp [Value.cells]) U U fun J=>qz hT 22 9 U U (fun w hs=>St.kT [2,3,4,5,6,7,8] U U hs) U U ?_
 try dsimp only [List.take]
 intro L
 try dsimp only
 intro M
 try dsimp only
 refine uW U fun Y X K hT=>rS (SX (aU (xs:=[(0,.tmp 20),(1,.tmp 21),(2,.tmp 22),(4,.tmp 28)]) (cs:=(cf.cells (cf.mk (bU.mk (aY.mk (aV.mk (some ⟨F,0,none⟩) (([(ai.mk 1 (aa.mk 1000 1000) (aa.mk 0 0) (aa.mk 0 0) 0 0),(ai.mk 2 (aa.mk 1000 1000) (aa.mk 0 0) (aa.mk 0 0) 0 0)]).length) 2)) 1000 (aV.mk C 1 E) (aV.mk A ((eM (min (([(ai.mk 1 (aa.mk 1000 1000) (aa.mk 0 0) (aa.mk 0 0) 0 0),(ai.mk 2 (aa.mk 1000 1000) (aa.mk 0 0) (aa.mk 0 0) 0 0)]).length-1) 6)).length) B) 0 0 0) (aV.mk (some ⟨L,0,none⟩) 2 2) (aV.mk (some ⟨M,0,none⟩) 2 2) 0 (aV.mk (some ⟨J,0,none⟩) 1 1)))) U U (aT Bo U)) U U)<|qz hT 25 11 U U (fun w hs=>St.kT [4,5,6,7,8,9,10] U U hs) U U ?_
 try dsimp only [List.take]
 intro k
 try dsimp only
 refine uW U fun Y X K hT=>eN U n8 U<|qz hT 26 12 U U (fun w hs=>St.kT [5,6,7,8,9,10,11] U U hs) U U ?_
 try dsimp only [List.take]
 refine aq jE 2 ?_;refine qW (es:=(oB.av.bW.map ai.cells)) (C':=[_,_,_,_,_,_,_,_,_,_,(zz (some ⟨F,0,none⟩) 2 oB.av.bW),_]) 10 U (uA ai.aC _) U (by show _≤maxLen;exact c6 (m:=10) (show (2:Nat)≤10 by decide) dc) U ?_;refine qW (es:=(oB.bf.map iC)) (C':=[_,_,(fB (some ⟨L,0,none⟩) 2 oB.bf),_,_,_,_,_,_,_,_,_]) 2 U (uA br _) U (by show _≤maxLen;exact c6 (m:=10) (show (2:Nat)≤10 by decide) dc) U ?_;refine qW (es:=(oB.dp.map iC)) (C':=[_,(fB (some ⟨M,0,none⟩) 2 oB.dp),_,_,_,_,_,_,_,_,_,_]) 1 U (uA br _) U (by show _≤maxLen;exact c6 (m:=10) (show (2:Nat)≤10 by decide) dc) U ?_;refine qW (es:=(zipWith ao.cells [GF 2600,GF 2509] [(none,0),(none,0)])) (C':=[_,_,_,_,(own (some ⟨D,0,none⟩) 2 52 7 (zipWith ao.cells [GF 2600,GF 2509] [(none,0),(none,0)])),_,_,_,_,_,_,_]) 4 U (wR Rs) U (by show _≤maxLen;exact c6 (m:=10) (show (2:Nat)≤10 by decide) dc) U ?_;refine qW (es:=(zipWith dQ oB.ay [(((some ⟨D,0,none⟩),2),[(none,0),(none,0)])])) (C':=[_,_,_,(uZ (some ⟨J,0,none⟩) 1 oB.ay [(((some ⟨D,0,none⟩),2),[(none,0),(none,0)])]),_,_,_,_,_,_,_,_]) 3 U (wR PC) U (by show _≤maxLen;exact c6 (m:=10) (show (1:Nat)≤10 by decide) dc) U ?_;refine eC 85 2<|eC 85 2<|MA (bx kM oB.ay [(((some ⟨D,0,none⟩),2),[(none,0),(none,0)])]) [6,0,1] [2,3,4,5,7,8,9,10,11,12,13] U U ?_;have c:=Nn N (Ox (p:=((some ⟨D,0,none⟩),2)) (s:=(none,0)) (t:=(none,0)));have O:=(Ox (p:=((some ⟨D,0,none⟩),2)) (s:=(none,0)) (t:=(none,0)));refine cm aW 2 [] (mc 1 U mn) ?_;refine cX (S3 oB (some ⟨F,0,none⟩) 2 G C E A B (some ⟨L,0,none⟩) 2 (some ⟨M,0,none⟩) 2 ([(((some ⟨D,0,none⟩),2),[(none,0),(none,0)])]) (some ⟨J,0,none⟩) 1 (by exact c)) (gN 11 U U<|aw (ak (n:=oB.av.bW.length) 10 U U)<|aw (ak (n:=oB.av.aD.length) 6 U (im Z))<|aw (dK 7 U kJ)<|aw (ak (n:=oB.av.ag.length) 8 U U)<|aw (ak (n:=oB.bf.length) 3 U U)<|aw (ak (n:=oB.dp.length) 2 U U)<|aw (ak (n:=oB.ay.length) 4 U U)<|aw (lI 0 U O)<|aA) U fun h d=>?_;obtain ⟨S,e,f⟩:=h
 try dsimp only
 have a:=d;refine dD aj 10 [] (mc 3 U mn) U<|rS (SX (aU (xs:=[(0,.tmp 36),(4,.const (vI 5))]) (cs:=(kp.cells (kp.mk (cf.mk (bU.mk (aY.mk (aV.mk (some ⟨F,0,none⟩) (([(ai.mk 1 (aa.mk 1000 1000) (aa.mk 0 0) (aa.mk 0 0) 0 0),(ai.mk 2 (aa.mk 1000 1000) (aa.mk 0 0) (aa.mk 0 0) 0 0)]).length) 2)) 1000 (aV.mk C 1 E) (aV.mk A ((eM (min (([(ai.mk 1 (aa.mk 1000 1000) (aa.mk 0 0) (aa.mk 0 0) 0 0),(ai.mk 2 (aa.mk 1000 1000) (aa.mk 0 0) (aa.mk 0 0) 0 0)]).length-1) 6)).length) B) 0 0 0) (aV.mk (some ⟨L,0,none⟩) 2 2) (aV.mk (some ⟨M,0,none⟩) 2 2) 0 (aV.mk (some ⟨J,0,none⟩) 1 1)) (aV.mk none 0 0) (aV.mk none 0 0) 0 5))) U U (aT aaE U)) U U)<|rS (CL (Rd Hc (some ⟨F,0,none⟩) 2 G C E A B (some ⟨L,0,none⟩) 2 (some ⟨M,0,none⟩) 2 ([(((some ⟨D,0,none⟩),2),[(none,0),(none,0)])]) (some ⟨J,0,none⟩) 1 none 0 none 0 1 (by exact SQ N O)) (gN 13 U U<|aw (ak (n:=oB.av.bW.length) 12 U U)<|aw (ak (n:=oB.av.aD.length) 8 U (im Z))<|aw (dK 9 U kJ)<|aw (ak (n:=oB.av.ag.length) 10 U U)<|aw (ak (n:=oB.bf.length) 5 U U)<|aw (ak (n:=oB.dp.length) 4 U U)<|aw (ak (n:=oB.ay.length) 6 U U)<|aw (lI 2 U O)<|aw (vn _ _)<|aw (vn _ _)<|aA) U)<|aS aj 9 U<|rS (CL Ma (aA) U)<|aq aj 4 ?_;refine cz (t:=45) U (aG fun T=>?_) (aH fun T=>?_)
 ·exact absurd Zw T
 refine aq aj 4 ?_;refine cz (t:=49) U (aG fun AA=>?_) (aH fun AA=>?_)
 ·exact absurd Nj AA
 refine aq aj 1 ?_;refine dC (xs:=[.const (vI 1)]) (cs:=[(vI 1)]) U cM jW U U U U (by simp [Value.cells]) U U fun H=>dC (xs:=[.const (vI 0)]) (cs:=[(vI 0)]) U cM jW U U U U (by simp [Value.cells]) U U fun AB=>dC (xs:=[.tmp 51,.tmp 52]) (cs:=[(vS (some ⟨H,0,none⟩) 1 1),(vS (some ⟨AB,0,none⟩) 1 1)]) U wB M8 U U U U (by simp [Value.cells]) U U fun R=>?_;refine g0 (es:=(([1]:List Int).map iC)) (C':=[_,_,(fB (some ⟨H,0,none⟩) 1 ([1]:List Int)),_,_,_,_,_,_,_,_,_,_,_,_,_,_]) 2 U (uA br _) U (by show _≤maxLen;exact c6 (m:=10) (show (1:Nat)≤10 by decide) dc) U ?_;refine g0 (es:=(([0]:List Int).map iC)) (C':=[_,(fB (some ⟨AB,0,none⟩) 1 ([0]:List Int)),_,_,_,_,_,_,_,_,_,_,_,_,_,_,_]) 1 U (uA br _) U (by show _≤maxLen;exact c6 (m:=10) (show (1:Nat)≤10 by decide) dc) U ?_;refine g0 (es:=(zipWith rp [([1]:List Int),([0]:List Int)] [((some ⟨H,0,none⟩),1),((some ⟨AB,0,none⟩),1)])) (C':=[(own (some ⟨R,0,none⟩) 2 29 1 (zipWith rp [([1]:List Int),([0]:List Int)] [((some ⟨H,0,none⟩),1),((some ⟨AB,0,none⟩),1)])),_,_,_,_,_,_,_,_,_,_,_,_,_,_,_,_]) 0 U (wR Wq) U (by show _≤maxLen;exact c6 (m:=10) (show (2:Nat)≤10 by decide) dc) U ?_;refine KG (bx z3 [([1]:List Int),([0]:List Int)] [((some ⟨H,0,none⟩),1),((some ⟨AB,0,none⟩),1)]) [2,1] [0,3,4,5,6,7,8,9,10,11,12,13,14,15,16] U U ?_;refine rS (CL (DM (lW oB) ([([1]:List Int),([0]:List Int)]) S e f ([((some ⟨H,0,none⟩),1),((some ⟨AB,0,none⟩),1)]) (some ⟨R,0,none⟩) 2 (by rw [DX];decide) dc (by rw [DX];decide) dc (by exact a) (by rfl)) (aw (ak (n:=(lW oB).length) 2 U (iO a))<|aw (dK 3 U wj)<|aw (ak (n:=([([1]:List Int),([0]:List Int)]).length) 1 U sm)<|aw (dK 0 U wj)<|aA) U) ?_;refine aq aj 2 ?_;refine cz (t:=56) U (aG fun V=>?_) (aH fun V=>?_)
 ·exact absurd DX V
 refine aq aj 4 ?_;refine cz (t:=60) U (aG fun W=>?_) (aH fun W=>?_)
 ·exact absurd BK.2 W
 exact cr aj 7 hQ U U<|cB (cT BK.1)
end
section
open Go.RowKit
theorem Bz (j:dy) (kA:OA) (kC:Nat) (az:List RA) (cA:OA) (cC:Nat) (bA:OA) (bC:Nat) (slA:OA) (slC:Nat) (drA:OA) (drC:Nat) (ha:List cq) (heA:OA) (heC:Nat) (faA:OA) (faC:Nat) (prA:OA) (prC:Nat) (fG kW:Int) (t:aa) (hraw:xg j az ha) (h1b:0≤fG∧fG≤255) (h2b:0≤kW∧kW≤255):
 de Tryz.prog 3 [(vA (kp.cells (rL j kA kC cA cC bA bC slA slC drA drC heA heC faA faC prA prC))),(Value.int .u8 fG),(Value.int .u8 kW),(vA (aa.cells t))] [(rd ig 3 2 fY),(gQ kA j.Race.av.bW),(pb cA j.Race.av.aD az),(iX (bx aX.lG j.Race.av.aD az)),(oG bA j.Race.av.ag),(eE slA j.Race.bf),(eE drA j.Race.dp),(qZ heA j.Race.ay ha),(iX (bx nu j.Race.ay ha)),(oO faA j.bB),(qC prA j.bM)] (vB true):=by
 refine bg kr Tryz.func3 U U fun w0 Q hQ hN=>?_
 try dsimp only
 refine aS bS 2 U<|dV U fun b2=>dV U fun b3=>aS aj 5 U<|rS (CL MI (aP [2]) U)<|dD aj 7 [] (mc 1 U mn) U<|rS (CL (OO j kA kC az cA cC bA bC slA slC drA drC ha heA heC faA faC prA prC hraw) (aP [3,4,5,6,7,8,9,10,11,12]) U)<|aq aj 1 ?_;refine bJ (t:=37) U (aH fun CI=>?_) (aG fun CI=>?_)
 ·refine cr aj 18 hQ U U ?_
  first|rfl|exact c7 Value.bool (decide_eq_true S)|exact c7 Value.bool (decide_eq_true H)|exact c7 Value.bool (decide_eq_true (by rw [show q=j.Race.bf.length by omega]))
 refine dD aj 1 [] (mc 1 U mn) U<|rS (CL (El j kA kC az cA cC bA bC slA slC drA drC ha heA heC faA faC prA prC (by exact hraw.small CI)) (aP [3,4,5,6,7,8,9,10,11,12]) U)<|aq aj 3 ?_;refine bJ (t:=42) U (aJ fun G=>?_) (aK fun G=>?_)
 ·refine cr aj 13 hQ U U ?_
  first|rfl|exact c7 Value.bool (decide_eq_true S)|exact c7 Value.bool (decide_eq_true H)|exact c7 Value.bool (decide_eq_true (by rw [show q=j.Race.bf.length by omega]))
 refine aq aj 9 ?_;refine cK bX 16 kr ?_;have e:=hraw.small CI;have C2:=e.race;have Y2:=e.race.line;have b1:=e.race.hE;have b4:=e.race.has;have be:=e.race.hO;have bc:=e.nf;have bd:=e.np;have Ne:=(fI G).1;have Go:=(fI G).2;have YV:=(dF Ne).1;have Ha:=(dF Ne).2;have YA:=(ep YV).2.head;unfold fj at YA;have b7:=Ha.num;have b6:=Ha.nh;have b5:=Go.nf;have b8:=Go.np;have bz:=Go.vW;refine iR 1 U<|dS (SX (ql (m:=fG) U U ML nZ (mI (by first|assumption|omega))) U U)<|jZ 4 [] (mc 1 U mn) U<|dS (BI U (P_ I I))<|iR 1 U<|dS (SX (ql (m:=kW) U U ML nZ (mI (by first|assumption|omega))) U U)<|jZ 4 [] (mc 1 U mn) U<|dS (BI U (P_ I I))<|iR 2 U<|cy<|aq aj 3 ?_;obtain ⟨h,hq,hb⟩: ∃ q:Int,(fG % (j.Race.ay.length:Int))=q∧0≤q∧q≤(j.Race.ay.length:Int)-1:=⟨_,rfl,by have:=UG fG (j.Race.ay.length:Int) I I;omega⟩;rw [hq];obtain ⟨i,hi,L3⟩: ∃ q:Int,(kW % (j.Race.bf.length:Int))=q∧mN j.Race q:=⟨_,rfl,by unfold mN;have:=UG kW (j.Race.bf.length:Int) I I;omega⟩;rw [hi];have NE:(0≤h∧h≤(j.Race.ay.length:Int)-1)∧mN j.Race i:=⟨hb,L3⟩;have M2:=L3;unfold mN at M2;obtain ⟨row,A3⟩:=Qo G hb;obtain ⟨b9,L2,d0,bt⟩:=I5 Ha NE;rcases Ih (t:=t) G NE A3 with ⟨hm,Hi,S,H⟩|⟨hm,Hi,S,H⟩|⟨hm,S⟩
 rotate_left 1
 ·try dsimp only
  refine cm aW 2 [] (mc 1 U mn) ?_;refine cX (yc j kA kC az cA cC bA bC slA slC drA drC ha heA heC faA faC prA prC sd) (aP [2,3,4,5,6,7,8,9,10,11,12]) U fun Or H1=>?_;obtain ⟨A5,an,a7⟩:=Or
  try dsimp only
  have P:=H1
  try dsimp only at P
  refine cm aj 13 [0,1] (mc 3 U (mc 2 U mn)) ?_;refine rS (SX (aU (xs:=[(1,.const (vB true)),(2,.tmp 70)]) (cs:=(aO.cells (aO.mk false true t (dx.mk 0 0 (aV.mk none 0 0))))) U U (aT Ku U)) U U) ?_;refine cX (vz j kA kC az cA cC bA bC slA slC drA drC ha heA heC faA faC prA prC h i (ic t) none 0 sd (by exact c4 _)) (lV [4,5,6,7,8,9,10,11,12,13,14]<|aw (vn _ _)<|aA) U fun Os B3=>?_;obtain ⟨IR,Wc,Pn,T2,Ro,T6,TZ,R2,T9,R5,U8,R8,VT,Sz,V9,aC⟩:=Os;cases IR;rotate_left 1
  ·obtain ⟨K,⟨T,AA⟩,R⟩:=B3.1 rfl
   try dsimp only [cond_true,cond_false,List.cons_append,List.nil_append]
   exact absurd (K.symm.trans S) dc
  obtain ⟨AB,he⟩:=B3.2 rfl
  try dsimp only at AB he
  subst AB
  try dsimp only [cond_true,cond_false,List.cons_append,List.nil_append]
  refine aS aj 3 U<|AL U vC fun a4=>eN U n8 U<|aq aj 9 ?_;refine bJ (t:=77) U (aJ fun b=>?_) (aK fun b=>?_)
  ·exact absurd G b
  refine cm aj 10 [] (mc 4 U mn) ?_;refine bY U (aJ fun A7=>?_) (aK fun A7=>?_)
  ·exact absurd (ux G) I
  refine aq aW 12 ?_;have C3:=ux G;obtain ⟨A,C⟩:=ax (eG j) ((h).toNat) I;obtain ⟨row2a,hrow2a⟩:=ax A5 ((h).toNat) I;have hrow2m:(zipWith rp (eG j) A5)[(h).toNat]? =some (rp A row2a):=cD C hrow2a;refine rS (IA ((h).toNat) U (ak (n:=(eG j).length) 1 U (iO P)) wB dc I I)<|rS (gG ((h).toNat) 0 (vS row2a.1 A.length row2a.2) U bP (ak (n:=(eG j).length) 1 U (iO P)) hrow2m U dc U) ?_;have DA:=xd G _ (aF C);obtain rfl:A=row:=m3 (C.symm.trans A3);refine aq aj 5 ?_;have E:(0≤A.length)∧(false=(A.take 0).any (fun w=>decide (w=i))):=by exact ⟨c4 _,sm⟩
  refine bu (ι:={z:Nat×Bool // (z.1≤A.length)∧(z.2=(A.take z.1).any (fun w=>decide (w=i)))}) [4,7,9,10,11,12,14,15,89,90] [0,1,2,3,4,5,6,7,8,9,10,11,12,13,14,15] U U (fun z=>[(16,(vB z.1.2)),(91,(vI (z.1.1:Int)))]) (fun z=>[]) (fun _=>rfl) (fun _=>rfl) (fun z=>A.length-z.1.1) ⟨(0,false),E⟩ (aN U) (aB [0,1,2,3,4,5,6,7,8,9,10,11,12,13,14,15]) ?_;clear E;rintro ⟨⟨v,bv⟩,⟨J,B⟩⟩ J140 A8
  try dsimp only at J B
  try dsimp only
  refine aq bS 6 ?_;refine bY U (aH fun LE=>?_) (aG fun LE=>?_)
  ·refine aq aW 6 ?_;obtain ⟨w,hw⟩:=ax A v I;have By:=bw iC hw;refine rS (IA v U (show ij _ (eE row2a.1 A).holds from (fun w hw=>(dK 2 U wj) w hw _ (bq C hrow2a (by simp [Mb])))) cM dc I I)<|rS (gG v 0 (vI w) U bP (show ij _ (eE row2a.1 A).holds from (fun w hw=>(dK 2 U wj) w hw _ (bq C hrow2a (by simp [Mb])))) By U dc U)<|aq aj 6 ?_;refine bJ (t:=96) U (fun O=>?_) (fun O=>?_)
   ·refine aq aj 12 ?_;have Fi:(vI (((v+1):Nat):Int))=(vI ((v:Int)+1)):=by exact cI I
    refine aL (A8 ⟨((v+1),true),⟨I,by rw [nD hw,← B,O];rfl⟩⟩ _ _ _ U os (cx 11<|aQ U Fi<|cS.nil _) (aB [0,1,2,3,4,5,6,7,8,9,10,11,12,13,14,15]))
   refine aq aj 12 ?_;have Fn:(vI (((v+1):Nat):Int))=(vI ((v:Int)+1)):=by exact cI I
   refine aL (A8 ⟨((v+1),(decide (w=i))),⟨I,by rw [nD hw,← B,O];rfl⟩⟩ _ _ _ U os (cx 11<|aQ U Fn<|cS.nil _) (aB [0,1,2,3,4,5,6,7,8,9,10,11,12,13,14,15]))
  refine aS aW 1 U<|aq fD 9 ?_;refine bY U (fun D=>?_) (fun D=>?_)
  ·rw [e0] at D;have Do:bv=true:=(by rw [B,show v=A.length by omega,AA8,AAm];exact ⟨i,hm,cT rfl⟩);exact noConfusion (D.symm.trans Do)
  rw [m5] at D;refine aS aW 5 U<|rS (LP (cf.cells (pP j.Race kA kC cA cC bA bC slA slC drA drC heA heC)) 4 U bP U U U)<|cm aj 3 [] (mc 3 U mn) ?_;refine cX (Gu h i t j.Race kA kC az cA cC bA bC slA slC drA drC ha heA heC sd) (aP [5,6,7,8,9,10,11,12,13]) U fun PP B7=>?_;obtain ⟨Id,Wk,P4,T4,R0,T7,To,R3,UV,R6,VO,R9,VV,S1,WF,ab⟩:=PP;cases Id;rotate_left 1
  ·obtain ⟨K,⟨T,AA⟩,R⟩:=B7.1 rfl
   try dsimp only [cond_true,cond_false,List.cons_append,List.nil_append]
   exact absurd (K.symm.trans H) dc
  obtain ⟨AB,he⟩:=B7.2 rfl
  try dsimp only at AB he
  subst AB
  try dsimp only [cond_true,cond_false,List.cons_append,List.nil_append]
  refine aS aj 3 U<|AL U vC fun a5=>eN U n8 U<|dD aj 7 [] (mc 4 U mn) U<|rS (CL (DB t) (aA) U)<|aq aj 3 ?_;refine bE U (aK fun W=>?_) (aJ fun W=>?_)
  ·exact absurd W Hi
  refine aq aW 8 ?_;refine cz (t:=126) U (aG fun Ck=>?_) (aH fun Ck=>?_)
  ·exact absurd S Ck
  refine cr aj 7 hQ U U ?_
  first|rfl|exact c7 Value.bool (decide_eq_true S)|exact c7 Value.bool (decide_eq_true H)|exact c7 Value.bool (decide_eq_true (by rw [show q=j.Race.bf.length by omega]))
 ·try dsimp only
  refine cm aW 2 [] (mc 1 U mn) ?_;refine cX (yc j kA kC az cA cC bA bC slA slC drA drC ha heA heC faA faC prA prC sd) (aP [2,3,4,5,6,7,8,9,10,11,12]) U fun PR IO=>?_;obtain ⟨A6,ap,a8⟩:=PR
  try dsimp only
  have P:=IO
  try dsimp only at P
  refine cm aj 13 [0,1] (mc 3 U (mc 2 U mn)) ?_;refine rS (SX (aU (xs:=[(1,.const (vB true)),(2,.tmp 70)]) (cs:=(aO.cells (aO.mk false true t (dx.mk 0 0 (aV.mk none 0 0))))) U U (aT Ku U)) U U) ?_;refine cX (vz j kA kC az cA cC bA bC slA slC drA drC ha heA heC faA faC prA prC h i (ic t) none 0 sd (by exact c4 _)) (lV [4,5,6,7,8,9,10,11,12,13,14]<|aw (vn _ _)<|aA) U fun Pi B9=>?_;obtain ⟨If,Wm,Qr,T5,R1,T8,T0,R4,U6,R7,VR,ST,V3,S2,WP,ac⟩:=Pi;cases If;rotate_left 1
  ·obtain ⟨K,⟨T,AA⟩,R⟩:=B9.1 rfl
   try dsimp only [cond_true,cond_false,List.cons_append,List.nil_append]
   exact absurd (K.symm.trans S) dc
  obtain ⟨AB,he⟩:=B9.2 rfl
  try dsimp only at AB he
  subst AB
  try dsimp only [cond_true,cond_false,List.cons_append,List.nil_append]
  refine aS aj 3 U<|AL U vC fun a6=>eN U n8 U<|aq aj 9 ?_;refine bJ (t:=77) U (aJ fun b=>?_) (aK fun b=>?_)
  ·exact absurd G b
  refine cm aj 10 [] (mc 4 U mn) ?_;refine bY U (aJ fun A7=>?_) (aK fun A7=>?_)
  ·exact absurd (ux G) I
  refine aq aW 12 ?_;have C3:=ux G;obtain ⟨A,C⟩:=ax (eG j) ((h).toNat) I;obtain ⟨row2a,hrow2a⟩:=ax A6 ((h).toNat) I;have hrow2m:(zipWith rp (eG j) A6)[(h).toNat]? =some (rp A row2a):=cD C hrow2a;refine rS (IA ((h).toNat) U (ak (n:=(eG j).length) 1 U (iO P)) wB dc I I)<|rS (gG ((h).toNat) 0 (vS row2a.1 A.length row2a.2) U bP (ak (n:=(eG j).length) 1 U (iO P)) hrow2m U dc U) ?_;have DA:=xd G _ (aF C);obtain rfl:A=row:=m3 (C.symm.trans A3);refine aq aj 5 ?_;have E:(0≤A.length)∧(false=(A.take 0).any (fun w=>decide (w=i))):=by exact ⟨c4 _,sm⟩
  refine bu (ι:={z:Nat×Bool // (z.1≤A.length)∧(z.2=(A.take z.1).any (fun w=>decide (w=i)))}) [4,7,9,10,11,12,14,15,89,90] [0,1,2,3,4,5,6,7,8,9,10,11,12,13,14,15] U U (fun z=>[(16,(vB z.1.2)),(91,(vI (z.1.1:Int)))]) (fun z=>[]) (fun _=>rfl) (fun _=>rfl) (fun z=>A.length-z.1.1) ⟨(0,false),E⟩ (aN U) (aB [0,1,2,3,4,5,6,7,8,9,10,11,12,13,14,15]) ?_;clear E;rintro ⟨⟨v,bv⟩,⟨J,B⟩⟩ J203 A9
  try dsimp only at J B
  try dsimp only
  refine aq bS 6 ?_;refine bE U (aG fun La=>?_) (aH fun La=>?_)
  ·refine aS aW 1 U<|aq fD 9 ?_;refine bE U (fun D=>?_) (fun D=>?_)
   ·rw [m5] at D;exfalso;rw [B,AAm] at D;obtain ⟨w,hw,Xf⟩:=D;exact hm (s6 Xf▸ACK hw)
   rw [e0] at D;refine cr aW 11 hQ U U ?_
   first|rfl|exact c7 Value.bool (decide_eq_true S)|exact c7 Value.bool (decide_eq_true H)|exact c7 Value.bool (decide_eq_true (by rw [show q=j.Race.bf.length by omega]))
  refine aq aW 6 ?_;obtain ⟨w,hw⟩:=ax A v I;have By:=bw iC hw;refine rS (IA v U (show ij _ (eE row2a.1 A).holds from (fun w hw=>(dK 2 U wj) w hw _ (bq C hrow2a (by simp [Mb])))) cM dc I I)<|rS (gG v 0 (vI w) U bP (show ij _ (eE row2a.1 A).holds from (fun w hw=>(dK 2 U wj) w hw _ (bq C hrow2a (by simp [Mb])))) By U dc U)<|aq aj 6 ?_;refine bJ (t:=96) U (fun O=>?_) (fun O=>?_)
  ·refine aq aj 12 ?_;have GE:(vI (((v+1):Nat):Int))=(vI ((v:Int)+1)):=by exact cI I
   refine aL (A9 ⟨((v+1),true),⟨I,by rw [nD hw,← B,O];rfl⟩⟩ _ _ _ U os (cx 11<|aQ U GE<|cS.nil _) (aB [0,1,2,3,4,5,6,7,8,9,10,11,12,13,14,15]))
  refine aq aj 12 ?_;have GT:(vI (((v+1):Nat):Int))=(vI ((v:Int)+1)):=by exact cI I
  refine aL (A9 ⟨((v+1),(decide (w=i))),⟨I,by rw [nD hw,← B,O];rfl⟩⟩ _ _ _ U os (cx 11<|aQ U GT<|cS.nil _) (aB [0,1,2,3,4,5,6,7,8,9,10,11,12,13,14,15]))
 try dsimp only
 refine cm aW 2 [] (mc 1 U mn) ?_;refine cX (yc j kA kC az cA cC bA bC slA slC drA drC ha heA heC faA faC prA prC sd) (aP [2,3,4,5,6,7,8,9,10,11,12]) U fun ad Nl=>?_;obtain ⟨Ci,bl,bp⟩:=ad
 try dsimp only
 have P:=Nl
 try dsimp only at P
 refine cm aj 13 [0,1] (mc 3 U (mc 2 U mn)) ?_;refine rS (SX (aU (xs:=[(1,.const (vB true)),(2,.tmp 70)]) (cs:=(aO.cells (aO.mk false true t (dx.mk 0 0 (aV.mk none 0 0))))) U U (aT Ku U)) U U) ?_;refine cX (vz j kA kC az cA cC bA bC slA slC drA drC ha heA heC faA faC prA prC h i (ic t) none 0 sd (by exact c4 _)) (lV [4,5,6,7,8,9,10,11,12,13,14]<|aw (vn _ _)<|aA) U fun ae DC=>?_;obtain ⟨Od,a9,f,y,g,AC,x,l,AO,o,AP,p,An,s,A0,A4⟩:=ae;cases Od
 ·obtain ⟨AB,he⟩:=DC.2 rfl
  try dsimp only at AB he
  subst AB
  try dsimp only [cond_true,cond_false,List.cons_append,List.nil_append]
  exact absurd S he
 obtain ⟨K,⟨T,AA⟩,R⟩:=DC.1 rfl
 try dsimp only [cond_true,cond_false,List.cons_append,List.nil_append]
 refine aS aj 3 U<|AL U vC fun bn=>eN U n8 U<|aq aj 5 ?_
 try dsimp only at K T AA R
 have ZZ:(pQ j.Race.ay h i (ic t))=(jJ j.Race.ay h i t):=c7 cN.ay (JU L2);rw [ZZ] at R ⊢;have A2:=T;have ba:=AA;have L:=R;have V:gI (gW j.Race h i t) _ _:=gI.rep C2 T AA R;have Xi:=(I4 CI).1;have L0:=KF (h:=h) (i:=i) (t:=t) Xi;refine aq aW 4 ?_;refine bJ (t:=77) U (aJ fun b=>?_) (aK fun b=>?_)
 ·exact absurd G b
 refine cm aj 10 [] (mc 12 U mn) ?_;refine bY U (aJ fun A7=>?_) (aK fun A7=>?_)
 ·exact absurd (ux G) I
 refine aq aW 12 ?_;have C3:=ux G;obtain ⟨A,C⟩:=ax (eG j) ((h).toNat) I;obtain ⟨row2a,hrow2a⟩:=ax Ci ((h).toNat) I;have hrow2m:(zipWith rp (eG j) Ci)[(h).toNat]? =some (rp A row2a):=cD C hrow2a;refine rS (IA ((h).toNat) U (ak (n:=(eG j).length) 9 U (iO P)) wB dc I I)<|rS (gG ((h).toNat) 0 (vS row2a.1 A.length row2a.2) U bP (ak (n:=(eG j).length) 9 U (iO P)) hrow2m U dc U) ?_;have DA:=xd G _ (aF C);obtain rfl:A=row:=m3 (C.symm.trans A3);refine aq aj 5 ?_;have E:(0≤A.length)∧(false=(A.take 0).any (fun w=>decide (w=i))):=by exact ⟨c4 _,sm⟩
 refine bu (ι:={z:Nat×Bool // (z.1≤A.length)∧(z.2=(A.take z.1).any (fun w=>decide (w=i)))}) [4,7,9,10,11,12,14,15,89,90] [0,1,2,3,4,5,6,7,8,9,10,11,12,13,14,15,16,17,18,19,20,21,22,23] U U (fun z=>[(16,(vB z.1.2)),(91,(vI (z.1.1:Int)))]) (fun z=>[]) (fun _=>rfl) (fun _=>rfl) (fun z=>A.length-z.1.1) ⟨(0,false),E⟩ (aN U) (aB [0,1,2,3,4,5,6,7,8,9,10,11,12,13,14,15,16,17,18,19,20,21,22,23]) ?_;clear E;rintro ⟨⟨v,bv⟩,⟨J,B⟩⟩ J41 Cx
 try dsimp only at J B
 try dsimp only
 refine aq bS 6 ?_;refine bY U (aH fun W1=>?_) (aG fun W1=>?_)
 ·refine aq aW 6 ?_;obtain ⟨w,hw⟩:=ax A v I;have By:=bw iC hw;refine rS (IA v U (show ij _ (eE row2a.1 A).holds from (fun w hw=>(dK 10 U wj) w hw _ (bq C hrow2a (by simp [Mb])))) cM dc I I)<|rS (gG v 0 (vI w) U bP (show ij _ (eE row2a.1 A).holds from (fun w hw=>(dK 10 U wj) w hw _ (bq C hrow2a (by simp [Mb])))) By U dc U)<|aq aj 6 ?_;refine bJ (t:=96) U (fun O=>?_) (fun O=>?_)
  ·refine aq aj 12 ?_;have Li:(vI (((v+1):Nat):Int))=(vI ((v:Int)+1)):=by exact cI I
   refine aL (Cx ⟨((v+1),true),⟨I,by rw [nD hw,← B,O];rfl⟩⟩ _ _ _ U os (cx 11<|aQ U Li<|cS.nil _) (aB [0,1,2,3,4,5,6,7,8,9,10,11,12,13,14,15,16,17,18,19,20,21,22,23]))
  refine aq aj 12 ?_;have Lk:(vI (((v+1):Nat):Int))=(vI ((v:Int)+1)):=by exact cI I
  refine aL (Cx ⟨((v+1),(decide (w=i))),⟨I,by rw [nD hw,← B,O];rfl⟩⟩ _ _ _ U os (cx 11<|aQ U Lk<|cS.nil _) (aB [0,1,2,3,4,5,6,7,8,9,10,11,12,13,14,15,16,17,18,19,20,21,22,23]))
 refine aS aW 1 U<|aq fD 9 ?_;refine bY U (fun D=>?_) (fun D=>?_)
 ·rw [e0] at D;have Do:bv=true:=(by rw [B,show v=A.length by omega,AA8,AAm];exact ⟨i,hm,cT rfl⟩);exact noConfusion (D.symm.trans Do)
 rw [m5] at D;refine aS aW 5 U<|rS (LP (cf.cells (pP j.Race kA kC cA cC bA bC slA slC drA drC heA heC)) 12 U bP U U U)<|cm aj 3 [] (mc 11 U mn) ?_;refine cX (Gu h i t j.Race kA kC az cA cC bA bC slA slC drA drC ha heA heC sd) (aP [13,14,15,16,17,18,19,20,21]) U fun af DL=>?_;obtain ⟨Op,bN,In,J8,JR,J9,J7,JZ,Ke,J2,K0,J3,K4,J4,K5,OF⟩:=af;cases Op
 ·obtain ⟨AB,he⟩:=DL.2 rfl
  try dsimp only at AB he
  subst AB
  try dsimp only [cond_true,cond_false,List.cons_append,List.nil_append]
  exact absurd H he
 obtain ⟨K,⟨T,AA⟩,R⟩:=DL.1 rfl
 try dsimp only [cond_true,cond_false,List.cons_append,List.nil_append]
 refine aS aj 3 U<|AL U vC fun bo=>eN U n8 U<|aq aj 5 ?_
 try dsimp only at K T AA R
 have Lo:=T;have bb:=AA;have C1:=R;have GV:gI (gW j.Race h i t) _ _:=gI.rep C2 T AA R;refine dD aW 2 [] (mc 20 U mn) U<|rS (CL (DB t) (aA) U)<|aq aj 3 ?_;refine bY U (aJ fun W=>?_) (aK fun W=>?_)
 ·exact absurd Hi W
 refine aS aW 5 U<|rS (LP (cf.cells (pP j.Race kA kC cA cC bA bC slA slC drA drC heA heC)) 21 U bP U U U)<|cm aj 3 [] (mc 20 U mn) ?_;refine cX (Lv h i t j.Race kA kC az cA cC bA bC slA slC drA drC ha heA heC sd) (aP [22,23,24,25,26,27,28,29,30]) U fun ah bh=>?_;obtain ⟨bm,bs⟩:=ah
 try dsimp only
 refine aq aj 10 ?_;have Zd:=N9 H;rw [Zd];refine aS aj 1 U<|rS (SX (ck (r:= .bool false) U U U nm) U U)<|aS aj 2 U<|rS (SX (ck (r:= .bool false) U U U nm) U U)<|aq aj 6 ?_;refine bJ (t:=149) U (aJ fun Cp=>?_) (aK fun Cp=>?_)
 ·exact absurd H Cp
 refine cm aj 2 [0,1] (mc 10 U (mc 1 U mn)) ?_;refine rS (CL (GM (gW j.Race h i t) f y x g AC l AO o AP p An A4 s A0 (gW j.Race h i t) In J8 J7 JR J9 JZ Ke J2 K0 J3 K4 OF J4 K5 (by exact V) (by exact GV) (by exact L0) (by exact L0)) (aw (ak (n:=j.Race.av.bW.length) 11 U (by first|(simp;done)|(rw [c3];rfl)))<|aw (ak (n:=j.Race.av.aD.length) 12 U (im A2))<|aw (dK 13 U kJ)<|aw (ak (n:=j.Race.av.ag.length) 14 U (by first|(simp;done)|(rw [c3];rfl)))<|aw (ak (n:=j.Race.bf.length) 15 U (by first|(simp;done)|(rw [c3];rfl)))<|aw (ak (n:=j.Race.dp.length) 16 U (by first|(simp;done)|(rw [c3];rfl)))<|aw (ak (n:=(jJ j.Race.ay h i t).length) 17 U (e8 L.1))<|aw (lI 18 U L)<|aw (ak (n:=j.Race.av.bW.length) 2 U (by first|(simp;done)|(rw [c3];rfl)))<|aw (ak (n:=j.Race.av.aD.length) 3 U (im Lo))<|aw (dK 4 U kJ)<|aw (ak (n:=j.Race.av.ag.length) 5 U (by first|(simp;done)|(rw [c3];rfl)))<|aw (ak (n:=j.Race.bf.length) 6 U (by first|(simp;done)|(rw [c3];rfl)))<|aw (ak (n:=j.Race.dp.length) 7 U (by first|(simp;done)|(rw [c3];rfl)))<|aw (ak (n:=(jJ j.Race.ay h i t).length) 8 U (e8 C1.1))<|aw (lI 9 U C1)<|aA) U) ?_;refine aq aj 4 ?_;refine bY U (aJ fun Ct=>?_) (aK fun Ct=>?_)
 ·exact absurd U Ct
 refine cm aW 18 [] (mc 22 U mn) ?_;have E:(0≤j.Race.bf.length):=by exact c4 _
 refine bu (ι:={z:Nat // (z≤j.Race.bf.length)}) [4,9,10,11,14,21,157,158] [0,2,3,4,5,6,7,8,9,10,11,12,13,14,15,16,17,18,19,20,22,23,24,25,26,27,28,29,30,31,32,33] U U (fun z=>[(23,(vI (((jX (oc j.Race h i t) z.1).length:Nat):Int))),(159,(vI (z.1:Int)))]) (fun z=>[]) (fun _=>rfl) (fun _=>rfl) (fun z=>j.Race.bf.length-z.1) ⟨0,E⟩ (aN U) (aB [0,2,3,4,5,6,7,8,9,10,11,12,13,14,15,16,17,18,19,20,22,23,24,25,26,27,28,29,30,31,32,33]) ?_;clear E;rintro ⟨q,Pl⟩ J83 A1
 try dsimp only
 have b0:(jX (oc j.Race h i t) q).length≤q:=P2;refine aq bS 6 ?_;refine bE U (aG fun LT=>?_) (aH fun LT=>?_)
 ·refine aS aW 1 U<|cr fD 15 hQ U U ?_
  first|rfl|exact c7 Value.bool (decide_eq_true S)|exact c7 Value.bool (decide_eq_true H)|exact c7 Value.bool (decide_eq_true (by rw [show q=j.Race.bf.length by omega]))
 refine aS aW 13 U<|rS (LP (cf.cells (pP j.Race kA kC cA cC bA bC slA slC drA drC heA heC)) 20 U bP U U U)<|aq aj 1 ?_;refine cX (Jq (q:Int) j.Race kA kC az cA cC bA bC slA slC drA drC ha heA heC sd) (aP [21,22,23,24,25,26,27,28,29]) U fun al bi=>?_;obtain ⟨J5,K8⟩:=al
 try dsimp only
 refine cm aj 11 [] (mc 10 U mn) ?_;refine cX (Jq (q:Int) (gW j.Race h i t) f y x g AC l AO o AP p An A4 s A0 (by exact V)) (gN 22 U U<|aw (ak (n:=j.Race.av.bW.length) 11 U (by first|(simp;done)|(rw [c3];rfl)))<|aw (ak (n:=j.Race.av.aD.length) 12 U (im A2))<|aw (dK 13 U kJ)<|aw (ak (n:=j.Race.av.ag.length) 14 U (by first|(simp;done)|(rw [c3];rfl)))<|aw (ak (n:=j.Race.bf.length) 15 U (by first|(simp;done)|(rw [c3];rfl)))<|aw (ak (n:=j.Race.dp.length) 16 U (by first|(simp;done)|(rw [c3];rfl)))<|aw (ak (n:=(jJ j.Race.ay h i t).length) 17 U (e8 L.1))<|aw (lI 18 U L)<|aA) U fun am bk=>?_;obtain ⟨J6,LA⟩:=am
 try dsimp only
 refine aq aj 14 ?_;refine cz (t:=179) U (aG fun M=>?_) (aH fun M=>?_)
 ·refine aq aj 10 ?_;refine nV (ι:=Unit) [4,9,10,11,14,21,24,25,26,27,28,157,158,159] [0,1,2,3,4,5,6,7,8,9,10,11,12,13,14,15,16,17,18,19,20,21,22,23,24,25,26,27,28,29,30,31,32,33] U U (fun z=>[(23,(vI (((jX (oc j.Race h i t) (q+1)).length:Nat):Int))),(29,(vB (oc j.Race h i t q)))]) (fun z=>[]) (fun _=>rfl) (fun _=>rfl) ?_ fun K105 Di=>?_
  ·intro _
   try dsimp only
   refine aq aW 2 ?_;have Bx:=wx (k:=(q:Int)) H;rw [Bx];refine aq aW 5 ?_;refine bJ (t:=193) U (aJ fun X=>?_) (aK fun X=>?_)
   ·exact absurd U X
   refine aq aj 3 ?_;refine rS (CL (zw (ks j.Race (q:Int)) J5 K8 (ks (gW j.Race h i t) (q:Int)) J6 LA (by exact c6 sb I) (by exact c6 sb (by show j.Race.bf.length≤_;omega))) (aw (ak (n:=(ks j.Race (q:Int)).length) 1 U sm)<|aw (ak (n:=(ks (gW j.Race h i t) (q:Int)).length) 0 U sm)<|aA) U) ?_;refine aS aj 1 U<|rS (BI U (PN Wd))<|aq aj 3 ?_;refine bY U (fun F=>?_) (fun F=>?_)
   ·rw [e0] at F;rw [Jm H I] at F;simp at F
   rw [m5] at F;refine aS aW 5 U<|rS (LP (cf.cells (pP j.Race kA kC cA cC bA bC slA slC drA drC heA heC)) 22 U bP U U U)<|aq aj 1 ?_;refine rS (CL (IZ (q:Int) j.Race kA kC az cA cC bA bC slA slC drA drC ha heA heC sd) (aP [23,24,25,26,27,28,29,30,31]) U) ?_;refine aS aj 3 U<|AL U dA fun a2=>eN U cJ U<|cm aj 7 [] (mc 12 U mn) ?_;refine rS (CL (IZ (q:Int) (gW j.Race h i t) f y x g AC l AO o AP p An A4 s A0 (by exact V)) (gN 24 U U<|aw (ak (n:=j.Race.av.bW.length) 13 U (by first|(simp;done)|(rw [c3];rfl)))<|aw (ak (n:=j.Race.av.aD.length) 14 U (im A2))<|aw (dK 15 U kJ)<|aw (ak (n:=j.Race.av.ag.length) 16 U (by first|(simp;done)|(rw [c3];rfl)))<|aw (ak (n:=j.Race.bf.length) 17 U (by first|(simp;done)|(rw [c3];rfl)))<|aw (ak (n:=j.Race.dp.length) 18 U (by first|(simp;done)|(rw [c3];rfl)))<|aw (ak (n:=(jJ j.Race.ay h i t).length) 19 U (e8 L.1))<|aw (lI 20 U L)<|aA) U) ?_;refine aS aj 3 U<|AL U dA fun a3=>eN U cJ U<|aq aj 5 ?_;rw [Bx];refine aq aj 4 ?_;refine cz (t:=217) U (aK fun Y=>?_) (aJ fun Y=>?_)
   ·refine aq aj 19 ?_;have Fd:(vI (((q+1):Nat):Int))=(vI ((q:Int)+1)):=by exact cI I
    refine aL (A1 ⟨(q+1),(by first|omega|(simp only [];omega))⟩ _ _ _ U os (cx 9<|aQ U Fd<|cS.nil _) (aB [4,5,6,7,8,9,10,11,12,13,14,15,16,17,18,19,20,21,22,23,24,25,26,27,28,29,30,31,32,33,34,35]))
   refine aq aj 4 ?_;refine bJ (t:=221) U (aJ fun Z=>?_) (aK fun Z=>?_)
   ·exact absurd U Z
   refine dD aj 2 [0,1] (mc 1 U (mc 0 U mn)) U<|rS (BI U (Ft _ _ (yX j.Race (q:Int)) (yX (gW j.Race h i t) (q:Int))))<|aq aj 4 ?_;refine bY U (aJ fun a=>?_) (aK fun a=>?_)
   ·exact absurd (Fy H Y).symm a
   refine aq aW 7 ?_;have FS:(vI (((q+1):Nat):Int))=(vI ((q:Int)+1)):=by exact cI I
   refine aL (A1 ⟨(q+1),(by first|omega|(simp only [];omega))⟩ _ _ _ U os (cx 9<|aQ U FS<|cS.nil _) (aB [4,5,6,7,8,9,10,11,12,13,14,15,16,17,18,19,20,21,22,23,24,25,26,27,28,29,30,31,32,33,34,35]))
  refine aq bS 7 ?_;have c:(vI (((jX (oc j.Race h i t) (q+1)).length:Nat):Int))=(vI (((jX (oc j.Race h i t) q).length:Nat):Int)):=by first|exact cI (vQ ((wD I hu).symm.trans (cT N)))|exact cI (oZ (fun z=>N (s6 ((wD I hu).trans z))))|exact cI (oZ (fun z=>noConfusion ((xB I M).trans z)))
  have d:(vB (oc j.Race h i t q))=(vB false):=by first|exact cB (wD I hu).symm|exact cB (xB I M).symm
  refine aL (ke (cx 14<|aQ U c<|aQ U d<|cS.nil _) (aB [0,1,2,3,4,5,6,7,8,9,10,11,12,13,14,15,16,17,18,19,20,21,22,23,24,25,26,27,28,29,30,31,32,33]) (Di ()))
 refine aq aj 2 ?_;obtain ⟨u,hu⟩:=ax (jX (oc j.Race h i t) j.Race.bf.length) ((jX (oc j.Race h i t) q).length) I;have Z9:=bw iC hu;refine rS (IA ((jX (oc j.Race h i t) q).length) U (ak (n:=(jX (oc j.Race h i t) j.Race.bf.length).length) 2 U sm) cM dc I I)<|rS (gG ((jX (oc j.Race h i t) q).length) 0 (vI u) U bP (ak (n:=(jX (oc j.Race h i t) j.Race.bf.length).length) 2 U sm) Z9 U dc U)<|aq aj 6 ?_;refine nV (ι:=Unit) [4,9,10,11,14,21,24,25,26,27,28,157,158,159] [0,1,2,3,4,5,6,7,8,9,10,11,12,13,14,15,16,17,18,19,20,21,22,23,24,25,26,27,28,29,30,31,32,33] U U (fun z=>[(23,(vI (((jX (oc j.Race h i t) (q+1)).length:Nat):Int))),(29,(vB (oc j.Race h i t q)))]) (fun z=>[]) (fun _=>rfl) (fun _=>rfl) ?_ fun K99 C0=>?_
 ·intro _
  try dsimp only
  refine aq aW 2 ?_;have Bx:=wx (k:=(q:Int)) H;rw [Bx];refine aq aW 5 ?_;refine bJ (t:=193) U (aJ fun X=>?_) (aK fun X=>?_)
  ·exact absurd U X
  refine aq aj 3 ?_;refine rS (CL (zw (ks j.Race (q:Int)) J5 K8 (ks (gW j.Race h i t) (q:Int)) J6 LA (by exact c6 sb I) (by exact c6 sb (by show j.Race.bf.length≤_;omega))) (aw (ak (n:=(ks j.Race (q:Int)).length) 1 U sm)<|aw (ak (n:=(ks (gW j.Race h i t) (q:Int)).length) 0 U sm)<|aA) U) ?_;refine aS aj 1 U<|rS (BI U (PN Wd))<|aq aj 3 ?_;refine bY U (fun F=>?_) (fun F=>?_)
  ·rw [e0] at F;rw [Jm H I] at F;simp at F
  rw [m5] at F;refine aS aW 5 U<|rS (LP (cf.cells (pP j.Race kA kC cA cC bA bC slA slC drA drC heA heC)) 22 U bP U U U)<|aq aj 1 ?_;refine rS (CL (IZ (q:Int) j.Race kA kC az cA cC bA bC slA slC drA drC ha heA heC sd) (aP [23,24,25,26,27,28,29,30,31]) U) ?_;refine aS aj 3 U<|AL U dA fun a0=>eN U cJ U<|cm aj 7 [] (mc 12 U mn) ?_;refine rS (CL (IZ (q:Int) (gW j.Race h i t) f y x g AC l AO o AP p An A4 s A0 (by exact V)) (gN 24 U U<|aw (ak (n:=j.Race.av.bW.length) 13 U (by first|(simp;done)|(rw [c3];rfl)))<|aw (ak (n:=j.Race.av.aD.length) 14 U (im A2))<|aw (dK 15 U kJ)<|aw (ak (n:=j.Race.av.ag.length) 16 U (by first|(simp;done)|(rw [c3];rfl)))<|aw (ak (n:=j.Race.bf.length) 17 U (by first|(simp;done)|(rw [c3];rfl)))<|aw (ak (n:=j.Race.dp.length) 18 U (by first|(simp;done)|(rw [c3];rfl)))<|aw (ak (n:=(jJ j.Race.ay h i t).length) 19 U (e8 L.1))<|aw (lI 20 U L)<|aA) U) ?_;refine aS aj 3 U<|AL U dA fun a1=>eN U cJ U<|aq aj 5 ?_;rw [Bx];refine aq aj 4 ?_;refine cz (t:=217) U (aK fun Y=>?_) (aJ fun Y=>?_)
  ·refine aq aj 19 ?_;have d:(vI (((q+1):Nat):Int))=(vI ((q:Int)+1)):=by exact cI I
   refine aL (A1 ⟨(q+1),(by first|omega|(simp only [];omega))⟩ _ _ _ U os (cx 9<|aQ U d<|cS.nil _) (aB [4,5,6,7,8,9,10,11,12,13,14,15,16,17,18,19,20,21,22,23,24,25,26,27,28,29,30,31,32,33,34,35]))
  refine aq aj 4 ?_;refine bJ (t:=221) U (aJ fun Z=>?_) (aK fun Z=>?_)
  ·exact absurd U Z
  refine dD aj 2 [0,1] (mc 1 U (mc 0 U mn)) U<|rS (BI U (Ft _ _ (yX j.Race (q:Int)) (yX (gW j.Race h i t) (q:Int))))<|aq aj 4 ?_;refine bY U (aJ fun a=>?_) (aK fun a=>?_)
  ·exact absurd (Fy H Y).symm a
  refine aq aW 7 ?_;have c:(vI (((q+1):Nat):Int))=(vI ((q:Int)+1)):=by exact cI I
  refine aL (A1 ⟨(q+1),(by first|omega|(simp only [];omega))⟩ _ _ _ U os (cx 9<|aQ U c<|cS.nil _) (aB [4,5,6,7,8,9,10,11,12,13,14,15,16,17,18,19,20,21,22,23,24,25,26,27,28,29,30,31,32,33,34,35]))
 refine aq bS 5 ?_;refine bE U (aG fun N=>?_) (aH fun N=>?_)
 ·refine aq aW 1 ?_;have EY:(vI (((jX (oc j.Race h i t) (q+1)).length:Nat):Int))=(vI (((jX (oc j.Race h i t) q).length:Nat):Int)):=by first|exact cI (vQ ((wD I hu).symm.trans (cT N)))|exact cI (oZ (fun z=>N (s6 ((wD I hu).trans z))))|exact cI (oZ (fun z=>noConfusion ((xB I M).trans z)))
  have Eq:(vB (oc j.Race h i t q))=(vB (decide (u=(q:Int)))):=by first|exact cB (wD I hu).symm|exact cB (xB I M).symm
  refine aL (ke (cx 14<|aQ U EY<|aQ U Eq<|cS.nil _) (aB [0,1,2,3,4,5,6,7,8,9,10,11,12,13,14,15,16,17,18,19,20,21,22,23,24,25,26,27,28,29,30,31,32,33]) (C0 ()))
 refine aq aW 5 ?_;have Dw:(vI (((jX (oc j.Race h i t) (q+1)).length:Nat):Int))=(vI ((((jX (oc j.Race h i t) q).length:Nat):Int)+1)):=by first|exact cI (vQ ((wD I hu).symm.trans (cT N)))|exact cI (oZ (fun z=>N (s6 ((wD I hu).trans z))))|exact cI (oZ (fun z=>noConfusion ((xB I M).trans z)))
 have EQ:(vB (oc j.Race h i t q))=(vB (decide (u=(q:Int)))):=by first|exact cB (wD I hu).symm|exact cB (xB I M).symm
 refine aL (ke (cx 14<|aQ U Dw<|aQ U EQ<|cS.nil _) (aB [0,1,2,3,4,5,6,7,8,9,10,11,12,13,14,15,16,17,18,19,20,21,22,23,24,25,26,27,28,29,30,31,32,33]) (C0 ()))
end
section
open Go.RowKit
def fW {α:Type} (cells:α→List Value) (sz:Nat) (R:World→α→Prop) (w:World) (s:aV):Prop:= ∃ l:List α,s.n=l.length∧(rd s.a l.length sz (l.map cells)).holds w∧(∀ x∈l,R w x)∧l.length≤maxLen∧s.n≤s.c
theorem yM {w:World} {R:World→dj→Prop}: ∀ {l:List dB},(∀ x∈l,fW dj.cells 3 R w x.bo)→ ∃ (ms:List aX) (az:List RA),l.map dB.cells=zipWith aX.cells ms az∧ms.length=l.length∧az.length=l.length∧(∀ X∈bx aX.lG ms az,X.holds w)∧
 (∀ (k:Nat) m (a:RA),ms[k]? =some m→az[k]? =some a→m.bo.length≤a.2∧m.bo.length≤9223372036854775807)∧ms.map (fun m=>m.dG)=l.map (fun x=>x.dG)∧ ∀ (k:Nat) m y,ms[k]? =some m→y∈m.bo→R w y
 |[],_=>⟨[],[],rfl,rfl,rfl,(fun X hX=>by cases hX),(fun k m a h=>by simp at h),rfl,(fun k m y h=>by simp at h)⟩
 |x::l,h=>by
  obtain ⟨ms,az,E,F,G,H,AA,J,K⟩:=yM (fun y hy=>h y (dg _ hy));obtain ⟨sy,A,B,C,D,L⟩:=h x sm;have e4':sy.length≤9223372036854775807:=D;refine ⟨⟨x.dG,sy⟩::ms,(x.bo.a,x.bo.c)::az,?_,by simp [F],by simp [G],fun X hX=>?_,fun k m a hm ha=>?_,by simp [J],fun k m y hm hy=>?_⟩
  ·obtain ⟨dr,⟨a,n,c⟩⟩:=x;simp only at A;subst A;simp only [m2,u5,E];rfl
  ·rcases dY.1 hX with hX|hX
   ·simp only [aX.lG,bT] at hX;subst hX;exact B
   ·exact H X hX
  ·cases k with
   |zero=>
    simp only [ACB,k4] at hm ha;subst hm ha;exact ⟨by simp only;omega,e4'⟩
   |succ k=>exact AA k m a (by simpa using hm) (by simpa using ha)
  ·cases k with
   |zero=>
    simp only [ACB,k4] at hm;subst hm;exact C y hy
   |succ k=>exact K k m y (by simpa using hm) hy
theorem L4 {s:bU} (h1:fW ai.cells 9 R1 w s.bW.lR) (hs:∀ x,R1 w x→0≤x.gp∧x.gp≤255) (h2:fW dB.cells 2 R2 w s.aD) (hc:∀ x,R2 w x→fW dj.cells 3 R4 w x.bo) (h3:fW dT.cells 4 R3 w s.ag):
 ∃ (l:a_) (az:List RA) (kA:OA) (kC:Nat) (cA:OA) (cC:Nat) (bA:OA) (bC:Nat),s=bU.mk (aY.mk (aV.mk kA l.bW.length kC)) l.g7 (aV.mk cA l.aD.length cC) (aV.mk bA l.ag.length bC) l.b_ l.e_ l.di∧wa l az∧
  ((gQ kA l.bW).holds w∧(pb cA l.aD az).holds w∧(iX (bx aX.lG l.aD az)).holds w∧(oG bA l.ag).holds w)∧l.g7=s.g7∧l.b_=s.b_∧l.e_=s.e_∧l.di=s.di:=by
 obtain ⟨⟨⟨ka,kn,kc⟩⟩,fa,⟨ca,cn,cc⟩,⟨ba,bn,bc⟩,fi,fk,mi⟩:=s;obtain ⟨ts,E,M,N,O,T⟩:=h1;obtain ⟨cs,B,C,H,AA,R⟩:=h2;obtain ⟨bs,A,F,P,G,Q⟩:=h3;simp only at E B A;subst E B A;obtain ⟨ms,az,J,D,S,K,L,_⟩:=yM (fun x hx=>hc x (H x hx));have t4':ts.length≤9223372036854775807:=O;have c4':cs.length≤9223372036854775807:=AA;have b4':bs.length≤9223372036854775807:=G;refine ⟨⟨ts,fa,ms,bs,fi,fk,mi⟩,az,ka,kc,ca,cc,ba,bc,by simp only [D],⟨t4',fun x hx=>hs x (N x hx),by simp only;omega,by simp only;omega,b4',L⟩,⟨M,?_,K,F⟩,U,U,U,U⟩;simp only at C ⊢;rw [D,← J];exact C
end
section
open Go.RowKit
theorem z9 {w:World} {R:World→aZ→Prop}: ∀ {l:List aO},(∀ x∈l,fW aZ.cells 2 R w x.bp.ab)→ ∃ (ms:List ao) (az:List RA),l.map aO.cells=zipWith ao.cells ms az∧ms.length=l.length∧az.length=l.length∧(∀ X∈bx ao.lG ms az,X.holds w)∧
 ∀ d∈ms,d.bp.ab.length≤9223372036854775807
 |[],_=>⟨[],[],rfl,rfl,rfl,(fun X hX=>by cases hX),fun d h=>by cases h⟩
 |x::l,h=>by
  obtain ⟨ms,az,D,E,F,G,H⟩:=z9 (fun y hy=>h y (dg _ hy));obtain ⟨sg,A,B,AA,C,J⟩:=h x sm;have e4':sg.length≤9223372036854775807:=C;refine ⟨⟨x.Out,x.cV,x.Time,⟨x.bp.Start,x.bp.hU,sg⟩⟩::ms,(x.bp.ab.a,x.bp.ab.c)::az,?_,by simp [E],by simp [F],fun X hX=>?_,fun d hd=>?_⟩
  ·obtain ⟨o,f,t,⟨st,nw,⟨a,n,c⟩⟩⟩:=x;simp only at A;subst A;simp only [m2,u5,D];rfl
  ·rcases dY.1 hX with hX|hX
   ·simp only [ao.lG,bT] at hX;subst hX;exact B
   ·exact G X hX
  ·rcases bH.1 hd with rfl|hd
   ·exact e4'
   ·exact H d hd
theorem zA {w:World} {R2:World→aO→Prop} {R:World→aZ→Prop} (hc: ∀ x,R2 w x→fW aZ.cells 2 R w x.bp.ab): ∀ {l:List aV},(∀ x∈l,fW aO.cells 7 R2 w x)→ ∃ (ms:List (List ao)) (ha:List cq),(l.map fun s=>[vS s.a s.n s.c])=zipWith dQ ms ha∧ms.length=l.length∧ha.length=l.length∧(∀ X∈bx nu ms ha,X.holds w)∧
 ∀ (k:Nat) h (a:cq),ms[k]? =some h→ha[k]? =some a→h.length≤9223372036854775807∧a.2.length=h.length∧ ∀ d∈h,d.bp.ab.length≤9223372036854775807
 |[],_=>⟨[],[],rfl,rfl,rfl,(fun X hX=>by cases hX),(fun k h a q=>by simp at q)⟩
 |x::l,h=>by
  obtain ⟨ms,ha,J,K,L,M,N⟩:=zA hc (fun y hy=>h y (dg _ hy));obtain ⟨ds,C,G,H,AA,P⟩:=h x sm;obtain ⟨dm,az,D,B,O,E,F⟩:=z9 fun y hy=>hc y (H y hy);have e4':ds.length≤9223372036854775807:=AA;refine ⟨dm::ms,((x.a,x.c),az)::ha,?_,by simp [K],by simp [L],fun X hX=>?_,fun k m a hm A=>?_⟩
  ·obtain ⟨a,n,c⟩:=x;simp only at C;subst C;simp only [m2,u5,J,dQ,B]
  ·rcases dY.1 hX with hX|hX
   ·unfold nu at hX;rcases bH.1 hX with rfl|hX
    ·simp only;rw [B,← D];exact G
    ·exact E X hX
   ·exact M X hX
  ·cases k with
   |zero=>
    simp only [ACB,k4] at hm A;subst hm A;exact ⟨I,by simp only;omega,F⟩
   |succ k=>exact N k m a (by simpa using hm) (by simpa using A)
theorem KI {s:cf} (h1:fW ai.cells 9 R1 w s.av.bW.lR) (hs:∀ x,R1 w x→0≤x.gp∧x.gp≤255) (h2:fW dB.cells 2 R2 w s.av.aD) (hc:∀ x,R2 w x→fW dj.cells 3 R4 w x.bo) (h3:fW dT.cells 4 R3 w s.av.ag) (h4:fW iC 1 R5 w s.bf) (h5:fW iC 1 R5 w s.dp) (h6:fW (fun s=>[vS s.a s.n s.c]) 1 R6 w s.ay) (h7:∀ x,R6 w x→fW aO.cells 7 R7 w x) (h8:∀ x,R7 w x→fW aZ.cells 2 R8 w x.bp.ab):
 ∃ (r:cN) (az:List RA) (ha:List cq) (kA:OA) (kC:Nat) (cA:OA) (cC:Nat) (bA:OA) (bC:Nat) (slA:OA) (slC:Nat) (drA:OA) (drC:Nat) (heA:OA) (heC:Nat),
  s=cf.mk (bU.mk (aY.mk (aV.mk kA r.av.bW.length kC)) r.av.g7 (aV.mk cA r.av.aD.length cC) (aV.mk bA r.av.ag.length bC) r.av.b_ r.av.e_ r.av.di) (aV.mk slA r.bf.length slC) (aV.mk drA r.dp.length drC) r.jB (aV.mk heA r.ay.length heC)∧wY r az ha∧
  ((gQ kA r.av.bW).holds w∧(pb cA r.av.aD az).holds w∧(iX (bx aX.lG r.av.aD az)).holds w∧(oG bA r.av.ag).holds w∧
   (eE slA r.bf).holds w∧(eE drA r.dp).holds w∧(qZ heA r.ay ha).holds w∧(iX (bx nu r.ay ha)).holds w):=by
 obtain ⟨ln,⟨sa,sn,sc⟩,⟨da,dn,dc⟩,tu,⟨ea,en,ec⟩⟩:=s;obtain ⟨l,az,kA,kC,cA,cC,bA,bC,e,A,hh,_⟩:=L4 (s:=ln) h1 hs h2 hc h3;subst e;obtain ⟨sl,F,N,T,O,AA⟩:=h4;obtain ⟨dr,B,G,P,H,Q⟩:=h5;obtain ⟨he,D,E,L,M,S⟩:=h6;obtain ⟨ms,ha,AB,C,R,J,K⟩:=zA h8 (fun x hx=>h7 x (L x hx));simp only at F B D;subst F B D;have s4':sl.length≤9223372036854775807:=O;have d4':dr.length≤9223372036854775807:=H;have q4':he.length≤9223372036854775807:=M;refine ⟨⟨l,sl,dr,tu,ms⟩,az,ha,kA,kC,cA,cC,bA,bC,sa,sc,da,dc,ea,ec,by simp only [C],⟨A,s4',d4',by simp only;omega,by simp only;omega,K⟩,hh.1,hh.2.1,hh.2.2.1,hh.2.2.2,N,G,?_,J⟩;simp only at E ⊢;rw [C,← AB];exact E
end
section
open Go.RowKit
theorem L_ {s:kp} {R9:World→bO→Prop} {R10:World→c_→Prop} (h1:fW ai.cells 9 R1 w s.Race.av.bW.lR) (hs:∀ x,R1 w x→0≤x.gp∧x.gp≤255) (h2:fW dB.cells 2 R2 w s.Race.av.aD) (hc:∀ x,R2 w x→fW dj.cells 3 R4 w x.bo) (h3:fW dT.cells 4 R3 w s.Race.av.ag) (h4:fW iC 1 R5 w s.Race.bf) (h5:fW iC 1 R5 w s.Race.dp) (h6:fW (fun s=>[vS s.a s.n s.c]) 1 R6 w s.Race.ay) (h7:∀ x,R6 w x→fW aO.cells 7 R7 w x) (h8:∀ x,R7 w x→fW aZ.cells 2 R8 w x.bp.ab) (h9:fW bO.cells 4 R9 w s.bB) (hk:∀ x,R9 w x→0≤x.Kind∧x.Kind≤255) (h10:fW c_.cells 5 R10 w s.bM):
 ∃ (j:dy) (az:List RA) (ha:List cq) (kA:OA) (kC:Nat) (cA:OA) (cC:Nat) (bA:OA) (bC:Nat) (slA:OA) (slC:Nat) (drA:OA) (drC:Nat) (heA:OA) (heC:Nat) (faA:OA) (faC:Nat) (prA:OA) (prC:Nat),
  s=kp.mk (cf.mk (bU.mk (aY.mk (aV.mk kA j.Race.av.bW.length kC)) j.Race.av.g7 (aV.mk cA j.Race.av.aD.length cC) (aV.mk bA j.Race.av.ag.length bC) j.Race.av.b_ j.Race.av.e_ j.Race.av.di) (aV.mk slA j.Race.bf.length slC) (aV.mk drA j.Race.dp.length drC) j.Race.jB (aV.mk heA j.Race.ay.length heC)) (aV.mk faA j.bB.length faC) (aV.mk prA j.bM.length prC) j.jx j.Ke∧xg j az ha∧
  ((gQ kA j.Race.av.bW).holds w∧(pb cA j.Race.av.aD az).holds w∧(iX (bx aX.lG j.Race.av.aD az)).holds w∧(oG bA j.Race.av.ag).holds w∧
   (eE slA j.Race.bf).holds w∧(eE drA j.Race.dp).holds w∧(qZ heA j.Race.ay ha).holds w∧(iX (bx nu j.Race.ay ha)).holds w∧
   (oO faA j.bB).holds w∧(qC prA j.bM).holds w):=by
 obtain ⟨rc,⟨fa,fn,fc⟩,⟨pa,pn,pc⟩,mi,fe⟩:=s;obtain ⟨r,az,ha,kA,kC,cA,cC,bA,bC,slA,slC,drA,drC,heA,heC,e,A,hm⟩:=KI (s:=rc) h1 hs h2 hc h3 h4 h5 h6 h7 h8;subst e;obtain ⟨fl,B,D,E,F,AA⟩:=h9;obtain ⟨pr,C,G,J,H,K⟩:=h10;simp only at B C;subst B C;have f4':fl.length≤9223372036854775807:=F;have p4':pr.length≤9223372036854775807:=H;exact ⟨⟨r,fl,pr,mi,fe⟩,az,ha,kA,kC,cA,cC,bA,bC,slA,slC,drA,drC,heA,heC,fa,fc,pa,pc,U,⟨A,f4',p4',fun f hf=>hk f (E f hf)⟩,hm.1,hm.2.1,hm.2.2.1,hm.2.2.2.1,hm.2.2.2.2.1,hm.2.2.2.2.2.1,hm.2.2.2.2.2.2.1,hm.2.2.2.2.2.2.2,D,G⟩
end
section
open Go.ChangeShapes Go.WideShapes Go.ChangeAt Go.RowKit
theorem aaR:Tryz.prog.cellsOf 36=15:=by kernel_rfl
theorem YR:Tryz.prog.cellsOf 32=11:=by kernel_rfl
theorem Zy:Tryz.prog.cellsOf 28=7:=by kernel_rfl
theorem YN:Tryz.prog.cellsOf 24=1:=by kernel_rfl
theorem Z4:Tryz.prog.cellsOf 22=1:=by kernel_rfl
theorem ZC:Tryz.prog.cellsOf 65=9:=by kernel_rfl
theorem xw:Tryz.prog.cellsOf 3=1:=by kernel_rfl
def vU (w:World) (n:Int):Prop:=sW n
theorem xu:tf Tryz.prog 3 Int iC vU:=Wh nZ
theorem HU:Tryz.prog.cellsOf 38=2:=by kernel_rfl
structure Hy (w:World) (s:aa):Prop where
 Lo:vU w s.Lo
 Hi:vU w s.Hi
theorem XW:fL Tryz.prog 38=some [(3,0),(3,1)]:=by kernel_rfl
theorem Hs:tf Tryz.prog 38 aa aa.cells Hy:=fun {H} enc w base sp A fuel cs x h=>by
 obtain ⟨hl,hp⟩:=ju XW h;obtain ⟨M,O,F⟩:=hp 0 3 0 rfl;obtain ⟨K,B,AA⟩:=xu _ _ _ _ _ _ _ _ F;obtain ⟨N,P,G⟩:=hp 1 3 1 rfl;obtain ⟨L,C,J⟩:=xu _ _ _ _ _ _ _ _ G;refine ⟨⟨K,L⟩,?_,⟨AA,J⟩⟩;have E:=gV (hl.trans HU) (by rw [xw]) C;have D:=cG B (m:=1) (by rw [xw]) E;exact D
theorem cz5:Tryz.prog.cellsOf 5=1:=by kernel_rfl
def Is5 (w:World) (n:Int):Prop:=0≤n∧n≤255
theorem op5:tf Tryz.prog 5 Int Pq Is5:=WZ ML
structure VX (w:World) (s:ai):Prop where
 Id:vU w s.Id
 jd:Hy w s.jd
 kR:Hy w s.kR
 eA:Hy w s.eA
 gp:Is5 w s.gp
 AP:vU w s.AP
theorem aav:fL Tryz.prog 65=some [(3,0),(38,1),(38,3),(38,5),(5,7),(3,8)]:=by kernel_rfl
theorem aak:tf Tryz.prog 65 ai ai.cells VX:=fun {H} enc w base sp A fuel cs x h=>by
 obtain ⟨hl,hp⟩:=ju aav h;obtain ⟨g,o,O⟩:=hp 0 3 0 rfl;obtain ⟨a,B,AA⟩:=xu _ _ _ _ _ _ _ _ O;obtain ⟨i,p,P⟩:=hp 1 38 1 rfl;obtain ⟨b,C,V⟩:=Hs _ _ _ _ _ _ _ _ P;obtain ⟨j,q,Q⟩:=hp 2 38 3 rfl;obtain ⟨c,D,W⟩:=Hs _ _ _ _ _ _ _ _ Q;obtain ⟨k,r,R⟩:=hp 3 38 5 rfl;obtain ⟨d,E,X⟩:=Hs _ _ _ _ _ _ _ _ R;obtain ⟨l,s,S⟩:=hp 4 5 7 rfl;obtain ⟨e,F,Y⟩:=op5 _ _ _ _ _ _ _ _ S;obtain ⟨n,t,T⟩:=hp 5 3 8 rfl;obtain ⟨f,G,Z⟩:=xu _ _ _ _ _ _ _ _ T;refine ⟨⟨a,b,c,d,e,f⟩,?_,⟨AA,V,W,X,Y,Z⟩⟩;have N:=gV (hl.trans ZC) (by rw [xw]) G;have M:=cG F (m:=8) (by rw [cz5]) N;have L:=cG E (m:=7) (by rw [HU]) M;have K:=cG D (m:=5) (by rw [HU]) L;have J:=cG C (m:=3) (by rw [HU]) K;have AB:=cG B (m:=1) (by rw [xw]) J;exact AB
def ZI (w:World) (s:aV):Prop:= ∃ l:List ai,s.n=l.length∧(gQ s.a l).holds w∧(∀ x∈l,VX w x)∧l.length≤maxLen∧s.n≤s.c
theorem aaY:tf Tryz.prog 22 aV (fun s=>[vS s.a s.n s.c]) ZI:=l5 VN ZC aak
structure Zh (w:World) (s:aY):Prop where
 lR:ZI w s.lR
theorem aaX:fL Tryz.prog 24=some [(22,0)]:=by kernel_rfl
theorem aaF:tf Tryz.prog 24 aY aY.cells Zh:=fun {H} enc w base sp A fuel cs x h=>by
 obtain ⟨hl,hp⟩:=ju aaX h;obtain ⟨G,AA,D⟩:=hp 0 22 0 rfl;obtain ⟨F,B,E⟩:=aaY _ _ _ _ _ _ _ _ D;refine ⟨⟨F⟩,?_,⟨E⟩⟩;have C:=gV (hl.trans YN) (by rw [Z4]) B;exact C
theorem Z3:Tryz.prog.cellsOf 25=1:=by kernel_rfl
theorem UF:Tryz.prog.cellsOf 109=2:=by kernel_rfl
theorem X0:Tryz.prog.cellsOf 107=1:=by kernel_rfl
theorem Uy:Tryz.prog.cellsOf 106=3:=by kernel_rfl
structure QH (w:World) (s:dj):Prop where
 At:vU w s.At
 er:Hy w s.er
theorem W0:fL Tryz.prog 106=some [(3,0),(38,1)]:=by kernel_rfl
theorem Za:tf Tryz.prog 106 dj dj.cells QH:=fun {H} enc w base sp A fuel cs x h=>by
 obtain ⟨hl,hp⟩:=ju W0 h;obtain ⟨M,O,F⟩:=hp 0 3 0 rfl;obtain ⟨K,B,AA⟩:=xu _ _ _ _ _ _ _ _ F;obtain ⟨N,P,G⟩:=hp 1 38 1 rfl;obtain ⟨L,C,J⟩:=Hs _ _ _ _ _ _ _ _ G;refine ⟨⟨K,L⟩,?_,⟨AA,J⟩⟩;have E:=gV (hl.trans Uy) (by rw [HU]) C;have D:=cG B (m:=1) (by rw [xw]) E;exact D
def Un (w:World) (s:aV):Prop:= ∃ l:List dj,s.n=l.length∧(nG s.a l).holds w∧(∀ x∈l,QH w x)∧l.length≤maxLen∧s.n≤s.c
theorem Xu:tf Tryz.prog 107 aV (fun s=>[vS s.a s.n s.c]) Un:=l5 Uv Uy Za
structure O6 (w:World) (s:dB):Prop where
 dG:vU w s.dG
 bo:Un w s.bo
theorem ZF:fL Tryz.prog 109=some [(3,0),(107,1)]:=by kernel_rfl
theorem Yx:tf Tryz.prog 109 dB dB.cells O6:=fun {H} enc w base sp A fuel cs x h=>by
 obtain ⟨hl,hp⟩:=ju ZF h;obtain ⟨M,O,F⟩:=hp 0 3 0 rfl;obtain ⟨K,B,AA⟩:=xu _ _ _ _ _ _ _ _ F;obtain ⟨N,P,G⟩:=hp 1 107 1 rfl;obtain ⟨L,C,J⟩:=Xu _ _ _ _ _ _ _ _ G;refine ⟨⟨K,L⟩,?_,⟨AA,J⟩⟩;have E:=gV (hl.trans UF) (by rw [X0]) C;have D:=cG B (m:=1) (by rw [xw]) E;exact D
def Zc (w:World) (s:aV):Prop:= ∃ l:List dB,s.n=l.length∧(Yy s.a l).holds w∧(∀ x∈l,O6 w x)∧l.length≤maxLen∧s.n≤s.c
theorem abb:tf Tryz.prog 25 aV (fun s=>[vS s.a s.n s.c]) Zc:=l5 YW UF Yx
theorem abg:Tryz.prog.cellsOf 26=1:=by kernel_rfl
theorem UB:Tryz.prog.cellsOf 113=4:=by kernel_rfl
theorem T3:Tryz.prog.cellsOf 111=3:=by kernel_rfl
structure UU (w:World) (s:cY):Prop where
 bk:vU w s.bk
 mM:Hy w s.mM
theorem YI:fL Tryz.prog 111=some [(3,0),(38,1)]:=by kernel_rfl
theorem XG:tf Tryz.prog 111 cY cY.cells UU:=fun {H} enc w base sp A fuel cs x h=>by
 obtain ⟨hl,hp⟩:=ju YI h;obtain ⟨M,O,F⟩:=hp 0 3 0 rfl;obtain ⟨K,B,AA⟩:=xu _ _ _ _ _ _ _ _ F;obtain ⟨N,P,G⟩:=hp 1 38 1 rfl;obtain ⟨L,C,J⟩:=Hs _ _ _ _ _ _ _ _ G;refine ⟨⟨K,L⟩,?_,⟨AA,J⟩⟩;have E:=gV (hl.trans T3) (by rw [HU]) C;have D:=cG B (m:=1) (by rw [xw]) E;exact D
structure M0 (w:World) (s:dT):Prop where
 mx:UU w s.mx
 kE:vU w s.kE
theorem Zx:fL Tryz.prog 113=some [(111,0),(3,3)]:=by kernel_rfl
theorem Yc:tf Tryz.prog 113 dT dT.cells M0:=fun {H} enc w base sp A fuel cs x h=>by
 obtain ⟨hl,hp⟩:=ju Zx h;obtain ⟨M,O,F⟩:=hp 0 111 0 rfl;obtain ⟨K,B,AA⟩:=XG _ _ _ _ _ _ _ _ F;obtain ⟨N,P,G⟩:=hp 1 3 3 rfl;obtain ⟨L,C,J⟩:=xu _ _ _ _ _ _ _ _ G;refine ⟨⟨K,L⟩,?_,⟨AA,J⟩⟩;have E:=gV (hl.trans UB) (by rw [xw]) C;have D:=cG B (m:=3) (by rw [T3]) E;exact D
def WY (w:World) (s:aV):Prop:= ∃ l:List dT,s.n=l.length∧(oG s.a l).holds w∧(∀ x∈l,M0 w x)∧l.length≤maxLen∧s.n≤s.c
theorem aaW:tf Tryz.prog 26 aV (fun s=>[vS s.a s.n s.c]) WY:=l5 Tb UB Yc
structure Xw (w:World) (s:bU):Prop where
 bW:Zh w s.bW
 g7:vU w s.g7
 aD:Zc w s.aD
 ag:WY w s.ag
 b_:vU w s.b_
 e_:vU w s.e_
 di:vU w s.di
theorem aaZ:fL Tryz.prog 28=some [(24,0),(3,1),(25,2),(26,3),(3,4),(3,5),(3,6)]:=by kernel_rfl
theorem Z1:tf Tryz.prog 28 bU bU.cells Xw:=fun {H} enc w base sp A fuel cs x h=>by
 obtain ⟨hl,hp⟩:=ju aaZ h;obtain ⟨n,u,Q⟩:=hp 0 24 0 rfl;obtain ⟨e,B,X⟩:=aaF _ _ _ _ _ _ _ _ Q;obtain ⟨o,v,R⟩:=hp 1 3 1 rfl;obtain ⟨f,C,Y⟩:=xu _ _ _ _ _ _ _ _ R;obtain ⟨p,y,S⟩:=hp 2 25 2 rfl;obtain ⟨g,D,Z⟩:=abb _ _ _ _ _ _ _ _ S;obtain ⟨q,z,T⟩:=hp 3 26 3 rfl;obtain ⟨i,E,a⟩:=aaW _ _ _ _ _ _ _ _ T;obtain ⟨r,y4,AA⟩:=hp 4 3 4 rfl;obtain ⟨j,F,b⟩:=xu _ _ _ _ _ _ _ _ AA;obtain ⟨s,y5,V⟩:=hp 5 3 5 rfl;obtain ⟨k,G,c⟩:=xu _ _ _ _ _ _ _ _ V;obtain ⟨t,y6,W⟩:=hp 6 3 6 rfl;obtain ⟨l,AB,d⟩:=xu _ _ _ _ _ _ _ _ W;refine ⟨⟨e,f,g,i,j,k,l⟩,?_,⟨X,Y,Z,a,b,c,d⟩⟩;have P:=gV (hl.trans Zy) (by rw [xw]) AB;have O:=cG G (m:=6) (by rw [xw]) P;have N:=cG F (m:=5) (by rw [xw]) O;have M:=cG E (m:=4) (by rw [abg]) N;have L:=cG D (m:=3) (by rw [Z3]) M;have K:=cG C (m:=2) (by rw [xw]) L;have J:=cG B (m:=1) (by rw [YN]) K;exact J
theorem ZB:Tryz.prog.cellsOf 29=1:=by kernel_rfl
def Va (w:World) (s:aV):Prop:= ∃ l:List Int,s.n=l.length∧(eE s.a l).holds w∧(∀ x∈l,vU w x)∧l.length≤maxLen∧s.n≤s.c
theorem Zb:tf Tryz.prog 29 aV (fun s=>[vS s.a s.n s.c]) Va:=l5 YX xw xu
theorem aaG:Tryz.prog.cellsOf 30=1:=by kernel_rfl
theorem aaD:Tryz.prog.cellsOf 68=1:=by kernel_rfl
theorem YZ:Tryz.prog.cellsOf 52=7:=by kernel_rfl
theorem cz4:Tryz.prog.cellsOf 4=1:=by kernel_rfl
def Is4 (w:World) (n:Bool):Prop:=True
theorem op4:tf Tryz.prog 4 Bool (fun b=>[vB b]) Is4:=SH Wd
theorem Yz:Tryz.prog.cellsOf 50=3:=by kernel_rfl
theorem aaw:Tryz.prog.cellsOf 48=1:=by kernel_rfl
theorem XS:Tryz.prog.cellsOf 85=2:=by kernel_rfl
structure VP (w:World) (s:aZ):Prop where
 fR:vU w s.fR
 Read:vU w s.Read
theorem abd:fL Tryz.prog 85=some [(3,0),(3,1)]:=by kernel_rfl
theorem abj:tf Tryz.prog 85 aZ aZ.cells VP:=fun {H} enc w base sp A fuel cs x h=>by
 obtain ⟨hl,hp⟩:=ju abd h;obtain ⟨M,O,F⟩:=hp 0 3 0 rfl;obtain ⟨K,B,AA⟩:=xu _ _ _ _ _ _ _ _ F;obtain ⟨N,P,G⟩:=hp 1 3 1 rfl;obtain ⟨L,C,J⟩:=xu _ _ _ _ _ _ _ _ G;refine ⟨⟨K,L⟩,?_,⟨AA,J⟩⟩;have E:=gV (hl.trans XS) (by rw [xw]) C;have D:=cG B (m:=1) (by rw [xw]) E;exact D
def Zr (w:World) (s:aV):Prop:= ∃ l:List aZ,s.n=l.length∧(gR s.a l).holds w∧(∀ x∈l,VP w x)∧l.length≤maxLen∧s.n≤s.c
theorem aaV:tf Tryz.prog 48 aV (fun s=>[vS s.a s.n s.c]) Zr:=l5 Y3 XS abj
structure W9 (w:World) (s:dx):Prop where
 Start:vU w s.Start
 hU:vU w s.hU
 ab:Zr w s.ab
theorem aaJ:fL Tryz.prog 50=some [(3,0),(3,1),(48,2)]:=by kernel_rfl
theorem aax:tf Tryz.prog 50 dx dx.cells W9:=fun {H} enc w base sp A fuel cs x h=>by
 obtain ⟨hl,hp⟩:=ju aaJ h;obtain ⟨R,AA,AB⟩:=hp 0 3 0 rfl;obtain ⟨O,B,L⟩:=xu _ _ _ _ _ _ _ _ AB;obtain ⟨S,V,J⟩:=hp 1 3 1 rfl;obtain ⟨P,C,M⟩:=xu _ _ _ _ _ _ _ _ J;obtain ⟨T,W,K⟩:=hp 2 48 2 rfl;obtain ⟨Q,D,N⟩:=aaV _ _ _ _ _ _ _ _ K;refine ⟨⟨O,P,Q⟩,?_,⟨L,M,N⟩⟩;have G:=gV (hl.trans Yz) (by rw [aaw]) D;have F:=cG C (m:=2) (by rw [xw]) G;have E:=cG B (m:=1) (by rw [xw]) F;exact E
structure WI (w:World) (s:aO):Prop where
 Out:Is4 w s.Out
 cV:Is4 w s.cV
 Time:Hy w s.Time
 bp:W9 w s.bp
theorem ZX:fL Tryz.prog 52=some [(4,0),(4,1),(38,2),(50,4)]:=by kernel_rfl
theorem aaC:tf Tryz.prog 52 aO aO.cells WI:=fun {H} enc w base sp A fuel cs x h=>by
 obtain ⟨hl,hp⟩:=ju ZX h;obtain ⟨W,a,K⟩:=hp 0 4 0 rfl;obtain ⟨S,B,O⟩:=op4 _ _ _ _ _ _ _ _ K;obtain ⟨X,b,L⟩:=hp 1 4 1 rfl;obtain ⟨T,C,P⟩:=op4 _ _ _ _ _ _ _ _ L;obtain ⟨Y,c,M⟩:=hp 2 38 2 rfl;obtain ⟨AA,D,Q⟩:=Hs _ _ _ _ _ _ _ _ M;obtain ⟨Z,d,N⟩:=hp 3 50 4 rfl;obtain ⟨V,E,R⟩:=aax _ _ _ _ _ _ _ _ N;refine ⟨⟨S,T,AA,V⟩,?_,⟨O,P,Q,R⟩⟩;have J:=gV (hl.trans YZ) (by rw [Yz]) E;have AB:=cG D (m:=4) (by rw [HU]) J;have G:=cG C (m:=2) (by rw [cz4]) AB;have F:=cG B (m:=1) (by rw [cz4]) G;exact F
def V4 (w:World) (s:aV):Prop:= ∃ l:List aO,s.n=l.length∧(Yg s.a l).holds w∧(∀ x∈l,WI w x)∧l.length≤maxLen∧s.n≤s.c
theorem ZW:tf Tryz.prog 68 aV (fun s=>[vS s.a s.n s.c]) V4:=l5 Zp YZ aaC
def X5 (w:World) (s:aV):Prop:= ∃ l:List aV,s.n=l.length∧(rd s.a l.length 1 (l.map (fun s=>[vS s.a s.n s.c]))).holds w∧(∀ x∈l,V4 w x)∧l.length≤maxLen∧s.n≤s.c
theorem Z2:tf Tryz.prog 30 aV (fun s=>[vS s.a s.n s.c]) X5:=l5 YM aaD ZW
structure Xt (w:World) (s:cf):Prop where
 av:Xw w s.av
 bf:Va w s.bf
 dp:Va w s.dp
 jB:vU w s.jB
 ay:X5 w s.ay
theorem abf:fL Tryz.prog 32=some [(28,0),(29,7),(29,8),(3,9),(30,10)]:=by kernel_rfl
theorem abc:tf Tryz.prog 32 cf cf.cells Xt:=fun {H} enc w base sp A fuel cs x h=>by
 obtain ⟨hl,hp⟩:=ju abf h;obtain ⟨b,g,M⟩:=hp 0 28 0 rfl;obtain ⟨W,B,R⟩:=Z1 _ _ _ _ _ _ _ _ M;obtain ⟨c,i,N⟩:=hp 1 29 7 rfl;obtain ⟨X,C,S⟩:=Zb _ _ _ _ _ _ _ _ N;obtain ⟨d,j,O⟩:=hp 2 29 8 rfl;obtain ⟨Y,D,T⟩:=Zb _ _ _ _ _ _ _ _ O;obtain ⟨e,k,P⟩:=hp 3 3 9 rfl;obtain ⟨Z,E,AA⟩:=xu _ _ _ _ _ _ _ _ P;obtain ⟨f,l,Q⟩:=hp 4 30 10 rfl;obtain ⟨a,F,V⟩:=Z2 _ _ _ _ _ _ _ _ Q;refine ⟨⟨W,X,Y,Z,a⟩,?_,⟨R,S,T,AA,V⟩⟩;have L:=gV (hl.trans YR) (by rw [aaG]) F;have K:=cG E (m:=10) (by rw [xw]) L;have J:=cG D (m:=9) (by rw [ZB]) K;have AB:=cG C (m:=8) (by rw [ZB]) J;have G:=cG B (m:=7) (by rw [Zy]) AB;exact G
theorem Z0:Tryz.prog.cellsOf 33=1:=by kernel_rfl
theorem TY:Tryz.prog.cellsOf 131=4:=by kernel_rfl
structure OJ (w:World) (s:bO):Prop where
 Kind:Is5 w s.Kind
 ji:vU w s.ji
 og:vU w s.og
 To:vU w s.To
theorem Xs:fL Tryz.prog 131=some [(5,0),(3,1),(3,2),(3,3)]:=by kernel_rfl
theorem ZH:tf Tryz.prog 131 bO bO.cells OJ:=fun {H} enc w base sp A fuel cs x h=>by
 obtain ⟨hl,hp⟩:=ju Xs h;obtain ⟨W,a,K⟩:=hp 0 5 0 rfl;obtain ⟨S,B,O⟩:=op5 _ _ _ _ _ _ _ _ K;obtain ⟨X,b,L⟩:=hp 1 3 1 rfl;obtain ⟨T,C,P⟩:=xu _ _ _ _ _ _ _ _ L;obtain ⟨Y,c,M⟩:=hp 2 3 2 rfl;obtain ⟨AA,D,Q⟩:=xu _ _ _ _ _ _ _ _ M;obtain ⟨Z,d,N⟩:=hp 3 3 3 rfl;obtain ⟨V,E,R⟩:=xu _ _ _ _ _ _ _ _ N;refine ⟨⟨S,T,AA,V⟩,?_,⟨O,P,Q,R⟩⟩;have J:=gV (hl.trans TY) (by rw [xw]) E;have AB:=cG D (m:=3) (by rw [xw]) J;have G:=cG C (m:=2) (by rw [xw]) AB;have F:=cG B (m:=1) (by rw [cz5]) G;exact F
def Yo (w:World) (s:aV):Prop:= ∃ l:List bO,s.n=l.length∧(oO s.a l).holds w∧(∀ x∈l,OJ w x)∧l.length≤maxLen∧s.n≤s.c
theorem aa1:tf Tryz.prog 33 aV (fun s=>[vS s.a s.n s.c]) Yo:=l5 Z8 TY ZH
theorem aa0:Tryz.prog.cellsOf 34=1:=by kernel_rfl
theorem TW:Tryz.prog.cellsOf 120=5:=by kernel_rfl
structure M9 (w:World) (s:c_):Prop where
 Id:vU w s.Id
 jn:vU w s.jn
 jY:vU w s.jY
 lx:vU w s.lx
 At:vU w s.At
theorem XB:fL Tryz.prog 120=some [(3,0),(3,1),(3,2),(3,3),(3,4)]:=by kernel_rfl
theorem Yi:tf Tryz.prog 120 c_ c_.cells M9:=fun {H} enc w base sp A fuel cs x h=>by
 obtain ⟨hl,hp⟩:=ju XB h;obtain ⟨b,g,M⟩:=hp 0 3 0 rfl;obtain ⟨W,B,R⟩:=xu _ _ _ _ _ _ _ _ M;obtain ⟨c,i,N⟩:=hp 1 3 1 rfl;obtain ⟨X,C,S⟩:=xu _ _ _ _ _ _ _ _ N;obtain ⟨d,j,O⟩:=hp 2 3 2 rfl;obtain ⟨Y,D,T⟩:=xu _ _ _ _ _ _ _ _ O;obtain ⟨e,k,P⟩:=hp 3 3 3 rfl;obtain ⟨Z,E,AA⟩:=xu _ _ _ _ _ _ _ _ P;obtain ⟨f,l,Q⟩:=hp 4 3 4 rfl;obtain ⟨a,F,V⟩:=xu _ _ _ _ _ _ _ _ Q;refine ⟨⟨W,X,Y,Z,a⟩,?_,⟨R,S,T,AA,V⟩⟩;have L:=gV (hl.trans TW) (by rw [xw]) F;have K:=cG E (m:=4) (by rw [xw]) L;have J:=cG D (m:=3) (by rw [xw]) K;have AB:=cG C (m:=2) (by rw [xw]) J;have G:=cG B (m:=1) (by rw [xw]) AB;exact G
def X4 (w:World) (s:aV):Prop:= ∃ l:List c_,s.n=l.length∧(qC s.a l).holds w∧(∀ x∈l,M9 w x)∧l.length≤maxLen∧s.n≤s.c
theorem Z_:tf Tryz.prog 34 aV (fun s=>[vS s.a s.n s.c]) X4:=l5 aay TW Yi
structure aaI (w:World) (s:kp):Prop where
 Race:Xt w s.Race
 bB:Yo w s.bB
 bM:X4 w s.bM
 jx:vU w s.jx
 Ke:vU w s.Ke
theorem Ym:fL Tryz.prog 36=some [(32,0),(33,11),(34,12),(3,13),(3,14)]:=by kernel_rfl
theorem aaa:tf Tryz.prog 36 kp kp.cells aaI:=fun {H} enc w base sp A fuel cs x h=>by
 obtain ⟨hl,hp⟩:=ju Ym h;obtain ⟨b,g,M⟩:=hp 0 32 0 rfl;obtain ⟨W,B,R⟩:=abc _ _ _ _ _ _ _ _ M;obtain ⟨c,i,N⟩:=hp 1 33 11 rfl;obtain ⟨X,C,S⟩:=aa1 _ _ _ _ _ _ _ _ N;obtain ⟨d,j,O⟩:=hp 2 34 12 rfl;obtain ⟨Y,D,T⟩:=Z_ _ _ _ _ _ _ _ _ O;obtain ⟨e,k,P⟩:=hp 3 3 13 rfl;obtain ⟨Z,E,AA⟩:=xu _ _ _ _ _ _ _ _ P;obtain ⟨f,l,Q⟩:=hp 4 3 14 rfl;obtain ⟨a,F,V⟩:=xu _ _ _ _ _ _ _ _ Q;refine ⟨⟨W,X,Y,Z,a⟩,?_,⟨R,S,T,AA,V⟩⟩;have L:=gV (hl.trans aaR) (by rw [xw]) F;have K:=cG E (m:=14) (by rw [xw]) L;have J:=cG D (m:=13) (by rw [aa0]) K;have AB:=cG C (m:=12) (by rw [Z0]) J;have G:=cG B (m:=11) (by rw [YR]) AB;exact G
theorem yV:ownKnob Tryz.prog.godebug=none:=by kernel_rfl
theorem yd:laidOutB Tryz.prog=true:=by kernel_rfl
theorem vJ (os:Os) (started:os.Started) (H:Type) (enc:TypeId×Value→H):
 ReturnsInHanded {} Tryz.checked os 3 .any (fun w args=>(Rows.topRepairedSpec.pre enc Tryz.prog Tryz.f3 [] false w args∧laidMetH Tryz.prog [("kreisel/race.table",Rows.laid_kreisel_race_table)] w)∧sizedMet enc Tryz.prog Tryz.f3 (OpenSpec.ofChange Rows.topRepairedSpec) false w args) (Rows.topRepairedSpec.post enc Tryz.prog Tryz.f3 false true false false):=by
 refine returnsInHanded_of_change_and (C:=Tryz.checked) (X:=(fun w _=>laidMetH Tryz.prog [("kreisel/race.table",Rows.laid_kreisel_race_table)] w)) (fun _ _ _ hh h=>h.of_heap hh) yV started kr Tryz.func3
  (ChangeSpec.witness_shaped (enc:=enc) (C:=Tryz.checked) (os:=os) (X:=(fun w _=>laidMetH Tryz.prog [("kreisel/race.table",Rows.laid_kreisel_race_table)] w)) false (World.doorLaid Tryz.prog 400 os) #[.agg #[(vS none 0 0),(vI 0),(vS none 0 0),(vS none 0 0),(vI 0),(vI 0),(vI 0),(vS none 0 0),(vS none 0 0),(vI 0),(vS none 0 0),(vS none 0 0),(vS none 0 0),(vI 0),(vI 0)],Value.int .u8 0,Value.int .u8 0,.agg #[(vI 0),(vI 0)]] 8 rfl (World.shaped_of_RefB kr kr) kr kr kr (G1 os _)) ?_
 intro W base args ds gs before E hW _ _ hL _;have D: ∀ (j:Nat) t v,Tryz.f3.params[j]? =some t→args[j]? =some v→Value.okWide Tryz.prog W .any base t v:=E;have hW':=hW;obtain ⟨p,q,K,hV,rfl,f,g⟩:=hW;have hA:DataW.TrodAll enc Tryz.prog W 0 (fun _=>true) true Tryz.f3.params.toList args.toList ds p:=K;have F:=hA;rw [Tryz.params3] at hA D;obtain ⟨Q,u,d0,AA,p0,q0,L,rfl,rfl,a,i⟩:=trodAll_cons hA;obtain ⟨R,y,d1,V,p1,q1,rfl,rfl,rfl,b,l⟩:=trodAll_cons i;obtain ⟨S,z,d2,Y,p2,q2,rfl,rfl,rfl,c,m⟩:=trodAll_cons l;obtain ⟨T,AC,d3,Z,p3,q3,rfl,rfl,rfl,d,n⟩:=trodAll_cons m;obtain ⟨rfl,rfl,rfl⟩:=trodAll_nil n;obtain rfl:args= #[Q,R,S,T]:=by cases args;simp_all
 obtain ⟨rfl,rfl⟩:=trodVars_none hV;obtain ⟨s0,rfl,R0⟩:=AX Ym aaa (D 0 36 Q rfl rfl) a;obtain ⟨o,rfl,R1⟩:=IK (k:= .u8) ML (D 1 5 R rfl rfl) b;obtain ⟨r,rfl,R2⟩:=IK (k:= .u8) ML (D 2 5 S rfl rfl) c;obtain ⟨s,rfl,R3⟩:=AX XW Hs (D 3 38 T rfl rfl) d;simp only [AAJ] at hW' F;have J:=BF hL;obtain ⟨j,az,ha,kA,kC,cA,cC,bA,bC,O,P,drA,drC,M,N,faA,faC,prA,prC,rfl,G,B⟩:=L_ (R1:=VX) (R2:=O6) (R3:=M0) (R4:=QH) (R5:=vU) (R6:=V4) (R7:=WI) (R8:=VP) (R9:=OJ) (R10:=M9) R0.Race.av.bW.lR (fun x hx=>hx.gp) R0.Race.av.aD (fun x hx=>hx.bo) R0.Race.av.ag R0.Race.bf R0.Race.dp R0.Race.ay (fun x hx=>hx) (fun x hx=>hx.bp.ab) R0.bB (fun x hx=>hx.Kind) R0.bM;have AB:=(Bz j kA kC az cA cC bA bC O P drA drC ha M N faA faC prA prC o r s G R1 R2).run W (by intro A hA;simp only [bH,h_,AAr] at hA;rcases hA with rfl|rfl|rfl|rfl|rfl|rfl|rfl|rfl|rfl|rfl|rfl;exact J;exact B.1;exact B.2.1;exact B.2.2.1;exact B.2.2.2.1;exact B.2.2.2.2.1;exact B.2.2.2.2.2.1;exact B.2.2.2.2.2.2.1;exact B.2.2.2.2.2.2.2.1;exact B.2.2.2.2.2.2.2.2.1;exact B.2.2.2.2.2.2.2.2.2);refine (AB).mono fun e W' ⟨he,hk⟩=>?_;subst he;exact ⟨_,U,Qe yd hW' F U U kr hk.below kr Wd⟩
theorem wZ:Rows.TopRepairedSaid:=
 OpenClaim.holds_of_wide 3 Tryz.f3 rfl rfl rfl rfl rfl rfl rfl ⟨rfl,rfl,rfl,rfl,rfl⟩ rfl rfl rfl rfl rfl kr Tryz.func3 vu
  (s6 kr) (by unfold Func.isWrapper;first|(rw [c0 (by decide+kernel)];kernel_rfl)|(rw [c1 (by decide+kernel)];exact ⟨rfl,rfl⟩))
  (fun os started H enc _=>vJ os started H enc)
/-- the statement -/
theorem topRepaired_said:Rows.TopRepairedCardSaid:=
 Claim7.holds_tied_plain_at .later [] [.funcsDeep] true (true,"5c5e520b210da50315c5f25da45c16a30d3e24048b13612067901be4913a4b3f") true
  wZ (fun _ h=>by cases h) kr (fun _ h=>by cases h) topRepaired_row_tie rfl ⟨rfl,rfl⟩ kr rfl
  (fun f fn hf B=>by
   obtain rfl:f=3:=m3 ((show Tryz.prog.funcNamed "kreisel/kreiseltop.TopRepaired"=some 3 by kernel_rfl).symm.trans hf) |>.symm;obtain rfl:fn=Tryz.f3:=(m3 (Tryz.func3.symm.trans B)).symm;exact ⟨kr,fun j t ht=>by
    rw [Tryz.params3] at ht;have hm:t∈([36,5,5,38]:List Nat):=by simpa using Array.mem_of_getElem? ht
    have A:(([36,5,5,38]:List Nat).all fun u=> !Tryz.prog.wantsStandIn u)=true:=by kernel_rfl
    exact (show Tryz.prog.wantsStandIn t=false by simpa using db.1 A t hm)⟩)
  kr
#print axioms topRepaired_said
end
end Go.Proofs.YtgnlmfdknlbkkaaGreatDoor
