/-
 The statement topMeasured_said, part 5 of 5: Q1, Q2, T2, T3, T4, T5, GuardOpen, RowsOpen, Measured0.
 Conditions: none.
-/
import Derived.Test.YtkidpbhlgnalaaaGreatTz1
import Derived.Test.YtkidpbhlgnalaaaGreatTz2
import Derived.Test.YtkidpbhlgnalaaaGreatTz3
import Derived.Test.YtkidpbhlgnalaaaGreatTz4
import Derived.Test.YtkidpbhlgnalaaaGreatRows
import Derived.Test.YtkidpbhlgnalaaaGreatProg
import Derived.KernelRfl
namespace Go.Proofs.YtkidpbhlgnalaaaGreat
set_option maxRecDepth 100000
set_option maxHeartbeats 4000000
set_option linter.unusedVariables false
section
open Go.RowKit
theorem x7 (n lo hi:Int) (g1 g2:Nat):
 cz Tryz.prog 206 [(vI n),(vP g1),(vP g2)] [(bm g1 3 [(vI lo)]),(bm g2 3 [(vI hi)])] (vB (decide (n<lo∨hi<n))):=by
 refine bf kr Tryz.func206 U U fun D Q hQ hN=>?_
 try dsimp only
 refine WS fun _ B=>aU 1 U<|RK B<|WS fun _ A=>rP 4 [] (mr 0 U mn) ?_
 refine bx (t:=8) U (aM fun C=>?_) (aL fun C=>?_)
 ·refine rP 5 [] mn ?_
  refine RK A<|an<|Q1 hQ U U U ?_
  exact cB (bY om).symm
 refine rP 5 [] (mr 1 U mn) ?_
 refine RK A<|an<|Q1 hQ U U U ?_
 exact cB (eH.2 om)
theorem nD (lo hi:Int) (l:List Int) (lA:OA) (lC:Nat) (hlen:l.length≤1000000):
 cz Tryz.prog 195 [(vI lo),(vI hi),(vS lA l.length lC)] [(rd lA l.length 1 (l.map iC))] (vB (jZ lo hi l)):=by
 refine bf kr Tryz.func195 U U fun F Q hQ hN=>?_
 try dsimp only
 refine WS fun _ D=>o4 U U fun A=>o4 U U fun B=>aU 1 U<|RK D<|WS fun _ E=>rP 1 [] mn ?_
 refine rS (FU U) ?_
 refine rS (CL (jI l lA lC (Value.func (.func 206) [].toArray [(vP A),(vP B)].toArray) (fun C=>(decide (C<lo∨hi<C))) (ky [(bm A 3 [(vI lo)]),(bm B 3 [(vI hi)])]) (by intro C _; exact hZ (fi:=[]) (ca:=[(vP A),(vP B)]) (gu (x7 C lo hi A B) (aX [0,1]))) hlen) (eM 2 U U<|aK (gJ (aX [1,0]))<|av) U) ?_
 refine rP 2 [] mn ?_
 refine RK E<|an ?_
 exact Q1 hQ U U U U
theorem yQ:
 lx Tryz.prog 156 [(vA (kG.cells (kG.mk (aJ.mk none 0 0))))] [] (fun (x:Nat×Nat)=>(vT [(Value.pointer (some ⟨x.1,0,none⟩)),(vI 0)])) (fun (x:Nat×Nat)=>True) (fun (x:Nat×Nat)=>[(bm x.1 274 (jo.cells (jo.mk (kG.mk (aJ.mk none 0 0)) (Value.map (some x.2))))),(nt iV x.2 (dM (fun s=>vA (eX.cells s)) ([]:List (Int×eX))))]):=by
 refine dT kr Tryz.func156 U U fun O Q hQ hN=>?_
 try dsimp only
 refine WS fun _ E=>ej U fun N=>aU 2 U<|RK E<|WS fun _ F=>rP 1 [] (mc 0 U mn) ?_
 refine nG (kV:=iV) U U fun J=>?_
 try dsimp only
 refine rS (SX (aS (xs:=[(0,.tmp 8),(1,.tmp 9)]) (cs:=(jo.cells (jo.mk (kG.mk (aJ.mk none 0 0)) (Value.map (some J))))) U U (aT GR U)) U U)<|ej U fun L=>aU 1 U<|RK F<|WS fun _ G=>aU 1 U<|RK G<|al fun _ H=>WS fun _ AA=>dE 4 [] (mc 2 U mn) U<|RK AA<|ar<|gE 1<|ey fun R9 M=>WS fun _ A=>rS (SX (bJ (r:= .bool false) U U U ig) U U)<|RK A<|al fun _ K=>bw U<|bo<|ai<|ai<|aw<|KK H<|al fun _ B=>WS fun _ C=>dE 3 [] (mc 2 U mn) U<|rS (SX (bJ (r:= .bool false) U U U vQ) U U)<|RK C<|bw U<|WK B<|WS fun _ D=>rP 3 [] mn ?_
 refine RK D<|an<|LX hQ (L,J) [0,1] [] mn U U U U ?_
 trivial
theorem ve (f:Value):
 cz Tryz.prog 199 [(vS none 0 0),f] [] (vI (-1)):=by
 refine bf kr Tryz.func199 U U fun H Q hQ hN=>?_
 try dsimp only
 refine WS fun _ A=>aU 1 U<|RK A<|al fun _ B=>WS fun _ C=>aU 3 U<|RK C<|ar<|gE 1<|ey fun R4 G=>WS fun _ D=>rS (SX (bJ (r:= .bool false) U U U ig) U U)<|RK D<|al fun _ F=>bw U<|bo<|ai<|ai<|aw<|KK B<|WS fun _ E=>rP 1 [] mn ?_
 refine RK E<|an<|Q1 hQ U U U ?_
 exact cI om
theorem u_ (f:Value):
 cz Tryz.prog 181 [(vS none 0 0),f] [] (vB false):=by
 refine bf kr Tryz.func181 U U fun C Q hQ hN=>?_
 try dsimp only
 refine WS fun _ A=>aU 1 U<|RK A<|WS fun _ B=>aU 2 U<|rS (CL (ve f) (av) U)<|rS (SX (bJ (r:= .bool false) U U U pV) U U)<|rP 1 [] mn ?_
 refine RK B<|an<|Q1 hQ U U U ?_
 first|rfl|(simp; done)
theorem CB:
 cz Tryz.prog 182 [(vA (gX.cells (gX.mk (aJ.mk none 0 0) 500 0 0 (aJ.mk none 0 0) (aJ.mk none 0 0) 0 false)))] [] (vB true):=by
 refine bf kr Tryz.func182 U U fun P Q hQ hN=>?_
 try dsimp only
 refine WS fun _ F=>ej U fun O=>aU 1 U<|RK F<|WS fun _ G=>rP 2 [] (mc 0 U mn) ?_
 refine bX (xs:=[.tmp 4]) (cs:=[(vI 500)]) U cK g6 U U U U (by simp [Value.cells]) U U fun AA=>?_
 refine rS (CL (cz.eq (nD 0 1000000 ([500]) (some ⟨AA,0,none⟩) 1 sd) bR) (aK (aH 0 U U (by simp [bq]) U)<|av) U) ?_
 refine rP 1 [] mn ?_
 refine dq (t:=7) U (aL fun N=>?_) (aM fun N=>?_)
 ·exfalso; omega
 refine rP 2 [] (mc 1 U mn) ?_
 refine bX (xs:=[.tmp 9]) (cs:=[(vI 0)]) U cK g6 U U U U (by simp [Value.cells]) U U fun J=>?_
 refine rS (CL (cz.eq (nD 0 1000 ([0]) (some ⟨J,0,none⟩) 1 sd) bR) (aK (aH 0 U U (by simp [bq]) U)<|av) U) ?_
 refine rP 2 [] mn ?_
 refine dq (t:=13) U (aL fun E=>?_) (aM fun E=>?_)
 ·exfalso; omega
 refine dE 2 [] (mc 2 U mn) U<|bX (xs:=[.tmp 15]) (cs:=[(vI 0)]) U cK g6 U U U U (by simp [Value.cells]) U U fun K=>rP 2 [] (mc 3 U mn) ?_
 refine fD (es:=(List.map iC [0])) (C':=[own (some ⟨K,0,none⟩) 1 3 1 (List.map iC [0]),_,_,_]) 0 U (by simp [bq]) U (by simp [maxLen]) U ?_
 refine eN (es2:=(List.map iC (([0])++([])))) (m':=(([0])++([])).length) 0 U U U od U U sm (qk _ _) sm os (by first|(simp only [maxLen]; omega)|(simp [maxLen]; omega)) sm sm U fun H M=>?_
 try dsimp only
 refine rS (CL (nD (-1000) 1000 (([0])++([])) H M sd) (aK (aQ (n:=(([0])++([])).length) 0 U sm)<|av) U) ?_
 refine rP 2 [] mn ?_
 refine dq (t:=22) U (fun A=>?_) (fun A=>?_)
 ·exact Bool.noConfusion (A.symm.trans (show jZ (-1000) 1000 ([0]++[])=true by decide))
 refine dE 2 [] (mc 3 U mn) U<|bX (xs:=[.tmp 24]) (cs:=[(vI 0)]) U cK g6 U U U U (by simp [Value.cells]) U U fun L=>rP 2 [] (mc 4 U mn) ?_
 refine fD (es:=(List.map iC [0])) (C':=[own (some ⟨L,0,none⟩) 1 3 1 (List.map iC [0]),_,_,_,_]) 0 U (by simp [bq]) U (by simp [maxLen]) U ?_
 refine eN (es2:=(List.map iC (([0])++([])))) (m':=(([0])++([])).length) 0 U U U od U U sm (qk _ _) sm os (by first|(simp only [maxLen]; omega)|(simp [maxLen]; omega)) sm sm U fun C D=>?_
 try dsimp only
 refine rS (CL (nD 0 2000 (([0])++([])) C D sd) (aK (aQ (n:=(([0])++([])).length) 0 U sm)<|av) U) ?_
 refine rP 2 [] mn ?_
 refine dq (t:=31) U (fun B=>?_) (fun B=>?_)
 ·exact Bool.noConfusion (B.symm.trans (show jZ 0 2000 ([0]++[])=true by decide))
 refine dE 3 [] (mc 4 U mn) U<|rS (SX (bJ (r:= .bool true) U U U nU) U U)<|dE 5 [] (mc 4 U mn) U<|rS (SX (bJ (r:= .bool true) U U U nU) U U)<|rP 2 [] mn ?_
 refine RK G<|an<|Q1 hQ U U U ?_
 first|rfl|(simp; done)|(exact cB dc)
theorem Co (gh gm:Nat):
 cz Tryz.prog 157 [(vP gh),(vA (gX.cells (gX.mk (aJ.mk none 0 0) 500 0 0 (aJ.mk none 0 0) (aJ.mk none 0 0) 0 false)))] [(bm gh 274 (jo.cells (jo.mk (kG.mk (aJ.mk none 0 0)) (Value.map (some gm))))),(nt iV gm (dM (fun s=>vA (eX.cells s)) ([]:List (Int×eX))))] (vB true):=by
 refine bf kr Tryz.func157 U U fun F Q hQ hN=>?_
 try dsimp only
 refine WS fun _ A=>o4 U U fun D=>ej U fun E=>aU 1 U<|RK A<|WS fun _ B=>rS (FU U)<|aU 1 U<|RK B<|WS fun _ C=>dE 3 [] (mc 0 U mn) U<|rS (SX (bJ (r:= .bool true) U U U nU) U U)<|dE 4 [] (mc 0 U mn) U<|rS (CL (u_ (Value.func (.func 179) [].toArray [(vP D)].toArray)) (av) U)<|dE 4 [] (mc 0 U mn) U<|rS (CL CB (av) U)<|rP 2 [] mn ?_
 refine RK C<|an<|Q1 hQ U U U ?_
 first|rfl|(simp; done)
end
section
open Go.RowKit
theorem xC (gq:Nat):
 lx Tryz.prog 138 [(vA (kG.cells (kG.mk (aJ.mk none 0 0)))),(vS (some ⟨gq,0,none⟩) 1 1)] [(bm gq 197 (gX.cells (gX.mk (aJ.mk none 0 0) 500 0 0 (aJ.mk none 0 0) (aJ.mk none 0 0) 0 false)))] (fun (x:Nat×Nat)=>(vT [(Value.pointer (some ⟨x.1,0,none⟩)),(vI 0)])) (fun (x:Nat×Nat)=>True) (fun (x:Nat×Nat)=>[(bm x.1 274 (jo.cells (jo.mk (kG.mk (aJ.mk none 0 0)) (Value.map (some x.2))))),(nt iV x.2 (dM (fun s=>vA (eX.cells s)) ([]:List (Int×eX))))]):=by
 refine dT kr Tryz.func138 U U fun X Q hQ hN=>?_
 try dsimp only
 refine WS fun _ M=>ej U fun W=>aU 2 U<|RK M<|WS fun _ N=>rP 1 [] (mc 0 U mn) ?_
 refine cX yQ (av) U fun V AA=>?_
 obtain ⟨A,B⟩:=V
 try dsimp only
 refine aU 5 U<|RK N<|al fun _ O=>WS fun _ P=>aU 1 U<|rS (SX (bJ (r:= .bool false) U U U fW) U U)<|RK P<|bw U<|WK O<|al fun _ C=>WS fun _ D=>aU 3 U<|RK D<|ar<|gE 2<|ey fun R12 L=>WS fun _ E=>rS (SX (bJ (r:= .bool true) U U U ig) U U)<|RK E<|al fun _ F=>aC U<|WK F<|al fun _ G=>ar<|WS fun _ H=>rS (JS 0 0 U C4 U dc U)<|dE 1 [] (mr 3 U mn) U<|AL U C3 fun T=>eC U F4 U<|RK H<|WS fun _ AB=>dE 2 [] (mc 0 U mn) U<|rS (CL (Co A B) (aX [1,2]) U)<|rP 1 [] mn ?_
 refine RK AB<|bw U<|bS<|aI<|KK G<|ao ?_
 refine rS (SX (bJ (r:= .int .i64 1) U U U (iZ ⟨dc,dc⟩)) U U)<|aU 1 U<|RK L<|ey fun R19 S=>WS fun _ J=>rS (SX (bJ (r:= .bool false) U U U ig) U U)<|RK J<|al fun _ R=>bw U<|bo<|ai<|ai<|aw<|KK C<|WS fun _ K=>rP 3 [] mn ?_
 refine RK K<|an<|LX hQ (A,B) [1,2] [] mn U U U U ?_
 trivial
theorem BJ (gh gm:Nat):
 cz Tryz.prog 162 [(vP gh),(vA (gX.cells (gX.mk (aJ.mk none 0 0) 500 0 0 (aJ.mk none 0 0) (aJ.mk none 0 0) 0 false)))] [(bm gh 274 (jo.cells (jo.mk (kG.mk (aJ.mk none 0 0)) (Value.map (some gm))))),(nt iV gm (dM (fun s=>vA (eX.cells s)) ([]:List (Int×eX))))] (vS none 0 0):=by
 refine bf kr Tryz.func162 U U fun d Q hQ hN=>?_
 try dsimp only
 refine WS fun _ O=>ej U fun c=>rP 1 [] mn ?_
 refine RK O<|WS fun _ P=>nG (kV:=iV) U U fun T=>?_
 try dsimp only
 refine aU 1 U<|RK P<|al fun _ R=>WS fun _ S=>aU 1 U<|rS (SX (cu U U) U U)<|rP 2 [] (mr 2 U mn) ?_
 refine mZ (kV:=iV) (m:=dM (fun s=>vA (eX.cells s)) ([]:List (Int×eX))) 3 U U HD U ⟨U,fun h=>h⟩ (by exact pw 3 U) U fun b=>?_
 try dsimp only
 refine RK S<|ar ?_
 have A:(([]:List (Int×eX)).length≤1000000):=by decide
 refine br (ι:={z:(List (Int×eX))×(List (Int×Bool)) // (z.1.length≤1000000)}) [0,3,5,17] [2,3,4] U U (fun z=>[]) (fun z=>[(vC iV b gm (dM (fun s=>vA (eX.cells s)) ([]:List (Int×eX))) (dM (fun s=>vA (eX.cells s)) z.1.1) none),(nt iV T (dM vB z.1.2))]) (fun _=>rfl) (fun _=>rfl) (fun z=>z.1.1.length) ⟨(([]:List (Int×eX)),([]:List (Int×Bool))),A⟩ (cL.nil _) (aN [2,3,4,0,1]) ?_
 clear A
 rintro ⟨⟨left,m⟩,B⟩ J8 N
 try dsimp only at B
 try dsimp only
 refine WS fun _ M=>l8 (jc oe).inj (f:=(fun s=>vA (eX.cells s))) 3 U U U U (fun Z=>?_) (fun q z hm a=>?_)
 rotate_left 1
 ·try dsimp only
  refine aU 1 U<|RK M<|al fun _ K=>aC U<|WK K<|ar<|WS fun _ L=>rS (SX (l9 3 U U U) U U)<|aU 2 U<|RK L<|ao<|rP 2 [] mn ?_
  refine oJ (kV:=iV) (x:=q) (C':=[_,_,_,_,(nt iV T (dM vB (g9 m q true)))]) 4 U U U U v8 (jc oe) U (nh _ _ _ _).symm U<|aB<|aI<|qq 3 U l0 U ?_
  refine aY (N ⟨((eV left q),(g9 m q true)),(by have:=ks hm; simp only []; omega)⟩ _ _ _ U (ks hm) (bg U) (aN [0,1,2,3,4]))
 refine aU 1 U<|RK M<|al fun _ AA=>bw U<|bo<|ai<|ai<|aw<|KK R<|al fun _ C=>WS fun _ D=>dE 4 [] (mc 0 U mn) U<|RK D<|ar<|gE 1<|ey fun R13 X=>WS fun _ E=>rS (SX (bJ (r:= .bool false) U U U ig) U U)<|RK E<|al fun _ V=>bw U<|bo<|ai<|ai<|aw<|KK C<|WS fun _ F=>aU 1 U<|RK F<|al fun _ G=>WS fun _ H=>aU 1 U<|rS (SX (cu U U) U U)<|rP 5 [] (mr 1 U mn) ?_
 refine RK H<|ar<|gE 1<|ey fun R19 Y=>WS fun _ AB=>rS (SX (bJ (r:= .bool false) U U U ig) U U) ?_
 refine RK AB<|al fun _ W=>bw U<|bo<|ai<|ai<|aw<|KK G<|WS fun _ J=>rP 2 [] mn ?_
 refine RK J<|an<|Q1 hQ U U U ?_
 rfl
theorem xj (gh gm:Nat):
 lx Tryz.prog 139 [(vP gh),(vA (gX.cells (gX.mk (aJ.mk none 0 0) 500 0 0 (aJ.mk none 0 0) (aJ.mk none 0 0) 0 false)))] [(bm gh 274 (jo.cells (jo.mk (kG.mk (aJ.mk none 0 0)) (Value.map (some gm))))),(nt iV gm (dM (fun s=>vA (eX.cells s)) ([]:List (Int×eX))))] (fun (x:Nat)=>(vS (some ⟨x,0,none⟩) 1 1)) (fun (x:Nat)=>True) (fun (x:Nat)=>[(bm x 28 (I.cells (I.mk 500 500)))]):=by
 refine dT kr Tryz.func139 U U fun M Q hQ hN=>?_
 try dsimp only
 refine WS fun _ C=>ej U fun K=>aU 1 U<|RK C<|WS fun _ D=>dE 4 [] (mc 0 U mn) U<|rS (SX (aS (xs:=[(0,.tmp 10),(1,.tmp 12)]) (cs:=(I.cells (I.mk 500 500))) U U (aT fm U)) U U)<|bX (xs:=[.tmp 13]) (cs:=(I.cells (I.mk 500 500))) U hU cv U U U U (by simp [Value.cells,I.aq]) U U fun AA=>AL U Hg fun L=>I_ U GG U U<|RK D<|WS fun _ E=>rS (FU U)<|aU 1 U<|RK E<|al fun _ F=>WS fun _ G=>dE 2 [] (mc 2 U mn) U<|rS (CL (BJ gh gm) (aX [3,4]) U)<|aU 2 U<|RK G<|ar<|gE 1<|ey fun R9 J=>WS fun _ A=>rS (SX (bJ (r:= .bool false) U U U ig) U U)<|RK A<|al fun _ H=>bw U<|bo<|ai<|ai<|aw<|KK F<|WS fun _ B=>rP 2 [] (mc 0 U mn) ?_
 refine RK B<|an<|LX hQ AA [1] [] mn U U U U ?_
 trivial
theorem xX:
 lx Tryz.prog 97 [(vA (kG.cells (kG.mk (aJ.mk none 0 0)))),(vA (gX.cells (gX.mk (aJ.mk none 0 0) 500 0 0 (aJ.mk none 0 0) (aJ.mk none 0 0) 0 false)))] [] (fun (x:Nat)=>(vT [(vS (some ⟨x,0,none⟩) 1 1),(vI 0)])) (fun (x:Nat)=>True) (fun (x:Nat)=>[(bm x 28 (I.cells (I.mk 500 500)))]):=by
 refine dT kr Tryz.func97 U U fun S Q hQ hN=>?_
 try dsimp only
 refine WS fun _ J=>ej U fun P=>ej U fun R=>aU 2 U<|RK J<|WS fun _ K=>rP 2 [0,1] (mc 1 U (mc 0 U mn)) ?_
 refine bX (xs:=[.tmp 11]) (cs:=(gX.cells (gX.mk (aJ.mk none 0 0) 500 0 0 (aJ.mk none 0 0) (aJ.mk none 0 0) 0 false))) U C4 C3 U U U U (by simp [Value.cells,gX.aq]) U U fun M=>cX (xC M) (aX [0]) U fun O N=>?_
 obtain ⟨H,AA⟩:=O
 try dsimp only
 refine aU 5 U<|RK K<|al fun _ A=>WS fun _ B=>aU 1 U<|rS (SX (bJ (r:= .bool false) U U U fW) U U)<|RK B<|bw U<|WK A<|WS fun _ C=>rP 2 [] (mc 3 U mn) ?_
 refine cX (xj H AA) (aX [0,1]) U fun G L=>?_
 try dsimp only
 refine aU 1 U<|RK C<|al fun _ D=>WS fun _ E=>aU 2 U<|rS (SX (bJ (r:= .bool false) U U U j5) U U)<|RK E<|bw U<|WK D<|WS fun _ F=>rP 3 [] mn ?_
 refine RK F<|an<|LX hQ G [0] [] mn U U U U ?_
 trivial
end
section
open Go.RowKit
theorem yb:
 cz Tryz.prog 53 [] [] (vB true):=by
 refine bf kr Tryz.func53 U U fun T Q hQ hN=>?_
 try dsimp only
 refine WS fun _ J=>rP 1 [] mn ?_
 refine RK J<|WS fun _ K=>rS (SX (aS (xs:=[]) (cs:=(kG.cells (kG.mk (aJ.mk none 0 0)))) U U (aT Hn U)) U U)<|rS (SX (aS (xs:=[(1,.const (vI 500))]) (cs:=(gX.cells (gX.mk (aJ.mk none 0 0) 500 0 0 (aJ.mk none 0 0) (aJ.mk none 0 0) 0 false))) U U (aT Gv U)) U U)<|cX xX (av) U fun O S=>?_
 try dsimp only
 refine rP 5 [] mn ?_
 refine RK K<|WS fun _ L=>rS (CL (fK 1000 1000) (av) U)<|rS (CL (fK 100 100) (av) U)<|rS (SX (aS (xs:=[(0,.const (vI 1)),(1,.tmp 12),(2,.tmp 13)]) (cs:=(ab.cells (ab.mk 1 (I.mk 1000 1000) (I.mk 100 100) (I.mk 0 0) 0 0))) U U (aT BN U)) U U)<|bX (xs:=[.tmp 14]) (cs:=(ab.cells (ab.mk 1 (I.mk 1000 1000) (I.mk 100 100) (I.mk 0 0) 0 0))) U l5 uP U U U U (by simp [Value.cells,ab.aq]) U U fun E=>rS (SX (aS (xs:=[(0,.tmp 15)]) (cs:=(ag.cells (ag.mk (aJ.mk (some ⟨E,0,none⟩) 1 1)))) U U (aT u0 U)) U U)<|AL U qV fun R=>eC U lI U<|RK L<|al fun _ M=>mH cx [0,1,2,3] [4,5,6,7,8,9] [false,false,false,false] [] [(bm R 24 (ag.cells (ag.mk (aJ.mk (some ⟨E,0,none⟩) 1 1)))),(bm E 73 (ab.cells (ab.mk 1 (I.mk 1000 1000) (I.mk 100 100) (I.mk 0 0) 0 0))),(bm O 28 (I.cells (I.mk 500 500)))] [] kr (aN [0,1,2]) (aN [])<|eS U (LW 0 U bQ U U)<|eS U (CL (fK 50 50) (av) U)<|eS U (CL (fK 60000 60000) (av) U)<|eS U (SX (aS (xs:=[(0,.const (Value.int .u8 3)),(1,.tmp 19),(4,.tmp 20)]) (cs:=(bL.cells (bL.mk 3 (I.mk 50 50) (I.mk 0 0) (I.mk 0 0) (I.mk 60000 60000) (I.mk 0 0)))) U U (aT FX U)) U U)<|eJ U<|N1 4<|NO U U [5,6,7,8,9] fun T10 D=>cX (pD ([(ab.mk 1 (I.mk 1000 1000) (I.mk 100 100) (I.mk 0 0) 0 0)]) (some ⟨E,0,none⟩) 1 (bL.mk 3 (I.mk 50 50) (I.mk 0 0) (I.mk 0 0) (I.mk 60000 60000) (I.mk 0 0)) dc (by exact Ag)) (aK (aH 1 U U (by simp [ab.aq]) U)<|av) U fun N P=>?_
 obtain ⟨F,AA⟩:=N
 try dsimp only
 refine RD D 1 U<|Ac [17,23,24,4,5] kr kr U _ U U (aN [1,2,3])<|fQ 5 U<|cj<|RK M<|WS fun _ C=>aU 1 U<|rS (SX (bJ (r:= .bool true) U U U j5) U U)<|aU 2 U<|rS (CL (fK 500 500) (av) U)<|bX (xs:=[.tmp 29]) (cs:=(I.cells (I.mk 500 500))) U hU cv U U U U (by simp [Value.cells,I.aq]) U U fun G=>rS (CL (oQ ([(I.mk 500 500)]) (some ⟨O,0,none⟩) 1 ([(I.mk 500 500)]) (some ⟨G,0,none⟩) 1 dc dc) (aK (aH 4 U U (by simp [I.aq]) U)<|aK (aH 0 U U (by simp [I.aq]) U)<|av) U)<|rP 2 [] mn ?_
 refine dq (t:=33) U (aL fun A=>?_) (aM fun A=>?_)
 ·exact absurd U A
 refine rP 4 [] mn ?_
 refine dq (t:=37) U (aL fun B=>?_) (aM fun B=>?_)
 ·exact absurd qC.1 B
 refine aU 1 U<|rS (CL (fK 50 50) (av) U)<|rS (CL (fK 150 150) (av) U)<|bX (xs:=[.tmp 39,.tmp 40]) (cs:=((I.cells (I.mk 50 50))++(I.cells (I.mk 150 150)))) U hU cv U U U U (by simp [Value.cells,I.aq]) U U fun H=>rS (CL (oQ (kP (bL.mk 3 (I.mk 50 50) (I.mk 0 0) (I.mk 0 0) (I.mk 60000 60000) (I.mk 0 0)) ([(ab.mk 1 (I.mk 1000 1000) (I.mk 100 100) (I.mk 0 0) 0 0)])) F AA ([(I.mk 50 50),(I.mk 150 150)]) (some ⟨H,0,none⟩) 2 (by exact Nat.le_trans (Nat.le_of_eq (congrArg List.length qC.2)) dc) dc) (aK (aQ (n:=(kP (bL.mk 3 (I.mk 50 50) (I.mk 0 0) (I.mk 0 0) (I.mk 60000 60000) (I.mk 0 0)) ([(ab.mk 1 (I.mk 1000 1000) (I.mk 100 100) (I.mk 0 0) 0 0)])).length) 2 U sm)<|aK (aH 0 U U (by simp [I.aq]) U)<|av) U)<|rP 2 [] mn ?_
 refine RK C<|an<|Q1 hQ U U U ?_
 first|rfl|exact cB (bY qC.2)
end
section
open Go.RowKit
theorem xR:
 cz Tryz.prog 21 [] [] (vB true):=by
 refine bf kr Tryz.func21 U U fun a Q hQ hN=>?_
 try dsimp only
 refine WS fun _ O=>rP 1 [] mn ?_
 refine RK O<|WS fun _ P=>rS (CL (fK 1000 1000) (av) U)<|rS (SX (aS (xs:=[(0,.const (vI 1)),(1,.tmp 8)]) (cs:=(ab.cells (ab.mk 1 (I.mk 1000 1000) (I.mk 0 0) (I.mk 0 0) 0 0))) U U (aT BN U)) U U)<|rS (CL (fK 1000 1000) (av) U)<|rS (SX (aS (xs:=[(0,.const (vI 2)),(1,.tmp 10)]) (cs:=(ab.cells (ab.mk 2 (I.mk 1000 1000) (I.mk 0 0) (I.mk 0 0) 0 0))) U U (aT BN U)) U U)<|bX (xs:=[.tmp 9,.tmp 11]) (cs:=((ab.cells (ab.mk 1 (I.mk 1000 1000) (I.mk 0 0) (I.mk 0 0) 0 0))++(ab.cells (ab.mk 2 (I.mk 1000 1000) (I.mk 0 0) (I.mk 0 0) 0 0)))) U l5 uP U U U U (by simp [Value.cells,ab.aq]) U U fun N=>rS (SX (aS (xs:=[(0,.tmp 12)]) (cs:=(ag.cells (ag.mk (aJ.mk (some ⟨N,0,none⟩) 2 2)))) U U (aT u0 U)) U U)<|AL U qV fun Y=>eC U lI U<|RK P<|al fun _ R=>dK cx [8,9] [] [] [0,1] [] U U U U U<|eS U (LW 0 U bQ U U)<|eS U (CL (fK 200 200) (av) U)<|eS U (CL (fK 60000 60000) (av) U)<|eS U (SX (aS (xs:=[(0,.const (Value.int .u8 1)),(1,.tmp 16),(4,.tmp 17)]) (cs:=(bL.cells (bL.mk 1 (I.mk 200 200) (I.mk 0 0) (I.mk 0 0) (I.mk 60000 60000) (I.mk 0 0)))) U U (aT FX U)) U U)<|eS U (CL (CV ([(ab.mk 1 (I.mk 1000 1000) (I.mk 0 0) (I.mk 0 0) 0 0),(ab.mk 2 (I.mk 1000 1000) (I.mk 0 0) (I.mk 0 0) 0 0)]) (some ⟨N,0,none⟩) 2 (bL.mk 1 (I.mk 200 200) (I.mk 0 0) (I.mk 0 0) (I.mk 60000 60000) (I.mk 0 0)) 1 dc (by exact s9)) (aK (aH 1 U U (by simp [ab.aq]) U)<|av) U)<|eS U (MV U)<|eS U (EX U)<|eS U (EX U)<|eS U (AG U)<|eJ U<|bU U fun T6 T=>AL U cv fun Z=>aB (T _ _ (aN [1,2]) ?_)
 refine bU U fun T8 AA=>eC U cn U<|aB (AA _ _ (aN [1,2]) ?_)
 refine fx U<|KK R<|WS fun _ S=>rP 1 [] (mc 1 U mn) ?_
 refine cX (rl ([(ab.mk 1 (I.mk 1000 1000) (I.mk 0 0) (I.mk 0 0) 0 0),(ab.mk 2 (I.mk 1000 1000) (I.mk 0 0) (I.mk 0 0) 0 0)]) (some ⟨N,0,none⟩) 2 199 dc (by exact s9) dc) (aK (aH 2 U U (by simp [ab.aq]) U)<|av) U fun W M=>?_
 obtain ⟨A,D,C,B,E⟩:=W
 try dsimp only
 obtain ⟨V,L⟩:=M
 refine aU 3 U<|AL U yH fun X=>eC U w4 U<|aU 1 U<|RK S<|WS fun _ J=>dE 1 [] (mc 0 U mn) U<|rS (CL (sy (dk.mk ([(ab.mk 1 (I.mk 1000 1000) (I.mk 0 0) (I.mk 0 0) 0 0),(ab.mk 2 (I.mk 1000 1000) (I.mk 0 0) (I.mk 0 0) 0 0)]) 199 ([cU]) (cJ (min (([(ab.mk 1 (I.mk 1000 1000) (I.mk 0 0) (I.mk 0 0) 0 0),(ab.mk 2 (I.mk 1000 1000) (I.mk 0 0) (I.mk 0 0) 0 0)]).length-1) 6)) 0 0 0) (some ⟨N,0,none⟩) 2 C A D B E 0 (by exact L)) (aK (aH 6 U U (by simp [ab.aq]) U)<|aK (aQ (n:=([cU]).length) 1 U (sE V))<|aK (jf 2 U lW)<|aK (aQ (n:=(cJ (min (([(ab.mk 1 (I.mk 1000 1000) (I.mk 0 0) (I.mk 0 0) 0 0),(ab.mk 2 (I.mk 1000 1000) (I.mk 0 0) (I.mk 0 0) 0 0)]).length-1) 6)).length) 3 U sm)<|av) U)<|aU 5 U<|RK J<|al fun _ K=>dF cx 22 kr<|dS (CL yb (av) U)<|dP 4 [] mn ?_
 refine gj (t:=36) U (aL fun F=>?_) (aM fun F=>?_)
 ·exact absurd wa F
 refine dP 4 [] mn ?_
 refine gj (t:=40) U (aL fun G=>?_) (aM fun G=>?_)
 ·exact absurd tG.2 G
 refine jA 1 [] (mc 4 U mn) U<|dS (CL (fK 198 199) (av) U)<|dS (BI U (Aq _ _ (oy (bL.mk 1 (I.mk 200 200) (I.mk 0 0) (I.mk 0 0) (I.mk 60000 60000) (I.mk 0 0)) ([(ab.mk 1 (I.mk 1000 1000) (I.mk 0 0) (I.mk 0 0) 0 0),(ab.mk 2 (I.mk 1000 1000) (I.mk 0 0) (I.mk 0 0) 0 0)]) 1) (I.mk 198 199)))<|dP 2 [] mn ?_
 refine gj (t:=45) U (aL fun H=>?_) (aM fun H=>?_)
 ·exact absurd tG.1 H
 refine dP 4 [] mn ?_
 refine gj (t:=49) U (aL fun AB=>?_) (aM fun AB=>?_)
 ·exact absurd tp.2 AB
 refine dP 4 [] mn ?_
 refine cj<|RK K<|an<|Q1 hQ U U U ?_
 first|rfl|exact cB (bY tp.1)
end
section
open Go.RowKit
theorem yc:
 cz Tryz.prog 4 [] [] (vB true):=by
 refine bf kr Tryz.func4 U U fun w0 Q hQ hN=>?_
 try dsimp only
 refine WS fun _ Ni=>aU 1 U<|RK Ni<|WS fun _ Nj=>rS (CL (fK 1000 1000) (av) U)<|rS (SX (aS (xs:=[(0,.const (vI 1)),(1,.tmp 6)]) (cs:=(ab.cells (ab.mk 1 (I.mk 1000 1000) (I.mk 0 0) (I.mk 0 0) 0 0))) U U (aT BN U)) U U)<|bX (xs:=[.tmp 7]) (cs:=(ab.cells (ab.mk 1 (I.mk 1000 1000) (I.mk 0 0) (I.mk 0 0) 0 0))) U l5 uP U U U U (by simp [Value.cells,ab.aq]) U U fun A=>rS (SX (aS (xs:=[(0,.tmp 8)]) (cs:=(ag.cells (ag.mk (aJ.mk (some ⟨A,0,none⟩) 1 1)))) U U (aT u0 U)) U U)<|AL U qV fun C=>eC U lI U<|RK Nj<|WS fun _ Nk=>dE 1 [] (mc 0 U mn) U<|rS (SX (aS (xs:=[(1,.const (Value.int .u8 1)),(4,.const (vI 1))]) (cs:=(aj.cells (aj.mk 0 1 (ae.mk 0 (I.mk 0 0)) 0 1))) U U (aT Io U)) U U)<|bX (xs:=[.tmp 12]) (cs:=(aj.cells (aj.mk 0 1 (ae.mk 0 (I.mk 0 0)) 0 1))) U sH zH U U U U (by simp [Value.cells,aj.aq]) U U fun B=>rS (SX (aS (xs:=[(0,.tmp 11),(1,.tmp 13)]) (cs:=(aW.cells (aW.mk (ag.mk (aJ.mk (some ⟨A,0,none⟩) 1 1)) (aJ.mk (some ⟨B,0,none⟩) 1 1) (aJ.mk none 0 0) (ae.mk 0 (I.mk 0 0)) 0))) U U (aT IB U)) U U)<|rS (CL (AF (ah.mk ([(ab.mk 1 (I.mk 1000 1000) (I.mk 0 0) (I.mk 0 0) 0 0)]) ([(aj.mk 0 1 (ae.mk 0 (I.mk 0 0)) 0 1)]) ([]) (ae.mk 0 (I.mk 0 0)) 0) (some ⟨A,0,none⟩) 1 (some ⟨B,0,none⟩) 1 none 0 0 0 (by exact D2)) (aK (aH 2 U U (by simp [ab.aq]) U)<|aK (aH 0 U U (by simp [aj.aq]) U)<|aK (qk _ _)<|av) U)<|rP 5 [] mn ?_
 refine RK Nk<|al fun _ Nl=>AB cx [2,4,6,7,8,9,10,11,12,13,14,15] [0,1,2] U U U<|eS U (LW 1 U bQ U U)<|eS U (SX (aS (xs:=[]) (cs:=(bG.cells (bG.mk (I.mk 0 0) 0))) U U (aT H3 U)) U U)<|eS U (SX (aS (xs:=[(2,.const (vI 1)),(3,.const (vB true))]) (cs:=(aZ.cells (aZ.mk (I.mk 0 0) 0 1 true))) U U (aT IW U)) U U)<|eS U (CL (fK 1 1) (av) U)<|eJ U ?_
 refine dp (V:=Nat×Nat×Nat×Nat×Nat) (fun (b8,b9,JJ,Kj,KE)=>True) (fun (b8,b9,JJ,Kj,KE)=>[(0,(vB false)),(1,(vP C)),(2,(vI (bE (ah.mk ([(ab.mk 1 (I.mk 1000 1000) (I.mk 0 0) (I.mk 0 0) 0 0)]) ([(aj.mk 0 1 (ae.mk 0 (I.mk 0 0)) 0 1)]) ([]) (ae.mk 0 (I.mk 0 0)) 0) 0 0))),(3,(vI (bB (ah.mk ([(ab.mk 1 (I.mk 1000 1000) (I.mk 0 0) (I.mk 0 0) 0 0)]) ([(aj.mk 0 1 (ae.mk 0 (I.mk 0 0)) 0 1)]) ([]) (ae.mk 0 (I.mk 0 0)) 0) 0 0))),(4,(vP KE)),(6,(vA (I.cells (I.mk 1000 1000)))),(7,(vA (ab.cells (ab.mk 1 (I.mk 1000 1000) (I.mk 0 0) (I.mk 0 0) 0 0)))),(8,(vS (some ⟨A,0,none⟩) 1 1)),(9,(vA (ag.cells (ag.mk (aJ.mk (some ⟨A,0,none⟩) 1 1))))),(10,(vT [(vI (bE (ah.mk ([(ab.mk 1 (I.mk 1000 1000) (I.mk 0 0) (I.mk 0 0) 0 0)]) ([(aj.mk 0 1 (ae.mk 0 (I.mk 0 0)) 0 1)]) ([]) (ae.mk 0 (I.mk 0 0)) 0) 0 0)),(vI (bB (ah.mk ([(ab.mk 1 (I.mk 1000 1000) (I.mk 0 0) (I.mk 0 0) 0 0)]) ([(aj.mk 0 1 (ae.mk 0 (I.mk 0 0)) 0 1)]) ([]) (ae.mk 0 (I.mk 0 0)) 0) 0 0))])),(11,(vA (ag.cells (ag.mk (aJ.mk (some ⟨A,0,none⟩) 1 1))))),(12,(vA (aj.cells (aj.mk 0 1 (ae.mk 0 (I.mk 0 0)) 0 1)))),(13,(vS (some ⟨B,0,none⟩) 1 1)),(14,(vA (aW.cells (aW.mk (ag.mk (aJ.mk (some ⟨A,0,none⟩) 1 1)) (aJ.mk (some ⟨B,0,none⟩) 1 1) (aJ.mk none 0 0) (ae.mk 0 (I.mk 0 0)) 0)))),(15,(vT [(vI (bE (ah.mk ([(ab.mk 1 (I.mk 1000 1000) (I.mk 0 0) (I.mk 0 0) 0 0)]) ([(aj.mk 0 1 (ae.mk 0 (I.mk 0 0)) 0 1)]) ([]) (ae.mk 0 (I.mk 0 0)) 0) 0 0)),(vI (bB (ah.mk ([(ab.mk 1 (I.mk 1000 1000) (I.mk 0 0) (I.mk 0 0) 0 0)]) ([(aj.mk 0 1 (ae.mk 0 (I.mk 0 0)) 0 1)]) ([]) (ae.mk 0 (I.mk 0 0)) 0) 0 0))])),(16,(vI (bE (ah.mk ([(ab.mk 1 (I.mk 1000 1000) (I.mk 0 0) (I.mk 0 0) 0 0)]) ([(aj.mk 0 1 (ae.mk 0 (I.mk 0 0)) 0 1)]) ([]) (ae.mk 0 (I.mk 0 0)) 0) 0 0))),(17,(vI (bB (ah.mk ([(ab.mk 1 (I.mk 1000 1000) (I.mk 0 0) (I.mk 0 0) 0 0)]) ([(aj.mk 0 1 (ae.mk 0 (I.mk 0 0)) 0 1)]) ([]) (ae.mk 0 (I.mk 0 0)) 0) 0 0))),(26,(vS (some ⟨JJ,0,none⟩) 1 1)),(30,(vI 0))]) (fun (b8,b9,JJ,Kj,KE)=>[(bm KE 28 (I.cells (dj ([(ab.mk 1 (I.mk 1000 1000) (I.mk 0 0) (I.mk 0 0) 0 0)]) 3 ([([0]:List Int)]).flatten ([([0]:List Int)]).flatten.length))),(eB (ei jk [([0]:List Int)] [((some ⟨JJ,0,none⟩),1)])),(own (some ⟨Kj,0,none⟩) 1 67 1 (List.zipWith eI [([0]:List Int)] [((some ⟨JJ,0,none⟩),1)])),(bm b9 79 (aZ.cells (aZ.mk (I.mk 0 0) 0 1 true))),(bm b8 77 (bG.cells (bG.mk (I.mk 0 0) 0))),(bm B 75 (aj.cells (aj.mk 0 1 (ae.mk 0 (I.mk 0 0)) 0 1))),(bm C 24 (ag.cells (ag.mk (aJ.mk (some ⟨A,0,none⟩) 1 1)))),(bm A 73 (ab.cells (ab.mk 1 (I.mk 1000 1000) (I.mk 0 0) (I.mk 0 0) 0 0)))]) 1 [15] (fun hJ=>?_) ?_
 ·refine dp (V:=Nat×Nat×Nat×Nat×Nat) (fun (KF,KG,Gd,KH,JQ)=>True) (fun (KF,KG,Gd,KH,JQ)=>[(0,(vB false)),(1,(vP C)),(2,(vI (bE (ah.mk ([(ab.mk 1 (I.mk 1000 1000) (I.mk 0 0) (I.mk 0 0) 0 0)]) ([(aj.mk 0 1 (ae.mk 0 (I.mk 0 0)) 0 1)]) ([]) (ae.mk 0 (I.mk 0 0)) 0) 0 0))),(3,(vI (bB (ah.mk ([(ab.mk 1 (I.mk 1000 1000) (I.mk 0 0) (I.mk 0 0) 0 0)]) ([(aj.mk 0 1 (ae.mk 0 (I.mk 0 0)) 0 1)]) ([]) (ae.mk 0 (I.mk 0 0)) 0) 0 0))),(4,(vP JQ)),(6,(vA (I.cells (I.mk 1000 1000)))),(7,(vA (ab.cells (ab.mk 1 (I.mk 1000 1000) (I.mk 0 0) (I.mk 0 0) 0 0)))),(8,(vS (some ⟨A,0,none⟩) 1 1)),(9,(vA (ag.cells (ag.mk (aJ.mk (some ⟨A,0,none⟩) 1 1))))),(10,(vT [(vI (bE (ah.mk ([(ab.mk 1 (I.mk 1000 1000) (I.mk 0 0) (I.mk 0 0) 0 0)]) ([(aj.mk 0 1 (ae.mk 0 (I.mk 0 0)) 0 1)]) ([]) (ae.mk 0 (I.mk 0 0)) 0) 0 0)),(vI (bB (ah.mk ([(ab.mk 1 (I.mk 1000 1000) (I.mk 0 0) (I.mk 0 0) 0 0)]) ([(aj.mk 0 1 (ae.mk 0 (I.mk 0 0)) 0 1)]) ([]) (ae.mk 0 (I.mk 0 0)) 0) 0 0))])),(11,(vA (ag.cells (ag.mk (aJ.mk (some ⟨A,0,none⟩) 1 1))))),(12,(vA (aj.cells (aj.mk 0 1 (ae.mk 0 (I.mk 0 0)) 0 1)))),(13,(vS (some ⟨B,0,none⟩) 1 1)),(14,(vA (aW.cells (aW.mk (ag.mk (aJ.mk (some ⟨A,0,none⟩) 1 1)) (aJ.mk (some ⟨B,0,none⟩) 1 1) (aJ.mk none 0 0) (ae.mk 0 (I.mk 0 0)) 0)))),(15,(vT [(vI (bE (ah.mk ([(ab.mk 1 (I.mk 1000 1000) (I.mk 0 0) (I.mk 0 0) 0 0)]) ([(aj.mk 0 1 (ae.mk 0 (I.mk 0 0)) 0 1)]) ([]) (ae.mk 0 (I.mk 0 0)) 0) 0 0)),(vI (bB (ah.mk ([(ab.mk 1 (I.mk 1000 1000) (I.mk 0 0) (I.mk 0 0) 0 0)]) ([(aj.mk 0 1 (ae.mk 0 (I.mk 0 0)) 0 1)]) ([]) (ae.mk 0 (I.mk 0 0)) 0) 0 0))])),(16,(vI (bE (ah.mk ([(ab.mk 1 (I.mk 1000 1000) (I.mk 0 0) (I.mk 0 0) 0 0)]) ([(aj.mk 0 1 (ae.mk 0 (I.mk 0 0)) 0 1)]) ([]) (ae.mk 0 (I.mk 0 0)) 0) 0 0))),(17,(vI (bB (ah.mk ([(ab.mk 1 (I.mk 1000 1000) (I.mk 0 0) (I.mk 0 0) 0 0)]) ([(aj.mk 0 1 (ae.mk 0 (I.mk 0 0)) 0 1)]) ([]) (ae.mk 0 (I.mk 0 0)) 0) 0 0))),(26,(vS (some ⟨Gd,0,none⟩) 1 1)),(29,(vA (I.cells (dj ([(ab.mk 1 (I.mk 1000 1000) (I.mk 0 0) (I.mk 0 0) 0 0)]) 3 ([([0]:List Int)]).flatten ([([0]:List Int)]).flatten.length)))),(30,(vI 0))]) (fun (KF,KG,Gd,KH,JQ)=>[(bm JQ 28 (I.cells (I.mk 0 0))),(eB (ei jk [([0]:List Int)] [((some ⟨Gd,0,none⟩),1)])),(own (some ⟨KH,0,none⟩) 1 67 1 (List.zipWith eI [([0]:List Int)] [((some ⟨Gd,0,none⟩),1)])),(bm KG 79 (aZ.cells (aZ.mk (I.mk 0 0) 0 1 true))),(bm KF 77 (bG.cells (bG.mk (I.mk 0 0) 0))),(bm B 75 (aj.cells (aj.mk 0 1 (ae.mk 0 (I.mk 0 0)) 0 1))),(bm C 24 (ag.cells (ag.mk (aJ.mk (some ⟨A,0,none⟩) 1 1)))),(bm A 73 (ab.cells (ab.mk 1 (I.mk 1000 1000) (I.mk 0 0) (I.mk 0 0) 0 0)))]) 2 [14,15] (fun KZ=>?_) ?_
  rotate_left 1
  ·rintro ⟨KF,KG,Gd,KH,JQ⟩-
   refine N1 14<|c_ U U U fun T19 NF=>eC U cn U<|RD NF 5 U ?_
   exact bI hJ (KF,KG,Gd,KH,JQ) trivial [0,1,2,3,4,5,6,7] U U U
  refine dp (V:=Nat×Nat×Nat×Nat×Nat) (fun (KI,KL,Go,KM,JR)=>True) (fun (KI,KL,Go,KM,JR)=>[(0,(vB false)),(1,(vP C)),(2,(vI (bE (ah.mk ([(ab.mk 1 (I.mk 1000 1000) (I.mk 0 0) (I.mk 0 0) 0 0)]) ([(aj.mk 0 1 (ae.mk 0 (I.mk 0 0)) 0 1)]) ([]) (ae.mk 0 (I.mk 0 0)) 0) 0 0))),(3,(vI (bB (ah.mk ([(ab.mk 1 (I.mk 1000 1000) (I.mk 0 0) (I.mk 0 0) 0 0)]) ([(aj.mk 0 1 (ae.mk 0 (I.mk 0 0)) 0 1)]) ([]) (ae.mk 0 (I.mk 0 0)) 0) 0 0))),(4,(vP JR)),(6,(vA (I.cells (I.mk 1000 1000)))),(7,(vA (ab.cells (ab.mk 1 (I.mk 1000 1000) (I.mk 0 0) (I.mk 0 0) 0 0)))),(8,(vS (some ⟨A,0,none⟩) 1 1)),(9,(vA (ag.cells (ag.mk (aJ.mk (some ⟨A,0,none⟩) 1 1))))),(10,(vT [(vI (bE (ah.mk ([(ab.mk 1 (I.mk 1000 1000) (I.mk 0 0) (I.mk 0 0) 0 0)]) ([(aj.mk 0 1 (ae.mk 0 (I.mk 0 0)) 0 1)]) ([]) (ae.mk 0 (I.mk 0 0)) 0) 0 0)),(vI (bB (ah.mk ([(ab.mk 1 (I.mk 1000 1000) (I.mk 0 0) (I.mk 0 0) 0 0)]) ([(aj.mk 0 1 (ae.mk 0 (I.mk 0 0)) 0 1)]) ([]) (ae.mk 0 (I.mk 0 0)) 0) 0 0))])),(11,(vA (ag.cells (ag.mk (aJ.mk (some ⟨A,0,none⟩) 1 1))))),(12,(vA (aj.cells (aj.mk 0 1 (ae.mk 0 (I.mk 0 0)) 0 1)))),(13,(vS (some ⟨B,0,none⟩) 1 1)),(14,(vA (aW.cells (aW.mk (ag.mk (aJ.mk (some ⟨A,0,none⟩) 1 1)) (aJ.mk (some ⟨B,0,none⟩) 1 1) (aJ.mk none 0 0) (ae.mk 0 (I.mk 0 0)) 0)))),(15,(vT [(vI (bE (ah.mk ([(ab.mk 1 (I.mk 1000 1000) (I.mk 0 0) (I.mk 0 0) 0 0)]) ([(aj.mk 0 1 (ae.mk 0 (I.mk 0 0)) 0 1)]) ([]) (ae.mk 0 (I.mk 0 0)) 0) 0 0)),(vI (bB (ah.mk ([(ab.mk 1 (I.mk 1000 1000) (I.mk 0 0) (I.mk 0 0) 0 0)]) ([(aj.mk 0 1 (ae.mk 0 (I.mk 0 0)) 0 1)]) ([]) (ae.mk 0 (I.mk 0 0)) 0) 0 0))])),(16,(vI (bE (ah.mk ([(ab.mk 1 (I.mk 1000 1000) (I.mk 0 0) (I.mk 0 0) 0 0)]) ([(aj.mk 0 1 (ae.mk 0 (I.mk 0 0)) 0 1)]) ([]) (ae.mk 0 (I.mk 0 0)) 0) 0 0))),(17,(vI (bB (ah.mk ([(ab.mk 1 (I.mk 1000 1000) (I.mk 0 0) (I.mk 0 0) 0 0)]) ([(aj.mk 0 1 (ae.mk 0 (I.mk 0 0)) 0 1)]) ([]) (ae.mk 0 (I.mk 0 0)) 0) 0 0))),(18,(vT [(vA (I.cells (dj ([(ab.mk 1 (I.mk 1000 1000) (I.mk 0 0) (I.mk 0 0) 0 0)]) 3 ([([0]:List Int)]).flatten ([([0]:List Int)]).flatten.length))),(vI 0)])),(26,(vS (some ⟨Go,0,none⟩) 1 1))]) (fun (KI,KL,Go,KM,JR)=>[(bm JR 28 (I.cells (dj ([(ab.mk 1 (I.mk 1000 1000) (I.mk 0 0) (I.mk 0 0) 0 0)]) 3 ([([0]:List Int)]).flatten ([([0]:List Int)]).flatten.length))),(eB (ei jk [([0]:List Int)] [((some ⟨Go,0,none⟩),1)])),(own (some ⟨KM,0,none⟩) 1 67 1 (List.zipWith eI [([0]:List Int)] [((some ⟨Go,0,none⟩),1)])),(bm KL 79 (aZ.cells (aZ.mk (I.mk 0 0) 0 1 true))),(bm KI 77 (bG.cells (bG.mk (I.mk 0 0) 0))),(bm B 75 (aj.cells (aj.mk 0 1 (ae.mk 0 (I.mk 0 0)) 0 1))),(bm C 24 (ag.cells (ag.mk (aJ.mk (some ⟨A,0,none⟩) 1 1)))),(bm A 73 (ab.cells (ab.mk 1 (I.mk 1000 1000) (I.mk 0 0) (I.mk 0 0) 0 0)))]) 2 [12,15] (fun NA=>?_) ?_
  rotate_left 1
  ·rintro ⟨KI,KL,Go,KM,JR⟩-
   refine N1 12<|c_ U U U fun T26 NH=>rS (EX U)<|RD NH 5 U ?_
   exact bI hJ (KI,KL,Go,KM,JR) trivial [0,1,2,3,4,5,6,7] U U U
  refine dp (V:=Nat×Nat×Nat×Nat) (fun (KN,KO,Gw,KP)=>True) (fun (KN,KO,Gw,KP)=>[(0,(vB false)),(1,(vP C)),(2,(vI (bE (ah.mk ([(ab.mk 1 (I.mk 1000 1000) (I.mk 0 0) (I.mk 0 0) 0 0)]) ([(aj.mk 0 1 (ae.mk 0 (I.mk 0 0)) 0 1)]) ([]) (ae.mk 0 (I.mk 0 0)) 0) 0 0))),(3,(vI (bB (ah.mk ([(ab.mk 1 (I.mk 1000 1000) (I.mk 0 0) (I.mk 0 0) 0 0)]) ([(aj.mk 0 1 (ae.mk 0 (I.mk 0 0)) 0 1)]) ([]) (ae.mk 0 (I.mk 0 0)) 0) 0 0))),(6,(vA (I.cells (I.mk 1000 1000)))),(7,(vA (ab.cells (ab.mk 1 (I.mk 1000 1000) (I.mk 0 0) (I.mk 0 0) 0 0)))),(8,(vS (some ⟨A,0,none⟩) 1 1)),(9,(vA (ag.cells (ag.mk (aJ.mk (some ⟨A,0,none⟩) 1 1))))),(10,(vT [(vI (bE (ah.mk ([(ab.mk 1 (I.mk 1000 1000) (I.mk 0 0) (I.mk 0 0) 0 0)]) ([(aj.mk 0 1 (ae.mk 0 (I.mk 0 0)) 0 1)]) ([]) (ae.mk 0 (I.mk 0 0)) 0) 0 0)),(vI (bB (ah.mk ([(ab.mk 1 (I.mk 1000 1000) (I.mk 0 0) (I.mk 0 0) 0 0)]) ([(aj.mk 0 1 (ae.mk 0 (I.mk 0 0)) 0 1)]) ([]) (ae.mk 0 (I.mk 0 0)) 0) 0 0))])),(11,(vA (ag.cells (ag.mk (aJ.mk (some ⟨A,0,none⟩) 1 1))))),(12,(vA (aj.cells (aj.mk 0 1 (ae.mk 0 (I.mk 0 0)) 0 1)))),(13,(vS (some ⟨B,0,none⟩) 1 1)),(14,(vA (aW.cells (aW.mk (ag.mk (aJ.mk (some ⟨A,0,none⟩) 1 1)) (aJ.mk (some ⟨B,0,none⟩) 1 1) (aJ.mk none 0 0) (ae.mk 0 (I.mk 0 0)) 0)))),(15,(vT [(vI (bE (ah.mk ([(ab.mk 1 (I.mk 1000 1000) (I.mk 0 0) (I.mk 0 0) 0 0)]) ([(aj.mk 0 1 (ae.mk 0 (I.mk 0 0)) 0 1)]) ([]) (ae.mk 0 (I.mk 0 0)) 0) 0 0)),(vI (bB (ah.mk ([(ab.mk 1 (I.mk 1000 1000) (I.mk 0 0) (I.mk 0 0) 0 0)]) ([(aj.mk 0 1 (ae.mk 0 (I.mk 0 0)) 0 1)]) ([]) (ae.mk 0 (I.mk 0 0)) 0) 0 0))])),(16,(vI (bE (ah.mk ([(ab.mk 1 (I.mk 1000 1000) (I.mk 0 0) (I.mk 0 0) 0 0)]) ([(aj.mk 0 1 (ae.mk 0 (I.mk 0 0)) 0 1)]) ([]) (ae.mk 0 (I.mk 0 0)) 0) 0 0))),(17,(vI (bB (ah.mk ([(ab.mk 1 (I.mk 1000 1000) (I.mk 0 0) (I.mk 0 0) 0 0)]) ([(aj.mk 0 1 (ae.mk 0 (I.mk 0 0)) 0 1)]) ([]) (ae.mk 0 (I.mk 0 0)) 0) 0 0))),(26,(vS (some ⟨Gw,0,none⟩) 1 1)),(29,(vA (I.cells (dj ([(ab.mk 1 (I.mk 1000 1000) (I.mk 0 0) (I.mk 0 0) 0 0)]) 3 ([([0]:List Int)]).flatten ([([0]:List Int)]).flatten.length)))),(30,(vI 0))]) (fun (KN,KO,Gw,KP)=>[(eB (ei jk [([0]:List Int)] [((some ⟨Gw,0,none⟩),1)])),(own (some ⟨KP,0,none⟩) 1 67 1 (List.zipWith eI [([0]:List Int)] [((some ⟨Gw,0,none⟩),1)])),(bm KO 79 (aZ.cells (aZ.mk (I.mk 0 0) 0 1 true))),(bm KN 77 (bG.cells (bG.mk (I.mk 0 0) 0))),(bm B 75 (aj.cells (aj.mk 0 1 (ae.mk 0 (I.mk 0 0)) 0 1))),(bm C 24 (ag.cells (ag.mk (aJ.mk (some ⟨A,0,none⟩) 1 1)))),(bm A 73 (ab.cells (ab.mk 1 (I.mk 1000 1000) (I.mk 0 0) (I.mk 0 0) 0 0)))]) 3 [13,14,15] (fun Kk=>?_) ?_
  rotate_left 1
  ·rintro ⟨KN,KO,Gw,KP⟩-
   refine N1 13<|c_ U U U fun T32 NI=>AL U cv fun Nd=>RD NI 5 U ?_
   exact bI KZ (KN,KO,Gw,KP,Nd) trivial [0,1,2,3,4,5,6,7] U U U
  refine dp (V:=Nat×Nat×Nat×Nat×Nat) (fun (JT,JV,Fn,JY,HA)=>True) (fun (JT,JV,Fn,JY,HA)=>[(0,(vB false)),(1,(vP C)),(2,(vI (bE (ah.mk ([(ab.mk 1 (I.mk 1000 1000) (I.mk 0 0) (I.mk 0 0) 0 0)]) ([(aj.mk 0 1 (ae.mk 0 (I.mk 0 0)) 0 1)]) ([]) (ae.mk 0 (I.mk 0 0)) 0) 0 0))),(3,(vI (bB (ah.mk ([(ab.mk 1 (I.mk 1000 1000) (I.mk 0 0) (I.mk 0 0) 0 0)]) ([(aj.mk 0 1 (ae.mk 0 (I.mk 0 0)) 0 1)]) ([]) (ae.mk 0 (I.mk 0 0)) 0) 0 0))),(4,(vP HA)),(6,(vA (I.cells (I.mk 1000 1000)))),(7,(vA (ab.cells (ab.mk 1 (I.mk 1000 1000) (I.mk 0 0) (I.mk 0 0) 0 0)))),(8,(vS (some ⟨A,0,none⟩) 1 1)),(9,(vA (ag.cells (ag.mk (aJ.mk (some ⟨A,0,none⟩) 1 1))))),(10,(vT [(vI (bE (ah.mk ([(ab.mk 1 (I.mk 1000 1000) (I.mk 0 0) (I.mk 0 0) 0 0)]) ([(aj.mk 0 1 (ae.mk 0 (I.mk 0 0)) 0 1)]) ([]) (ae.mk 0 (I.mk 0 0)) 0) 0 0)),(vI (bB (ah.mk ([(ab.mk 1 (I.mk 1000 1000) (I.mk 0 0) (I.mk 0 0) 0 0)]) ([(aj.mk 0 1 (ae.mk 0 (I.mk 0 0)) 0 1)]) ([]) (ae.mk 0 (I.mk 0 0)) 0) 0 0))])),(11,(vA (ag.cells (ag.mk (aJ.mk (some ⟨A,0,none⟩) 1 1))))),(12,(vA (aj.cells (aj.mk 0 1 (ae.mk 0 (I.mk 0 0)) 0 1)))),(13,(vS (some ⟨B,0,none⟩) 1 1)),(14,(vA (aW.cells (aW.mk (ag.mk (aJ.mk (some ⟨A,0,none⟩) 1 1)) (aJ.mk (some ⟨B,0,none⟩) 1 1) (aJ.mk none 0 0) (ae.mk 0 (I.mk 0 0)) 0)))),(15,(vT [(vI (bE (ah.mk ([(ab.mk 1 (I.mk 1000 1000) (I.mk 0 0) (I.mk 0 0) 0 0)]) ([(aj.mk 0 1 (ae.mk 0 (I.mk 0 0)) 0 1)]) ([]) (ae.mk 0 (I.mk 0 0)) 0) 0 0)),(vI (bB (ah.mk ([(ab.mk 1 (I.mk 1000 1000) (I.mk 0 0) (I.mk 0 0) 0 0)]) ([(aj.mk 0 1 (ae.mk 0 (I.mk 0 0)) 0 1)]) ([]) (ae.mk 0 (I.mk 0 0)) 0) 0 0))])),(16,(vI (bE (ah.mk ([(ab.mk 1 (I.mk 1000 1000) (I.mk 0 0) (I.mk 0 0) 0 0)]) ([(aj.mk 0 1 (ae.mk 0 (I.mk 0 0)) 0 1)]) ([]) (ae.mk 0 (I.mk 0 0)) 0) 0 0))),(17,(vI (bB (ah.mk ([(ab.mk 1 (I.mk 1000 1000) (I.mk 0 0) (I.mk 0 0) 0 0)]) ([(aj.mk 0 1 (ae.mk 0 (I.mk 0 0)) 0 1)]) ([]) (ae.mk 0 (I.mk 0 0)) 0) 0 0))),(18,(vT [(vA (I.cells (dj ([(ab.mk 1 (I.mk 1000 1000) (I.mk 0 0) (I.mk 0 0) 0 0)]) 3 ([([0]:List Int)]).flatten ([([0]:List Int)]).flatten.length))),(vI 0)])),(26,(vS (some ⟨Fn,0,none⟩) 1 1)),(29,(vA (I.cells (dj ([(ab.mk 1 (I.mk 1000 1000) (I.mk 0 0) (I.mk 0 0) 0 0)]) 3 ([([0]:List Int)]).flatten ([([0]:List Int)]).flatten.length))))]) (fun (JT,JV,Fn,JY,HA)=>[(bm HA 28 (I.cells (I.mk 0 0))),(eB (ei jk [([0]:List Int)] [((some ⟨Fn,0,none⟩),1)])),(own (some ⟨JY,0,none⟩) 1 67 1 (List.zipWith eI [([0]:List Int)] [((some ⟨Fn,0,none⟩),1)])),(bm JV 79 (aZ.cells (aZ.mk (I.mk 0 0) 0 1 true))),(bm JT 77 (bG.cells (bG.mk (I.mk 0 0) 0))),(bm B 75 (aj.cells (aj.mk 0 1 (ae.mk 0 (I.mk 0 0)) 0 1))),(bm C 24 (ag.cells (ag.mk (aJ.mk (some ⟨A,0,none⟩) 1 1)))),(bm A 73 (ab.cells (ab.mk 1 (I.mk 1000 1000) (I.mk 0 0) (I.mk 0 0) 0 0)))]) 3 [12,14,15] (fun Kl=>?_) ?_
  rotate_left 1
  ·rintro ⟨JT,JV,Fn,JY,HA⟩-
   refine dz [12,14] kr (bD ?_<|bD ?_<|en)
   ·refine c_ U U U fun T40 NJ=>rS (EX U)<|RD NJ 5 U ?_
    exact bI KZ (JT,JV,Fn,JY,HA) trivial [0,1,2,3,4,5,6,7] U U U
   refine c_ U U U fun T41 NK=>eC U cn U<|RD NK 5 U ?_
   exact bI NA (JT,JV,Fn,JY,HA) trivial [0,1,2,3,4,5,6,7] U U U
  refine dp (V:=Nat×Nat×Nat×Nat×Nat) (fun (KQ,KR,HL,KS,J1)=>True) (fun (KQ,KR,HL,KS,J1)=>[(0,(vB false)),(1,(vP C)),(2,(vI (bE (ah.mk ([(ab.mk 1 (I.mk 1000 1000) (I.mk 0 0) (I.mk 0 0) 0 0)]) ([(aj.mk 0 1 (ae.mk 0 (I.mk 0 0)) 0 1)]) ([]) (ae.mk 0 (I.mk 0 0)) 0) 0 0))),(3,(vI (bB (ah.mk ([(ab.mk 1 (I.mk 1000 1000) (I.mk 0 0) (I.mk 0 0) 0 0)]) ([(aj.mk 0 1 (ae.mk 0 (I.mk 0 0)) 0 1)]) ([]) (ae.mk 0 (I.mk 0 0)) 0) 0 0))),(4,(vP J1)),(6,(vA (I.cells (I.mk 1000 1000)))),(7,(vA (ab.cells (ab.mk 1 (I.mk 1000 1000) (I.mk 0 0) (I.mk 0 0) 0 0)))),(8,(vS (some ⟨A,0,none⟩) 1 1)),(9,(vA (ag.cells (ag.mk (aJ.mk (some ⟨A,0,none⟩) 1 1))))),(10,(vT [(vI (bE (ah.mk ([(ab.mk 1 (I.mk 1000 1000) (I.mk 0 0) (I.mk 0 0) 0 0)]) ([(aj.mk 0 1 (ae.mk 0 (I.mk 0 0)) 0 1)]) ([]) (ae.mk 0 (I.mk 0 0)) 0) 0 0)),(vI (bB (ah.mk ([(ab.mk 1 (I.mk 1000 1000) (I.mk 0 0) (I.mk 0 0) 0 0)]) ([(aj.mk 0 1 (ae.mk 0 (I.mk 0 0)) 0 1)]) ([]) (ae.mk 0 (I.mk 0 0)) 0) 0 0))])),(11,(vA (ag.cells (ag.mk (aJ.mk (some ⟨A,0,none⟩) 1 1))))),(12,(vA (aj.cells (aj.mk 0 1 (ae.mk 0 (I.mk 0 0)) 0 1)))),(13,(vS (some ⟨B,0,none⟩) 1 1)),(14,(vA (aW.cells (aW.mk (ag.mk (aJ.mk (some ⟨A,0,none⟩) 1 1)) (aJ.mk (some ⟨B,0,none⟩) 1 1) (aJ.mk none 0 0) (ae.mk 0 (I.mk 0 0)) 0)))),(15,(vT [(vI (bE (ah.mk ([(ab.mk 1 (I.mk 1000 1000) (I.mk 0 0) (I.mk 0 0) 0 0)]) ([(aj.mk 0 1 (ae.mk 0 (I.mk 0 0)) 0 1)]) ([]) (ae.mk 0 (I.mk 0 0)) 0) 0 0)),(vI (bB (ah.mk ([(ab.mk 1 (I.mk 1000 1000) (I.mk 0 0) (I.mk 0 0) 0 0)]) ([(aj.mk 0 1 (ae.mk 0 (I.mk 0 0)) 0 1)]) ([]) (ae.mk 0 (I.mk 0 0)) 0) 0 0))])),(16,(vI (bE (ah.mk ([(ab.mk 1 (I.mk 1000 1000) (I.mk 0 0) (I.mk 0 0) 0 0)]) ([(aj.mk 0 1 (ae.mk 0 (I.mk 0 0)) 0 1)]) ([]) (ae.mk 0 (I.mk 0 0)) 0) 0 0))),(17,(vI (bB (ah.mk ([(ab.mk 1 (I.mk 1000 1000) (I.mk 0 0) (I.mk 0 0) 0 0)]) ([(aj.mk 0 1 (ae.mk 0 (I.mk 0 0)) 0 1)]) ([]) (ae.mk 0 (I.mk 0 0)) 0) 0 0))),(18,(vT [(vA (I.cells (dj ([(ab.mk 1 (I.mk 1000 1000) (I.mk 0 0) (I.mk 0 0) 0 0)]) 3 ([([0]:List Int)]).flatten ([([0]:List Int)]).flatten.length))),(vI 0)])),(26,(vS (some ⟨HL,0,none⟩) 1 1)),(30,(vI 0))]) (fun (KQ,KR,HL,KS,J1)=>[(bm J1 28 (I.cells (I.mk 0 0))),(eB (ei jk [([0]:List Int)] [((some ⟨HL,0,none⟩),1)])),(own (some ⟨KS,0,none⟩) 1 67 1 (List.zipWith eI [([0]:List Int)] [((some ⟨HL,0,none⟩),1)])),(bm KR 79 (aZ.cells (aZ.mk (I.mk 0 0) 0 1 true))),(bm KQ 77 (bG.cells (bG.mk (I.mk 0 0) 0))),(bm B 75 (aj.cells (aj.mk 0 1 (ae.mk 0 (I.mk 0 0)) 0 1))),(bm C 24 (ag.cells (ag.mk (aJ.mk (some ⟨A,0,none⟩) 1 1)))),(bm A 73 (ab.cells (ab.mk 1 (I.mk 1000 1000) (I.mk 0 0) (I.mk 0 0) 0 0)))]) 3 [11,14,15] (fun Km=>?_) ?_
  rotate_left 1
  ·rintro ⟨KQ,KR,HL,KS,J1⟩-
   refine N1 11<|c_ U U U fun T48 NL=>rS (EX U)<|RD NL 5 U ?_
   exact bI KZ (KQ,KR,HL,KS,J1) trivial [0,1,2,3,4,5,6,7] U U U
  refine dp (V:=Nat×Nat×Nat×Nat) (fun (J2,J3,Fs,J4)=>True) (fun (J2,J3,Fs,J4)=>[(0,(vB false)),(1,(vP C)),(2,(vI (bE (ah.mk ([(ab.mk 1 (I.mk 1000 1000) (I.mk 0 0) (I.mk 0 0) 0 0)]) ([(aj.mk 0 1 (ae.mk 0 (I.mk 0 0)) 0 1)]) ([]) (ae.mk 0 (I.mk 0 0)) 0) 0 0))),(3,(vI (bB (ah.mk ([(ab.mk 1 (I.mk 1000 1000) (I.mk 0 0) (I.mk 0 0) 0 0)]) ([(aj.mk 0 1 (ae.mk 0 (I.mk 0 0)) 0 1)]) ([]) (ae.mk 0 (I.mk 0 0)) 0) 0 0))),(6,(vA (I.cells (I.mk 1000 1000)))),(7,(vA (ab.cells (ab.mk 1 (I.mk 1000 1000) (I.mk 0 0) (I.mk 0 0) 0 0)))),(8,(vS (some ⟨A,0,none⟩) 1 1)),(9,(vA (ag.cells (ag.mk (aJ.mk (some ⟨A,0,none⟩) 1 1))))),(10,(vT [(vI (bE (ah.mk ([(ab.mk 1 (I.mk 1000 1000) (I.mk 0 0) (I.mk 0 0) 0 0)]) ([(aj.mk 0 1 (ae.mk 0 (I.mk 0 0)) 0 1)]) ([]) (ae.mk 0 (I.mk 0 0)) 0) 0 0)),(vI (bB (ah.mk ([(ab.mk 1 (I.mk 1000 1000) (I.mk 0 0) (I.mk 0 0) 0 0)]) ([(aj.mk 0 1 (ae.mk 0 (I.mk 0 0)) 0 1)]) ([]) (ae.mk 0 (I.mk 0 0)) 0) 0 0))])),(11,(vA (ag.cells (ag.mk (aJ.mk (some ⟨A,0,none⟩) 1 1))))),(12,(vA (aj.cells (aj.mk 0 1 (ae.mk 0 (I.mk 0 0)) 0 1)))),(13,(vS (some ⟨B,0,none⟩) 1 1)),(14,(vA (aW.cells (aW.mk (ag.mk (aJ.mk (some ⟨A,0,none⟩) 1 1)) (aJ.mk (some ⟨B,0,none⟩) 1 1) (aJ.mk none 0 0) (ae.mk 0 (I.mk 0 0)) 0)))),(15,(vT [(vI (bE (ah.mk ([(ab.mk 1 (I.mk 1000 1000) (I.mk 0 0) (I.mk 0 0) 0 0)]) ([(aj.mk 0 1 (ae.mk 0 (I.mk 0 0)) 0 1)]) ([]) (ae.mk 0 (I.mk 0 0)) 0) 0 0)),(vI (bB (ah.mk ([(ab.mk 1 (I.mk 1000 1000) (I.mk 0 0) (I.mk 0 0) 0 0)]) ([(aj.mk 0 1 (ae.mk 0 (I.mk 0 0)) 0 1)]) ([]) (ae.mk 0 (I.mk 0 0)) 0) 0 0))])),(16,(vI (bE (ah.mk ([(ab.mk 1 (I.mk 1000 1000) (I.mk 0 0) (I.mk 0 0) 0 0)]) ([(aj.mk 0 1 (ae.mk 0 (I.mk 0 0)) 0 1)]) ([]) (ae.mk 0 (I.mk 0 0)) 0) 0 0))),(17,(vI (bB (ah.mk ([(ab.mk 1 (I.mk 1000 1000) (I.mk 0 0) (I.mk 0 0) 0 0)]) ([(aj.mk 0 1 (ae.mk 0 (I.mk 0 0)) 0 1)]) ([]) (ae.mk 0 (I.mk 0 0)) 0) 0 0))),(18,(vT [(vA (I.cells (dj ([(ab.mk 1 (I.mk 1000 1000) (I.mk 0 0) (I.mk 0 0) 0 0)]) 3 ([([0]:List Int)]).flatten ([([0]:List Int)]).flatten.length))),(vI 0)])),(26,(vS (some ⟨Fs,0,none⟩) 1 1)),(29,(vA (I.cells (dj ([(ab.mk 1 (I.mk 1000 1000) (I.mk 0 0) (I.mk 0 0) 0 0)]) 3 ([([0]:List Int)]).flatten ([([0]:List Int)]).flatten.length))))]) (fun (J2,J3,Fs,J4)=>[(eB (ei jk [([0]:List Int)] [((some ⟨Fs,0,none⟩),1)])),(own (some ⟨J4,0,none⟩) 1 67 1 (List.zipWith eI [([0]:List Int)] [((some ⟨Fs,0,none⟩),1)])),(bm J3 79 (aZ.cells (aZ.mk (I.mk 0 0) 0 1 true))),(bm J2 77 (bG.cells (bG.mk (I.mk 0 0) 0))),(bm B 75 (aj.cells (aj.mk 0 1 (ae.mk 0 (I.mk 0 0)) 0 1))),(bm C 24 (ag.cells (ag.mk (aJ.mk (some ⟨A,0,none⟩) 1 1)))),(bm A 73 (ab.cells (ab.mk 1 (I.mk 1000 1000) (I.mk 0 0) (I.mk 0 0) 0 0)))]) 4 [12,13,14,15] (fun NB=>?_) ?_
  rotate_left 1
  ·rintro ⟨J2,J3,Fs,J4⟩-
   refine dz [12,13] kr (bD ?_<|bD ?_<|en)
   ·refine c_ U U U fun T54 NM=>rS (EX U)<|RD NM 4 U ?_
    exact bI Kk (J2,J3,Fs,J4) trivial [0,1,2,3,4,5,6] U U U
   refine c_ U U U fun T55 NN=>AL U cv fun Ne=>RD NN 5 U ?_
   exact bI Kl (J2,J3,Fs,J4,Ne) trivial [0,1,2,3,4,5,6,7] U U U
  refine dp (V:=Nat×Nat×Nat×Nat) (fun (J5,J6,GD,J7)=>True) (fun (J5,J6,GD,J7)=>[(0,(vB false)),(1,(vP C)),(2,(vI (bE (ah.mk ([(ab.mk 1 (I.mk 1000 1000) (I.mk 0 0) (I.mk 0 0) 0 0)]) ([(aj.mk 0 1 (ae.mk 0 (I.mk 0 0)) 0 1)]) ([]) (ae.mk 0 (I.mk 0 0)) 0) 0 0))),(3,(vI (bB (ah.mk ([(ab.mk 1 (I.mk 1000 1000) (I.mk 0 0) (I.mk 0 0) 0 0)]) ([(aj.mk 0 1 (ae.mk 0 (I.mk 0 0)) 0 1)]) ([]) (ae.mk 0 (I.mk 0 0)) 0) 0 0))),(6,(vA (I.cells (I.mk 1000 1000)))),(7,(vA (ab.cells (ab.mk 1 (I.mk 1000 1000) (I.mk 0 0) (I.mk 0 0) 0 0)))),(8,(vS (some ⟨A,0,none⟩) 1 1)),(9,(vA (ag.cells (ag.mk (aJ.mk (some ⟨A,0,none⟩) 1 1))))),(10,(vT [(vI (bE (ah.mk ([(ab.mk 1 (I.mk 1000 1000) (I.mk 0 0) (I.mk 0 0) 0 0)]) ([(aj.mk 0 1 (ae.mk 0 (I.mk 0 0)) 0 1)]) ([]) (ae.mk 0 (I.mk 0 0)) 0) 0 0)),(vI (bB (ah.mk ([(ab.mk 1 (I.mk 1000 1000) (I.mk 0 0) (I.mk 0 0) 0 0)]) ([(aj.mk 0 1 (ae.mk 0 (I.mk 0 0)) 0 1)]) ([]) (ae.mk 0 (I.mk 0 0)) 0) 0 0))])),(11,(vA (ag.cells (ag.mk (aJ.mk (some ⟨A,0,none⟩) 1 1))))),(12,(vA (aj.cells (aj.mk 0 1 (ae.mk 0 (I.mk 0 0)) 0 1)))),(13,(vS (some ⟨B,0,none⟩) 1 1)),(14,(vA (aW.cells (aW.mk (ag.mk (aJ.mk (some ⟨A,0,none⟩) 1 1)) (aJ.mk (some ⟨B,0,none⟩) 1 1) (aJ.mk none 0 0) (ae.mk 0 (I.mk 0 0)) 0)))),(15,(vT [(vI (bE (ah.mk ([(ab.mk 1 (I.mk 1000 1000) (I.mk 0 0) (I.mk 0 0) 0 0)]) ([(aj.mk 0 1 (ae.mk 0 (I.mk 0 0)) 0 1)]) ([]) (ae.mk 0 (I.mk 0 0)) 0) 0 0)),(vI (bB (ah.mk ([(ab.mk 1 (I.mk 1000 1000) (I.mk 0 0) (I.mk 0 0) 0 0)]) ([(aj.mk 0 1 (ae.mk 0 (I.mk 0 0)) 0 1)]) ([]) (ae.mk 0 (I.mk 0 0)) 0) 0 0))])),(16,(vI (bE (ah.mk ([(ab.mk 1 (I.mk 1000 1000) (I.mk 0 0) (I.mk 0 0) 0 0)]) ([(aj.mk 0 1 (ae.mk 0 (I.mk 0 0)) 0 1)]) ([]) (ae.mk 0 (I.mk 0 0)) 0) 0 0))),(17,(vI (bB (ah.mk ([(ab.mk 1 (I.mk 1000 1000) (I.mk 0 0) (I.mk 0 0) 0 0)]) ([(aj.mk 0 1 (ae.mk 0 (I.mk 0 0)) 0 1)]) ([]) (ae.mk 0 (I.mk 0 0)) 0) 0 0))),(18,(vT [(vA (I.cells (dj ([(ab.mk 1 (I.mk 1000 1000) (I.mk 0 0) (I.mk 0 0) 0 0)]) 3 ([([0]:List Int)]).flatten ([([0]:List Int)]).flatten.length))),(vI 0)])),(26,(vS (some ⟨GD,0,none⟩) 1 1)),(30,(vI 0))]) (fun (J5,J6,GD,J7)=>[(eB (ei jk [([0]:List Int)] [((some ⟨GD,0,none⟩),1)])),(own (some ⟨J7,0,none⟩) 1 67 1 (List.zipWith eI [([0]:List Int)] [((some ⟨GD,0,none⟩),1)])),(bm J6 79 (aZ.cells (aZ.mk (I.mk 0 0) 0 1 true))),(bm J5 77 (bG.cells (bG.mk (I.mk 0 0) 0))),(bm B 75 (aj.cells (aj.mk 0 1 (ae.mk 0 (I.mk 0 0)) 0 1))),(bm C 24 (ag.cells (ag.mk (aJ.mk (some ⟨A,0,none⟩) 1 1)))),(bm A 73 (ab.cells (ab.mk 1 (I.mk 1000 1000) (I.mk 0 0) (I.mk 0 0) 0 0)))]) 4 [11,13,14,15] (fun NC=>?_) ?_
  rotate_left 1
  ·rintro ⟨J5,J6,GD,J7⟩-
   refine dz [11,13] kr (bD ?_<|bD ?_<|en)
   ·refine c_ U U U fun T62 NP=>rS (EX U)<|RD NP 4 U ?_
    exact bI Kk (J5,J6,GD,J7) trivial [0,1,2,3,4,5,6] U U U
   refine c_ U U U fun T63 NR=>AL U cv fun Nf=>RD NR 5 U ?_
   exact bI Km (J5,J6,GD,J7,Nf) trivial [0,1,2,3,4,5,6,7] U U U
  refine dp (V:=Nat×Nat×Nat×Nat×Nat) (fun (J8,J9,GE,J_,HO)=>True) (fun (J8,J9,GE,J_,HO)=>[(0,(vB false)),(1,(vP C)),(2,(vI (bE (ah.mk ([(ab.mk 1 (I.mk 1000 1000) (I.mk 0 0) (I.mk 0 0) 0 0)]) ([(aj.mk 0 1 (ae.mk 0 (I.mk 0 0)) 0 1)]) ([]) (ae.mk 0 (I.mk 0 0)) 0) 0 0))),(3,(vI (bB (ah.mk ([(ab.mk 1 (I.mk 1000 1000) (I.mk 0 0) (I.mk 0 0) 0 0)]) ([(aj.mk 0 1 (ae.mk 0 (I.mk 0 0)) 0 1)]) ([]) (ae.mk 0 (I.mk 0 0)) 0) 0 0))),(4,(vP HO)),(6,(vA (I.cells (I.mk 1000 1000)))),(7,(vA (ab.cells (ab.mk 1 (I.mk 1000 1000) (I.mk 0 0) (I.mk 0 0) 0 0)))),(8,(vS (some ⟨A,0,none⟩) 1 1)),(9,(vA (ag.cells (ag.mk (aJ.mk (some ⟨A,0,none⟩) 1 1))))),(10,(vT [(vI (bE (ah.mk ([(ab.mk 1 (I.mk 1000 1000) (I.mk 0 0) (I.mk 0 0) 0 0)]) ([(aj.mk 0 1 (ae.mk 0 (I.mk 0 0)) 0 1)]) ([]) (ae.mk 0 (I.mk 0 0)) 0) 0 0)),(vI (bB (ah.mk ([(ab.mk 1 (I.mk 1000 1000) (I.mk 0 0) (I.mk 0 0) 0 0)]) ([(aj.mk 0 1 (ae.mk 0 (I.mk 0 0)) 0 1)]) ([]) (ae.mk 0 (I.mk 0 0)) 0) 0 0))])),(11,(vA (ag.cells (ag.mk (aJ.mk (some ⟨A,0,none⟩) 1 1))))),(12,(vA (aj.cells (aj.mk 0 1 (ae.mk 0 (I.mk 0 0)) 0 1)))),(13,(vS (some ⟨B,0,none⟩) 1 1)),(14,(vA (aW.cells (aW.mk (ag.mk (aJ.mk (some ⟨A,0,none⟩) 1 1)) (aJ.mk (some ⟨B,0,none⟩) 1 1) (aJ.mk none 0 0) (ae.mk 0 (I.mk 0 0)) 0)))),(15,(vT [(vI (bE (ah.mk ([(ab.mk 1 (I.mk 1000 1000) (I.mk 0 0) (I.mk 0 0) 0 0)]) ([(aj.mk 0 1 (ae.mk 0 (I.mk 0 0)) 0 1)]) ([]) (ae.mk 0 (I.mk 0 0)) 0) 0 0)),(vI (bB (ah.mk ([(ab.mk 1 (I.mk 1000 1000) (I.mk 0 0) (I.mk 0 0) 0 0)]) ([(aj.mk 0 1 (ae.mk 0 (I.mk 0 0)) 0 1)]) ([]) (ae.mk 0 (I.mk 0 0)) 0) 0 0))])),(16,(vI (bE (ah.mk ([(ab.mk 1 (I.mk 1000 1000) (I.mk 0 0) (I.mk 0 0) 0 0)]) ([(aj.mk 0 1 (ae.mk 0 (I.mk 0 0)) 0 1)]) ([]) (ae.mk 0 (I.mk 0 0)) 0) 0 0))),(17,(vI (bB (ah.mk ([(ab.mk 1 (I.mk 1000 1000) (I.mk 0 0) (I.mk 0 0) 0 0)]) ([(aj.mk 0 1 (ae.mk 0 (I.mk 0 0)) 0 1)]) ([]) (ae.mk 0 (I.mk 0 0)) 0) 0 0))),(18,(vT [(vA (I.cells (dj ([(ab.mk 1 (I.mk 1000 1000) (I.mk 0 0) (I.mk 0 0) 0 0)]) 3 ([([0]:List Int)]).flatten ([([0]:List Int)]).flatten.length))),(vI 0)])),(26,(vS (some ⟨GE,0,none⟩) 1 1))]) (fun (J8,J9,GE,J_,HO)=>[(bm HO 28 (I.cells (I.mk 0 0))),(eB (ei jk [([0]:List Int)] [((some ⟨GE,0,none⟩),1)])),(own (some ⟨J_,0,none⟩) 1 67 1 (List.zipWith eI [([0]:List Int)] [((some ⟨GE,0,none⟩),1)])),(bm J9 79 (aZ.cells (aZ.mk (I.mk 0 0) 0 1 true))),(bm J8 77 (bG.cells (bG.mk (I.mk 0 0) 0))),(bm B 75 (aj.cells (aj.mk 0 1 (ae.mk 0 (I.mk 0 0)) 0 1))),(bm C 24 (ag.cells (ag.mk (aJ.mk (some ⟨A,0,none⟩) 1 1)))),(bm A 73 (ab.cells (ab.mk 1 (I.mk 1000 1000) (I.mk 0 0) (I.mk 0 0) 0 0)))]) 4 [11,12,14,15] (fun Kn=>?_) ?_
  rotate_left 1
  ·rintro ⟨J8,J9,GE,J_,HO⟩-
   refine dz [11,12] kr (bD ?_<|bD ?_<|en)
   rotate_left 1
   ·refine c_ U U U fun T72 NU=>rS (EX U)<|RD NU 5 U ?_
    exact bI Km (J8,J9,GE,J_,HO) trivial [0,1,2,3,4,5,6,7] U U U
   refine c_ U U U fun T71 NT=>rS (EX U)<|RD NT 5 U ?_
   exact bI Kl (J8,J9,GE,J_,HO) trivial [0,1,2,3,4,5,6,7] U U U
  refine dp (V:=Nat×Nat×Nat×Nat) (fun (Hi,Ho,FN,H1)=>True) (fun (Hi,Ho,FN,H1)=>[(0,(vB false)),(1,(vP C)),(2,(vI (bE (ah.mk ([(ab.mk 1 (I.mk 1000 1000) (I.mk 0 0) (I.mk 0 0) 0 0)]) ([(aj.mk 0 1 (ae.mk 0 (I.mk 0 0)) 0 1)]) ([]) (ae.mk 0 (I.mk 0 0)) 0) 0 0))),(3,(vI (bB (ah.mk ([(ab.mk 1 (I.mk 1000 1000) (I.mk 0 0) (I.mk 0 0) 0 0)]) ([(aj.mk 0 1 (ae.mk 0 (I.mk 0 0)) 0 1)]) ([]) (ae.mk 0 (I.mk 0 0)) 0) 0 0))),(6,(vA (I.cells (I.mk 1000 1000)))),(7,(vA (ab.cells (ab.mk 1 (I.mk 1000 1000) (I.mk 0 0) (I.mk 0 0) 0 0)))),(8,(vS (some ⟨A,0,none⟩) 1 1)),(9,(vA (ag.cells (ag.mk (aJ.mk (some ⟨A,0,none⟩) 1 1))))),(10,(vT [(vI (bE (ah.mk ([(ab.mk 1 (I.mk 1000 1000) (I.mk 0 0) (I.mk 0 0) 0 0)]) ([(aj.mk 0 1 (ae.mk 0 (I.mk 0 0)) 0 1)]) ([]) (ae.mk 0 (I.mk 0 0)) 0) 0 0)),(vI (bB (ah.mk ([(ab.mk 1 (I.mk 1000 1000) (I.mk 0 0) (I.mk 0 0) 0 0)]) ([(aj.mk 0 1 (ae.mk 0 (I.mk 0 0)) 0 1)]) ([]) (ae.mk 0 (I.mk 0 0)) 0) 0 0))])),(11,(vA (ag.cells (ag.mk (aJ.mk (some ⟨A,0,none⟩) 1 1))))),(12,(vA (aj.cells (aj.mk 0 1 (ae.mk 0 (I.mk 0 0)) 0 1)))),(13,(vS (some ⟨B,0,none⟩) 1 1)),(14,(vA (aW.cells (aW.mk (ag.mk (aJ.mk (some ⟨A,0,none⟩) 1 1)) (aJ.mk (some ⟨B,0,none⟩) 1 1) (aJ.mk none 0 0) (ae.mk 0 (I.mk 0 0)) 0)))),(15,(vT [(vI (bE (ah.mk ([(ab.mk 1 (I.mk 1000 1000) (I.mk 0 0) (I.mk 0 0) 0 0)]) ([(aj.mk 0 1 (ae.mk 0 (I.mk 0 0)) 0 1)]) ([]) (ae.mk 0 (I.mk 0 0)) 0) 0 0)),(vI (bB (ah.mk ([(ab.mk 1 (I.mk 1000 1000) (I.mk 0 0) (I.mk 0 0) 0 0)]) ([(aj.mk 0 1 (ae.mk 0 (I.mk 0 0)) 0 1)]) ([]) (ae.mk 0 (I.mk 0 0)) 0) 0 0))])),(16,(vI (bE (ah.mk ([(ab.mk 1 (I.mk 1000 1000) (I.mk 0 0) (I.mk 0 0) 0 0)]) ([(aj.mk 0 1 (ae.mk 0 (I.mk 0 0)) 0 1)]) ([]) (ae.mk 0 (I.mk 0 0)) 0) 0 0))),(17,(vI (bB (ah.mk ([(ab.mk 1 (I.mk 1000 1000) (I.mk 0 0) (I.mk 0 0) 0 0)]) ([(aj.mk 0 1 (ae.mk 0 (I.mk 0 0)) 0 1)]) ([]) (ae.mk 0 (I.mk 0 0)) 0) 0 0))),(18,(vT [(vA (I.cells (dj ([(ab.mk 1 (I.mk 1000 1000) (I.mk 0 0) (I.mk 0 0) 0 0)]) 3 ([([0]:List Int)]).flatten ([([0]:List Int)]).flatten.length))),(vI 0)])),(26,(vS (some ⟨FN,0,none⟩) 1 1))]) (fun (Hi,Ho,FN,H1)=>[(eB (ei jk [([0]:List Int)] [((some ⟨FN,0,none⟩),1)])),(own (some ⟨H1,0,none⟩) 1 67 1 (List.zipWith eI [([0]:List Int)] [((some ⟨FN,0,none⟩),1)])),(bm Ho 79 (aZ.cells (aZ.mk (I.mk 0 0) 0 1 true))),(bm Hi 77 (bG.cells (bG.mk (I.mk 0 0) 0))),(bm B 75 (aj.cells (aj.mk 0 1 (ae.mk 0 (I.mk 0 0)) 0 1))),(bm C 24 (ag.cells (ag.mk (aJ.mk (some ⟨A,0,none⟩) 1 1)))),(bm A 73 (ab.cells (ab.mk 1 (I.mk 1000 1000) (I.mk 0 0) (I.mk 0 0) 0 0)))]) 5 [11,12,13,14,15] (fun ND=>?_) ?_
  rotate_left 1
  ·rintro ⟨Hi,Ho,FN,H1⟩-
   refine dz [11,12,13] kr (bD ?_<|bD ?_<|bD ?_<|en)
   ·refine c_ U U U fun T78 NV=>rS (EX U)<|RD NV 4 U ?_
    exact bI NB (Hi,Ho,FN,H1) trivial [0,1,2,3,4,5,6] U U U
   ·refine c_ U U U fun T79 NW=>rS (EX U)<|RD NW 4 U ?_
    exact bI NC (Hi,Ho,FN,H1) trivial [0,1,2,3,4,5,6] U U U
   refine c_ U U U fun T80 NX=>AL U cv fun Ng=>RD NX 5 U ?_
   exact bI Kn (Hi,Ho,FN,H1,Ng) trivial [0,1,2,3,4,5,6,7] U U U
  refine dp (V:=Nat×Nat×Nat×Nat×Nat) (fun (KT,KU,H8,KV,KA)=>True) (fun (KT,KU,H8,KV,KA)=>[(0,(vB false)),(1,(vP C)),(2,(vI (bE (ah.mk ([(ab.mk 1 (I.mk 1000 1000) (I.mk 0 0) (I.mk 0 0) 0 0)]) ([(aj.mk 0 1 (ae.mk 0 (I.mk 0 0)) 0 1)]) ([]) (ae.mk 0 (I.mk 0 0)) 0) 0 0))),(3,(vI (bB (ah.mk ([(ab.mk 1 (I.mk 1000 1000) (I.mk 0 0) (I.mk 0 0) 0 0)]) ([(aj.mk 0 1 (ae.mk 0 (I.mk 0 0)) 0 1)]) ([]) (ae.mk 0 (I.mk 0 0)) 0) 0 0))),(4,(vP KA)),(6,(vA (I.cells (I.mk 1000 1000)))),(7,(vA (ab.cells (ab.mk 1 (I.mk 1000 1000) (I.mk 0 0) (I.mk 0 0) 0 0)))),(8,(vS (some ⟨A,0,none⟩) 1 1)),(9,(vA (ag.cells (ag.mk (aJ.mk (some ⟨A,0,none⟩) 1 1))))),(10,(vT [(vI (bE (ah.mk ([(ab.mk 1 (I.mk 1000 1000) (I.mk 0 0) (I.mk 0 0) 0 0)]) ([(aj.mk 0 1 (ae.mk 0 (I.mk 0 0)) 0 1)]) ([]) (ae.mk 0 (I.mk 0 0)) 0) 0 0)),(vI (bB (ah.mk ([(ab.mk 1 (I.mk 1000 1000) (I.mk 0 0) (I.mk 0 0) 0 0)]) ([(aj.mk 0 1 (ae.mk 0 (I.mk 0 0)) 0 1)]) ([]) (ae.mk 0 (I.mk 0 0)) 0) 0 0))])),(11,(vA (ag.cells (ag.mk (aJ.mk (some ⟨A,0,none⟩) 1 1))))),(12,(vA (aj.cells (aj.mk 0 1 (ae.mk 0 (I.mk 0 0)) 0 1)))),(13,(vS (some ⟨B,0,none⟩) 1 1)),(14,(vA (aW.cells (aW.mk (ag.mk (aJ.mk (some ⟨A,0,none⟩) 1 1)) (aJ.mk (some ⟨B,0,none⟩) 1 1) (aJ.mk none 0 0) (ae.mk 0 (I.mk 0 0)) 0)))),(15,(vT [(vI (bE (ah.mk ([(ab.mk 1 (I.mk 1000 1000) (I.mk 0 0) (I.mk 0 0) 0 0)]) ([(aj.mk 0 1 (ae.mk 0 (I.mk 0 0)) 0 1)]) ([]) (ae.mk 0 (I.mk 0 0)) 0) 0 0)),(vI (bB (ah.mk ([(ab.mk 1 (I.mk 1000 1000) (I.mk 0 0) (I.mk 0 0) 0 0)]) ([(aj.mk 0 1 (ae.mk 0 (I.mk 0 0)) 0 1)]) ([]) (ae.mk 0 (I.mk 0 0)) 0) 0 0))])),(16,(vI (bE (ah.mk ([(ab.mk 1 (I.mk 1000 1000) (I.mk 0 0) (I.mk 0 0) 0 0)]) ([(aj.mk 0 1 (ae.mk 0 (I.mk 0 0)) 0 1)]) ([]) (ae.mk 0 (I.mk 0 0)) 0) 0 0))),(17,(vI (bB (ah.mk ([(ab.mk 1 (I.mk 1000 1000) (I.mk 0 0) (I.mk 0 0) 0 0)]) ([(aj.mk 0 1 (ae.mk 0 (I.mk 0 0)) 0 1)]) ([]) (ae.mk 0 (I.mk 0 0)) 0) 0 0))),(26,(vS (some ⟨H8,0,none⟩) 1 1)),(28,(vT [(vA (I.cells (dj ([(ab.mk 1 (I.mk 1000 1000) (I.mk 0 0) (I.mk 0 0) 0 0)]) 3 ([([0]:List Int)]).flatten ([([0]:List Int)]).flatten.length))),(vI 0)]))]) (fun (KT,KU,H8,KV,KA)=>[(bm KA 28 (I.cells (I.mk 0 0))),(eB (ei jk [([0]:List Int)] [((some ⟨H8,0,none⟩),1)])),(own (some ⟨KV,0,none⟩) 1 67 1 (List.zipWith eI [([0]:List Int)] [((some ⟨H8,0,none⟩),1)])),(bm KU 79 (aZ.cells (aZ.mk (I.mk 0 0) 0 1 true))),(bm KT 77 (bG.cells (bG.mk (I.mk 0 0) 0))),(bm B 75 (aj.cells (aj.mk 0 1 (ae.mk 0 (I.mk 0 0)) 0 1))),(bm C 24 (ag.cells (ag.mk (aJ.mk (some ⟨A,0,none⟩) 1 1)))),(bm A 73 (ab.cells (ab.mk 1 (I.mk 1000 1000) (I.mk 0 0) (I.mk 0 0) 0 0)))]) 5 [10,11,12,14,15] (fun Ko=>?_) ?_
  rotate_left 1
  ·rintro ⟨KT,KU,H8,KV,KA⟩-
   refine N1 10<|c_ U U U fun T88 NY=>rS (MV U)<|RD NY 5 U ?_
   exact bI Kn (KT,KU,H8,KV,KA) trivial [0,1,2,3,4,5,6,7] U U U
  refine dp (V:=Nat×Nat×Nat×Nat) (fun (KB,KC,GT,KD)=>True) (fun (KB,KC,GT,KD)=>[(0,(vB false)),(1,(vP C)),(2,(vI (bE (ah.mk ([(ab.mk 1 (I.mk 1000 1000) (I.mk 0 0) (I.mk 0 0) 0 0)]) ([(aj.mk 0 1 (ae.mk 0 (I.mk 0 0)) 0 1)]) ([]) (ae.mk 0 (I.mk 0 0)) 0) 0 0))),(3,(vI (bB (ah.mk ([(ab.mk 1 (I.mk 1000 1000) (I.mk 0 0) (I.mk 0 0) 0 0)]) ([(aj.mk 0 1 (ae.mk 0 (I.mk 0 0)) 0 1)]) ([]) (ae.mk 0 (I.mk 0 0)) 0) 0 0))),(6,(vA (I.cells (I.mk 1000 1000)))),(7,(vA (ab.cells (ab.mk 1 (I.mk 1000 1000) (I.mk 0 0) (I.mk 0 0) 0 0)))),(8,(vS (some ⟨A,0,none⟩) 1 1)),(9,(vA (ag.cells (ag.mk (aJ.mk (some ⟨A,0,none⟩) 1 1))))),(10,(vT [(vI (bE (ah.mk ([(ab.mk 1 (I.mk 1000 1000) (I.mk 0 0) (I.mk 0 0) 0 0)]) ([(aj.mk 0 1 (ae.mk 0 (I.mk 0 0)) 0 1)]) ([]) (ae.mk 0 (I.mk 0 0)) 0) 0 0)),(vI (bB (ah.mk ([(ab.mk 1 (I.mk 1000 1000) (I.mk 0 0) (I.mk 0 0) 0 0)]) ([(aj.mk 0 1 (ae.mk 0 (I.mk 0 0)) 0 1)]) ([]) (ae.mk 0 (I.mk 0 0)) 0) 0 0))])),(11,(vA (ag.cells (ag.mk (aJ.mk (some ⟨A,0,none⟩) 1 1))))),(12,(vA (aj.cells (aj.mk 0 1 (ae.mk 0 (I.mk 0 0)) 0 1)))),(13,(vS (some ⟨B,0,none⟩) 1 1)),(14,(vA (aW.cells (aW.mk (ag.mk (aJ.mk (some ⟨A,0,none⟩) 1 1)) (aJ.mk (some ⟨B,0,none⟩) 1 1) (aJ.mk none 0 0) (ae.mk 0 (I.mk 0 0)) 0)))),(15,(vT [(vI (bE (ah.mk ([(ab.mk 1 (I.mk 1000 1000) (I.mk 0 0) (I.mk 0 0) 0 0)]) ([(aj.mk 0 1 (ae.mk 0 (I.mk 0 0)) 0 1)]) ([]) (ae.mk 0 (I.mk 0 0)) 0) 0 0)),(vI (bB (ah.mk ([(ab.mk 1 (I.mk 1000 1000) (I.mk 0 0) (I.mk 0 0) 0 0)]) ([(aj.mk 0 1 (ae.mk 0 (I.mk 0 0)) 0 1)]) ([]) (ae.mk 0 (I.mk 0 0)) 0) 0 0))])),(16,(vI (bE (ah.mk ([(ab.mk 1 (I.mk 1000 1000) (I.mk 0 0) (I.mk 0 0) 0 0)]) ([(aj.mk 0 1 (ae.mk 0 (I.mk 0 0)) 0 1)]) ([]) (ae.mk 0 (I.mk 0 0)) 0) 0 0))),(17,(vI (bB (ah.mk ([(ab.mk 1 (I.mk 1000 1000) (I.mk 0 0) (I.mk 0 0) 0 0)]) ([(aj.mk 0 1 (ae.mk 0 (I.mk 0 0)) 0 1)]) ([]) (ae.mk 0 (I.mk 0 0)) 0) 0 0))),(26,(vS (some ⟨GT,0,none⟩) 1 1)),(28,(vT [(vA (I.cells (dj ([(ab.mk 1 (I.mk 1000 1000) (I.mk 0 0) (I.mk 0 0) 0 0)]) 3 ([([0]:List Int)]).flatten ([([0]:List Int)]).flatten.length))),(vI 0)]))]) (fun (KB,KC,GT,KD)=>[(eB (ei jk [([0]:List Int)] [((some ⟨GT,0,none⟩),1)])),(own (some ⟨KD,0,none⟩) 1 67 1 (List.zipWith eI [([0]:List Int)] [((some ⟨GT,0,none⟩),1)])),(bm KC 79 (aZ.cells (aZ.mk (I.mk 0 0) 0 1 true))),(bm KB 77 (bG.cells (bG.mk (I.mk 0 0) 0))),(bm B 75 (aj.cells (aj.mk 0 1 (ae.mk 0 (I.mk 0 0)) 0 1))),(bm C 24 (ag.cells (ag.mk (aJ.mk (some ⟨A,0,none⟩) 1 1)))),(bm A 73 (ab.cells (ab.mk 1 (I.mk 1000 1000) (I.mk 0 0) (I.mk 0 0) 0 0)))]) 6 [10,11,12,13,14,15] (fun NE=>?_) ?_
  rotate_left 1
  ·rintro ⟨KB,KC,GT,KD⟩-
   refine dz [10,13] kr (bD ?_<|bD ?_<|en)
   ·refine c_ U U U fun T94 NZ=>rS (MV U)<|RD NZ 4 U ?_
    exact bI ND (KB,KC,GT,KD) trivial [0,1,2,3,4,5,6] U U U
   refine c_ U U U fun T95 Na=>AL U cv fun Nh=>RD Na 5 U ?_
   exact bI Ko (KB,KC,GT,KD,Nh) trivial [0,1,2,3,4,5,6,7] U U U
  refine dp (V:=Nat×Nat×Nat×Nat×Nat) (fun (IF,IO,u,P,Cx)=>True) (fun (IF,IO,u,P,Cx)=>[(0,(vB false)),(1,(vP C)),(2,(vI (bE (ah.mk ([(ab.mk 1 (I.mk 1000 1000) (I.mk 0 0) (I.mk 0 0) 0 0)]) ([(aj.mk 0 1 (ae.mk 0 (I.mk 0 0)) 0 1)]) ([]) (ae.mk 0 (I.mk 0 0)) 0) 0 0))),(3,(vI (bB (ah.mk ([(ab.mk 1 (I.mk 1000 1000) (I.mk 0 0) (I.mk 0 0) 0 0)]) ([(aj.mk 0 1 (ae.mk 0 (I.mk 0 0)) 0 1)]) ([]) (ae.mk 0 (I.mk 0 0)) 0) 0 0))),(4,(vP Cx)),(6,(vA (I.cells (I.mk 1000 1000)))),(7,(vA (ab.cells (ab.mk 1 (I.mk 1000 1000) (I.mk 0 0) (I.mk 0 0) 0 0)))),(8,(vS (some ⟨A,0,none⟩) 1 1)),(9,(vA (ag.cells (ag.mk (aJ.mk (some ⟨A,0,none⟩) 1 1))))),(10,(vT [(vI (bE (ah.mk ([(ab.mk 1 (I.mk 1000 1000) (I.mk 0 0) (I.mk 0 0) 0 0)]) ([(aj.mk 0 1 (ae.mk 0 (I.mk 0 0)) 0 1)]) ([]) (ae.mk 0 (I.mk 0 0)) 0) 0 0)),(vI (bB (ah.mk ([(ab.mk 1 (I.mk 1000 1000) (I.mk 0 0) (I.mk 0 0) 0 0)]) ([(aj.mk 0 1 (ae.mk 0 (I.mk 0 0)) 0 1)]) ([]) (ae.mk 0 (I.mk 0 0)) 0) 0 0))])),(11,(vA (ag.cells (ag.mk (aJ.mk (some ⟨A,0,none⟩) 1 1))))),(12,(vA (aj.cells (aj.mk 0 1 (ae.mk 0 (I.mk 0 0)) 0 1)))),(13,(vS (some ⟨B,0,none⟩) 1 1)),(14,(vA (aW.cells (aW.mk (ag.mk (aJ.mk (some ⟨A,0,none⟩) 1 1)) (aJ.mk (some ⟨B,0,none⟩) 1 1) (aJ.mk none 0 0) (ae.mk 0 (I.mk 0 0)) 0)))),(15,(vT [(vI (bE (ah.mk ([(ab.mk 1 (I.mk 1000 1000) (I.mk 0 0) (I.mk 0 0) 0 0)]) ([(aj.mk 0 1 (ae.mk 0 (I.mk 0 0)) 0 1)]) ([]) (ae.mk 0 (I.mk 0 0)) 0) 0 0)),(vI (bB (ah.mk ([(ab.mk 1 (I.mk 1000 1000) (I.mk 0 0) (I.mk 0 0) 0 0)]) ([(aj.mk 0 1 (ae.mk 0 (I.mk 0 0)) 0 1)]) ([]) (ae.mk 0 (I.mk 0 0)) 0) 0 0))])),(16,(vI (bE (ah.mk ([(ab.mk 1 (I.mk 1000 1000) (I.mk 0 0) (I.mk 0 0) 0 0)]) ([(aj.mk 0 1 (ae.mk 0 (I.mk 0 0)) 0 1)]) ([]) (ae.mk 0 (I.mk 0 0)) 0) 0 0))),(17,(vI (bB (ah.mk ([(ab.mk 1 (I.mk 1000 1000) (I.mk 0 0) (I.mk 0 0) 0 0)]) ([(aj.mk 0 1 (ae.mk 0 (I.mk 0 0)) 0 1)]) ([]) (ae.mk 0 (I.mk 0 0)) 0) 0 0))),(25,(vA (bV.cells (bV.mk (ag.mk (aJ.mk (some ⟨A,0,none⟩) 1 1)) (aJ.mk (some ⟨IF,0,none⟩) 1 1) (aJ.mk (some ⟨IO,0,none⟩) 1 1) (I.mk 0 0) (I.mk 1 1) 3 0 0)))),(26,(vS (some ⟨u,0,none⟩) 1 1)),(27,(vS (some ⟨P,0,none⟩) 1 1))]) (fun (IF,IO,u,P,Cx)=>[(bm Cx 28 (I.cells (I.mk 0 0))),(bm P 67 [(vS (some ⟨u,0,none⟩) 1 1)]),(bm u 3 [(vI 0)]),(bm IO 79 (aZ.cells (aZ.mk (I.mk 0 0) 0 1 true))),(bm IF 77 (bG.cells (bG.mk (I.mk 0 0) 0))),(bm B 75 (aj.cells (aj.mk 0 1 (ae.mk 0 (I.mk 0 0)) 0 1))),(bm C 24 (ag.cells (ag.mk (aJ.mk (some ⟨A,0,none⟩) 1 1)))),(bm A 73 (ab.cells (ab.mk 1 (I.mk 1000 1000) (I.mk 0 0) (I.mk 0 0) 0 0)))]) 6 [9,10,11,12,14,15] (fun IR=>?_) ?_
  rotate_left 1
  ·rintro ⟨IF,IO,u,P,Cx⟩-
   refine N1 9<|c_ U U U fun T103 Kw=>?_
   refine fD (es:=(([0]:List Int).map iC)) (C':=[_,_,(own (some ⟨u,0,none⟩) 1 3 1 (([0]:List Int).map iC)),_,_,_,_,_]) 2 U (pG bq _) U (by show _≤maxLen; exact Nat.le_trans (m:=10) (show (1:Nat)≤10 by decide) dc) U ?_
   refine fD (es:=(List.zipWith eI [([0]:List Int)] [((some ⟨u,0,none⟩),1)])) (C':=[_,(own (some ⟨P,0,none⟩) 1 67 1 (List.zipWith eI [([0]:List Int)] [((some ⟨u,0,none⟩),1)])),_,_,_,_,_,_]) 1 U (by intro x hx; rw [cN.1 (show x∈[_] from hx)]; rfl) U (by show _≤maxLen; exact Nat.le_trans (m:=10) (show (1:Nat)≤10 by decide) dc) U ?_
   refine uU<|yO (X:=[]) (X':=ei jk [([0]:List Int)] [((some ⟨u,0,none⟩),1)]) 0 3 U U U<|rS (CL (py (dx.mk ([(ab.mk 1 (I.mk 1000 1000) (I.mk 0 0) (I.mk 0 0) 0 0)]) ([(bG.mk (I.mk 0 0) 0)]) ([(aZ.mk (I.mk 0 0) 0 1 true)]) (I.mk 0 0) (I.mk 1 1) 3 0 0) (some ⟨A,0,none⟩) 1 (some ⟨IF,0,none⟩) 1 (some ⟨IO,0,none⟩) 1 ([([0]:List Int)]) ([((some ⟨u,0,none⟩),1)]) (some ⟨P,0,none⟩) 1 (by exact zC) (by exact uj) (by exact wo) (by rfl)) (aK (aH 7 U U (by simp [ab.aq]) U)<|aK (aH 4 U U (by simp [bG.aq]) U)<|aK (aH 3 U U (by simp [aZ.aq]) U)<|aK (aQ (n:=([([0]:List Int)]).length) 2 U U)<|aK (jf 0 U u6)<|av) U)<|RD Kw 5 U ?_
   exact bI Ko (IF,IO,u,P,Cx) trivial [1,0,2,3,4,5,6,7] U U U
  refine dp (V:=Nat×Nat×Nat×Nat) (fun (R,S,D,F)=>True) (fun (R,S,D,F)=>[(0,(vB false)),(1,(vP C)),(2,(vI (bE (ah.mk ([(ab.mk 1 (I.mk 1000 1000) (I.mk 0 0) (I.mk 0 0) 0 0)]) ([(aj.mk 0 1 (ae.mk 0 (I.mk 0 0)) 0 1)]) ([]) (ae.mk 0 (I.mk 0 0)) 0) 0 0))),(3,(vI (bB (ah.mk ([(ab.mk 1 (I.mk 1000 1000) (I.mk 0 0) (I.mk 0 0) 0 0)]) ([(aj.mk 0 1 (ae.mk 0 (I.mk 0 0)) 0 1)]) ([]) (ae.mk 0 (I.mk 0 0)) 0) 0 0))),(6,(vA (I.cells (I.mk 1000 1000)))),(7,(vA (ab.cells (ab.mk 1 (I.mk 1000 1000) (I.mk 0 0) (I.mk 0 0) 0 0)))),(8,(vS (some ⟨A,0,none⟩) 1 1)),(9,(vA (ag.cells (ag.mk (aJ.mk (some ⟨A,0,none⟩) 1 1))))),(10,(vT [(vI (bE (ah.mk ([(ab.mk 1 (I.mk 1000 1000) (I.mk 0 0) (I.mk 0 0) 0 0)]) ([(aj.mk 0 1 (ae.mk 0 (I.mk 0 0)) 0 1)]) ([]) (ae.mk 0 (I.mk 0 0)) 0) 0 0)),(vI (bB (ah.mk ([(ab.mk 1 (I.mk 1000 1000) (I.mk 0 0) (I.mk 0 0) 0 0)]) ([(aj.mk 0 1 (ae.mk 0 (I.mk 0 0)) 0 1)]) ([]) (ae.mk 0 (I.mk 0 0)) 0) 0 0))])),(11,(vA (ag.cells (ag.mk (aJ.mk (some ⟨A,0,none⟩) 1 1))))),(12,(vA (aj.cells (aj.mk 0 1 (ae.mk 0 (I.mk 0 0)) 0 1)))),(13,(vS (some ⟨B,0,none⟩) 1 1)),(14,(vA (aW.cells (aW.mk (ag.mk (aJ.mk (some ⟨A,0,none⟩) 1 1)) (aJ.mk (some ⟨B,0,none⟩) 1 1) (aJ.mk none 0 0) (ae.mk 0 (I.mk 0 0)) 0)))),(15,(vT [(vI (bE (ah.mk ([(ab.mk 1 (I.mk 1000 1000) (I.mk 0 0) (I.mk 0 0) 0 0)]) ([(aj.mk 0 1 (ae.mk 0 (I.mk 0 0)) 0 1)]) ([]) (ae.mk 0 (I.mk 0 0)) 0) 0 0)),(vI (bB (ah.mk ([(ab.mk 1 (I.mk 1000 1000) (I.mk 0 0) (I.mk 0 0) 0 0)]) ([(aj.mk 0 1 (ae.mk 0 (I.mk 0 0)) 0 1)]) ([]) (ae.mk 0 (I.mk 0 0)) 0) 0 0))])),(16,(vI (bE (ah.mk ([(ab.mk 1 (I.mk 1000 1000) (I.mk 0 0) (I.mk 0 0) 0 0)]) ([(aj.mk 0 1 (ae.mk 0 (I.mk 0 0)) 0 1)]) ([]) (ae.mk 0 (I.mk 0 0)) 0) 0 0))),(17,(vI (bB (ah.mk ([(ab.mk 1 (I.mk 1000 1000) (I.mk 0 0) (I.mk 0 0) 0 0)]) ([(aj.mk 0 1 (ae.mk 0 (I.mk 0 0)) 0 1)]) ([]) (ae.mk 0 (I.mk 0 0)) 0) 0 0))),(25,(vA (bV.cells (bV.mk (ag.mk (aJ.mk (some ⟨A,0,none⟩) 1 1)) (aJ.mk (some ⟨R,0,none⟩) 1 1) (aJ.mk (some ⟨S,0,none⟩) 1 1) (I.mk 0 0) (I.mk 1 1) 3 0 0)))),(26,(vS (some ⟨D,0,none⟩) 1 1)),(27,(vS (some ⟨F,0,none⟩) 1 1))]) (fun (R,S,D,F)=>[(bm F 67 [(vS (some ⟨D,0,none⟩) 1 1)]),(bm D 3 [(vI 0)]),(bm S 79 (aZ.cells (aZ.mk (I.mk 0 0) 0 1 true))),(bm R 77 (bG.cells (bG.mk (I.mk 0 0) 0))),(bm B 75 (aj.cells (aj.mk 0 1 (ae.mk 0 (I.mk 0 0)) 0 1))),(bm C 24 (ag.cells (ag.mk (aJ.mk (some ⟨A,0,none⟩) 1 1)))),(bm A 73 (ab.cells (ab.mk 1 (I.mk 1000 1000) (I.mk 0 0) (I.mk 0 0) 0 0)))]) 7 [9,10,11,12,13,14,15] (fun KW=>?_) ?_
  rotate_left 1
  ·rintro ⟨R,S,D,F⟩-
   refine dz [9,13] kr (bD ?_<|bD ?_<|en)
   rotate_left 1
   ·refine c_ U U U fun T110 Ky=>AL U cv fun L8=>RD Ky 5 U ?_
    exact bI IR (R,S,D,F,L8) trivial [0,1,2,3,4,5,6,7] U U U
   refine c_ U U U fun T109 Kx=>?_
   refine fD (es:=(([0]:List Int).map iC)) (C':=[_,(own (some ⟨D,0,none⟩) 1 3 1 (([0]:List Int).map iC)),_,_,_,_,_]) 1 U (pG bq _) U (by show _≤maxLen; exact Nat.le_trans (m:=10) (show (1:Nat)≤10 by decide) dc) U ?_
   refine fD (es:=(List.zipWith eI [([0]:List Int)] [((some ⟨D,0,none⟩),1)])) (C':=[(own (some ⟨F,0,none⟩) 1 67 1 (List.zipWith eI [([0]:List Int)] [((some ⟨D,0,none⟩),1)])),_,_,_,_,_,_]) 0 U (by intro x hx; rw [cN.1 (show x∈[_] from hx)]; rfl) U (by show _≤maxLen; exact Nat.le_trans (m:=10) (show (1:Nat)≤10 by decide) dc) U ?_
   refine uU<|yO (X:=[]) (X':=ei jk [([0]:List Int)] [((some ⟨D,0,none⟩),1)]) 0 2 U U U<|rS (CL (py (dx.mk ([(ab.mk 1 (I.mk 1000 1000) (I.mk 0 0) (I.mk 0 0) 0 0)]) ([(bG.mk (I.mk 0 0) 0)]) ([(aZ.mk (I.mk 0 0) 0 1 true)]) (I.mk 0 0) (I.mk 1 1) 3 0 0) (some ⟨A,0,none⟩) 1 (some ⟨R,0,none⟩) 1 (some ⟨S,0,none⟩) 1 ([([0]:List Int)]) ([((some ⟨D,0,none⟩),1)]) (some ⟨F,0,none⟩) 1 (by exact zC) (by exact uj) (by exact wo) (by rfl)) (aK (aH 6 U U (by simp [ab.aq]) U)<|aK (aH 3 U U (by simp [bG.aq]) U)<|aK (aH 2 U U (by simp [aZ.aq]) U)<|aK (aQ (n:=([([0]:List Int)]).length) 1 U U)<|aK (jf 0 U u6)<|av) U)<|RD Kx 4 U ?_
   exact bI NE (R,S,D,F) trivial [0,1,2,3,4,5,6] U U U
  refine dp (V:=Nat×Nat×Nat×Nat) (fun (C0,C1,v,C2)=>True) (fun (C0,C1,v,C2)=>[(0,(vB false)),(1,(vP C)),(2,(vI (bE (ah.mk ([(ab.mk 1 (I.mk 1000 1000) (I.mk 0 0) (I.mk 0 0) 0 0)]) ([(aj.mk 0 1 (ae.mk 0 (I.mk 0 0)) 0 1)]) ([]) (ae.mk 0 (I.mk 0 0)) 0) 0 0))),(3,(vI (bB (ah.mk ([(ab.mk 1 (I.mk 1000 1000) (I.mk 0 0) (I.mk 0 0) 0 0)]) ([(aj.mk 0 1 (ae.mk 0 (I.mk 0 0)) 0 1)]) ([]) (ae.mk 0 (I.mk 0 0)) 0) 0 0))),(4,(vP C2)),(6,(vA (I.cells (I.mk 1000 1000)))),(7,(vA (ab.cells (ab.mk 1 (I.mk 1000 1000) (I.mk 0 0) (I.mk 0 0) 0 0)))),(8,(vS (some ⟨A,0,none⟩) 1 1)),(9,(vA (ag.cells (ag.mk (aJ.mk (some ⟨A,0,none⟩) 1 1))))),(10,(vT [(vI (bE (ah.mk ([(ab.mk 1 (I.mk 1000 1000) (I.mk 0 0) (I.mk 0 0) 0 0)]) ([(aj.mk 0 1 (ae.mk 0 (I.mk 0 0)) 0 1)]) ([]) (ae.mk 0 (I.mk 0 0)) 0) 0 0)),(vI (bB (ah.mk ([(ab.mk 1 (I.mk 1000 1000) (I.mk 0 0) (I.mk 0 0) 0 0)]) ([(aj.mk 0 1 (ae.mk 0 (I.mk 0 0)) 0 1)]) ([]) (ae.mk 0 (I.mk 0 0)) 0) 0 0))])),(11,(vA (ag.cells (ag.mk (aJ.mk (some ⟨A,0,none⟩) 1 1))))),(12,(vA (aj.cells (aj.mk 0 1 (ae.mk 0 (I.mk 0 0)) 0 1)))),(13,(vS (some ⟨B,0,none⟩) 1 1)),(14,(vA (aW.cells (aW.mk (ag.mk (aJ.mk (some ⟨A,0,none⟩) 1 1)) (aJ.mk (some ⟨B,0,none⟩) 1 1) (aJ.mk none 0 0) (ae.mk 0 (I.mk 0 0)) 0)))),(15,(vT [(vI (bE (ah.mk ([(ab.mk 1 (I.mk 1000 1000) (I.mk 0 0) (I.mk 0 0) 0 0)]) ([(aj.mk 0 1 (ae.mk 0 (I.mk 0 0)) 0 1)]) ([]) (ae.mk 0 (I.mk 0 0)) 0) 0 0)),(vI (bB (ah.mk ([(ab.mk 1 (I.mk 1000 1000) (I.mk 0 0) (I.mk 0 0) 0 0)]) ([(aj.mk 0 1 (ae.mk 0 (I.mk 0 0)) 0 1)]) ([]) (ae.mk 0 (I.mk 0 0)) 0) 0 0))])),(16,(vI (bE (ah.mk ([(ab.mk 1 (I.mk 1000 1000) (I.mk 0 0) (I.mk 0 0) 0 0)]) ([(aj.mk 0 1 (ae.mk 0 (I.mk 0 0)) 0 1)]) ([]) (ae.mk 0 (I.mk 0 0)) 0) 0 0))),(17,(vI (bB (ah.mk ([(ab.mk 1 (I.mk 1000 1000) (I.mk 0 0) (I.mk 0 0) 0 0)]) ([(aj.mk 0 1 (ae.mk 0 (I.mk 0 0)) 0 1)]) ([]) (ae.mk 0 (I.mk 0 0)) 0) 0 0))),(25,(vA (bV.cells (bV.mk (ag.mk (aJ.mk (some ⟨A,0,none⟩) 1 1)) (aJ.mk (some ⟨C0,0,none⟩) 1 1) (aJ.mk (some ⟨C1,0,none⟩) 1 1) (I.mk 0 0) (I.mk 1 1) 3 0 0)))),(26,(vS (some ⟨v,0,none⟩) 1 1))]) (fun (C0,C1,v,C2)=>[(bm C2 28 (I.cells (I.mk 0 0))),(bm v 3 [(vI 0)]),(bm C1 79 (aZ.cells (aZ.mk (I.mk 0 0) 0 1 true))),(bm C0 77 (bG.cells (bG.mk (I.mk 0 0) 0))),(bm B 75 (aj.cells (aj.mk 0 1 (ae.mk 0 (I.mk 0 0)) 0 1))),(bm C 24 (ag.cells (ag.mk (aJ.mk (some ⟨A,0,none⟩) 1 1)))),(bm A 73 (ab.cells (ab.mk 1 (I.mk 1000 1000) (I.mk 0 0) (I.mk 0 0) 0 0)))]) 7 [8,9,10,11,12,14,15] (fun Ib=>?_) ?_
  rotate_left 1
  ·rintro ⟨C0,C1,v,C2⟩-
   refine N1 8<|c_ U U U fun T117 Kz=>bX (xs:=[.tmp 26]) (cs:=[(vS (some ⟨v,0,none⟩) 1 1)]) U iO nN U U U U (by simp [Value.cells]) U U fun L9=>RD Kz 5 U ?_
   exact bI IR (C0,C1,v,L9,C2) trivial [1,0,2,3,4,5,6,7] U U U
  refine dp (V:=Nat×Nat×Nat×Nat×Nat) (fun (w,y,z,DA,DN)=>True) (fun (w,y,z,DA,DN)=>[(0,(vB false)),(1,(vP C)),(2,(vI (bE (ah.mk ([(ab.mk 1 (I.mk 1000 1000) (I.mk 0 0) (I.mk 0 0) 0 0)]) ([(aj.mk 0 1 (ae.mk 0 (I.mk 0 0)) 0 1)]) ([]) (ae.mk 0 (I.mk 0 0)) 0) 0 0))),(3,(vI (bB (ah.mk ([(ab.mk 1 (I.mk 1000 1000) (I.mk 0 0) (I.mk 0 0) 0 0)]) ([(aj.mk 0 1 (ae.mk 0 (I.mk 0 0)) 0 1)]) ([]) (ae.mk 0 (I.mk 0 0)) 0) 0 0))),(4,(vP DN)),(6,(vA (I.cells (I.mk 1000 1000)))),(7,(vA (ab.cells (ab.mk 1 (I.mk 1000 1000) (I.mk 0 0) (I.mk 0 0) 0 0)))),(8,(vS (some ⟨A,0,none⟩) 1 1)),(9,(vA (ag.cells (ag.mk (aJ.mk (some ⟨A,0,none⟩) 1 1))))),(10,(vT [(vI (bE (ah.mk ([(ab.mk 1 (I.mk 1000 1000) (I.mk 0 0) (I.mk 0 0) 0 0)]) ([(aj.mk 0 1 (ae.mk 0 (I.mk 0 0)) 0 1)]) ([]) (ae.mk 0 (I.mk 0 0)) 0) 0 0)),(vI (bB (ah.mk ([(ab.mk 1 (I.mk 1000 1000) (I.mk 0 0) (I.mk 0 0) 0 0)]) ([(aj.mk 0 1 (ae.mk 0 (I.mk 0 0)) 0 1)]) ([]) (ae.mk 0 (I.mk 0 0)) 0) 0 0))])),(11,(vA (ag.cells (ag.mk (aJ.mk (some ⟨A,0,none⟩) 1 1))))),(12,(vA (aj.cells (aj.mk 0 1 (ae.mk 0 (I.mk 0 0)) 0 1)))),(13,(vS (some ⟨B,0,none⟩) 1 1)),(14,(vA (aW.cells (aW.mk (ag.mk (aJ.mk (some ⟨A,0,none⟩) 1 1)) (aJ.mk (some ⟨B,0,none⟩) 1 1) (aJ.mk none 0 0) (ae.mk 0 (I.mk 0 0)) 0)))),(15,(vT [(vI (bE (ah.mk ([(ab.mk 1 (I.mk 1000 1000) (I.mk 0 0) (I.mk 0 0) 0 0)]) ([(aj.mk 0 1 (ae.mk 0 (I.mk 0 0)) 0 1)]) ([]) (ae.mk 0 (I.mk 0 0)) 0) 0 0)),(vI (bB (ah.mk ([(ab.mk 1 (I.mk 1000 1000) (I.mk 0 0) (I.mk 0 0) 0 0)]) ([(aj.mk 0 1 (ae.mk 0 (I.mk 0 0)) 0 1)]) ([]) (ae.mk 0 (I.mk 0 0)) 0) 0 0))])),(16,(vI (bE (ah.mk ([(ab.mk 1 (I.mk 1000 1000) (I.mk 0 0) (I.mk 0 0) 0 0)]) ([(aj.mk 0 1 (ae.mk 0 (I.mk 0 0)) 0 1)]) ([]) (ae.mk 0 (I.mk 0 0)) 0) 0 0))),(17,(vI (bB (ah.mk ([(ab.mk 1 (I.mk 1000 1000) (I.mk 0 0) (I.mk 0 0) 0 0)]) ([(aj.mk 0 1 (ae.mk 0 (I.mk 0 0)) 0 1)]) ([]) (ae.mk 0 (I.mk 0 0)) 0) 0 0))),(19,(vA (ag.cells (ag.mk (aJ.mk (some ⟨A,0,none⟩) 1 1))))),(21,(vS (some ⟨w,0,none⟩) 1 1)),(23,(vS (some ⟨y,0,none⟩) 1 1)),(24,(vA (I.cells (I.mk 1 1)))),(26,(vS (some ⟨z,0,none⟩) 1 1)),(27,(vS (some ⟨DA,0,none⟩) 1 1))]) (fun (w,y,z,DA,DN)=>[(bm DN 28 (I.cells (I.mk 0 0))),(bm DA 67 [(vS (some ⟨z,0,none⟩) 1 1)]),(bm z 3 [(vI 0)]),(bm y 79 (aZ.cells (aZ.mk (I.mk 0 0) 0 1 true))),(bm w 77 (bG.cells (bG.mk (I.mk 0 0) 0))),(bm B 75 (aj.cells (aj.mk 0 1 (ae.mk 0 (I.mk 0 0)) 0 1))),(bm C 24 (ag.cells (ag.mk (aJ.mk (some ⟨A,0,none⟩) 1 1)))),(bm A 73 (ab.cells (ab.mk 1 (I.mk 1000 1000) (I.mk 0 0) (I.mk 0 0) 0 0)))]) 7 [6,9,10,11,12,14,15] (fun FS=>?_) ?_
  rotate_left 1
  ·rintro ⟨w,y,z,DA,DN⟩-
   refine N1 6<|c_ U U U fun T125 K0=>rS (SX (aS (xs:=[(0,.tmp 19),(1,.tmp 21),(2,.tmp 23),(4,.tmp 24),(5,.const (vI 3))]) (cs:=(bV.cells (bV.mk (ag.mk (aJ.mk (some ⟨A,0,none⟩) 1 1)) (aJ.mk (some ⟨w,0,none⟩) 1 1) (aJ.mk (some ⟨y,0,none⟩) 1 1) (I.mk 0 0) (I.mk 1 1) 3 0 0))) U U (aT xU U)) U U)<|RD K0 5 U ?_
   exact bI IR (w,y,z,DA,DN) trivial [0,1,2,3,4,5,6,7] U U U
  refine dp (V:=Nat×Nat×Nat) (fun (AC,AH,T)=>True) (fun (AC,AH,T)=>[(0,(vB false)),(1,(vP C)),(2,(vI (bE (ah.mk ([(ab.mk 1 (I.mk 1000 1000) (I.mk 0 0) (I.mk 0 0) 0 0)]) ([(aj.mk 0 1 (ae.mk 0 (I.mk 0 0)) 0 1)]) ([]) (ae.mk 0 (I.mk 0 0)) 0) 0 0))),(3,(vI (bB (ah.mk ([(ab.mk 1 (I.mk 1000 1000) (I.mk 0 0) (I.mk 0 0) 0 0)]) ([(aj.mk 0 1 (ae.mk 0 (I.mk 0 0)) 0 1)]) ([]) (ae.mk 0 (I.mk 0 0)) 0) 0 0))),(6,(vA (I.cells (I.mk 1000 1000)))),(7,(vA (ab.cells (ab.mk 1 (I.mk 1000 1000) (I.mk 0 0) (I.mk 0 0) 0 0)))),(8,(vS (some ⟨A,0,none⟩) 1 1)),(9,(vA (ag.cells (ag.mk (aJ.mk (some ⟨A,0,none⟩) 1 1))))),(10,(vT [(vI (bE (ah.mk ([(ab.mk 1 (I.mk 1000 1000) (I.mk 0 0) (I.mk 0 0) 0 0)]) ([(aj.mk 0 1 (ae.mk 0 (I.mk 0 0)) 0 1)]) ([]) (ae.mk 0 (I.mk 0 0)) 0) 0 0)),(vI (bB (ah.mk ([(ab.mk 1 (I.mk 1000 1000) (I.mk 0 0) (I.mk 0 0) 0 0)]) ([(aj.mk 0 1 (ae.mk 0 (I.mk 0 0)) 0 1)]) ([]) (ae.mk 0 (I.mk 0 0)) 0) 0 0))])),(11,(vA (ag.cells (ag.mk (aJ.mk (some ⟨A,0,none⟩) 1 1))))),(12,(vA (aj.cells (aj.mk 0 1 (ae.mk 0 (I.mk 0 0)) 0 1)))),(13,(vS (some ⟨B,0,none⟩) 1 1)),(14,(vA (aW.cells (aW.mk (ag.mk (aJ.mk (some ⟨A,0,none⟩) 1 1)) (aJ.mk (some ⟨B,0,none⟩) 1 1) (aJ.mk none 0 0) (ae.mk 0 (I.mk 0 0)) 0)))),(15,(vT [(vI (bE (ah.mk ([(ab.mk 1 (I.mk 1000 1000) (I.mk 0 0) (I.mk 0 0) 0 0)]) ([(aj.mk 0 1 (ae.mk 0 (I.mk 0 0)) 0 1)]) ([]) (ae.mk 0 (I.mk 0 0)) 0) 0 0)),(vI (bB (ah.mk ([(ab.mk 1 (I.mk 1000 1000) (I.mk 0 0) (I.mk 0 0) 0 0)]) ([(aj.mk 0 1 (ae.mk 0 (I.mk 0 0)) 0 1)]) ([]) (ae.mk 0 (I.mk 0 0)) 0) 0 0))])),(16,(vI (bE (ah.mk ([(ab.mk 1 (I.mk 1000 1000) (I.mk 0 0) (I.mk 0 0) 0 0)]) ([(aj.mk 0 1 (ae.mk 0 (I.mk 0 0)) 0 1)]) ([]) (ae.mk 0 (I.mk 0 0)) 0) 0 0))),(17,(vI (bB (ah.mk ([(ab.mk 1 (I.mk 1000 1000) (I.mk 0 0) (I.mk 0 0) 0 0)]) ([(aj.mk 0 1 (ae.mk 0 (I.mk 0 0)) 0 1)]) ([]) (ae.mk 0 (I.mk 0 0)) 0) 0 0))),(25,(vA (bV.cells (bV.mk (ag.mk (aJ.mk (some ⟨A,0,none⟩) 1 1)) (aJ.mk (some ⟨AC,0,none⟩) 1 1) (aJ.mk (some ⟨AH,0,none⟩) 1 1) (I.mk 0 0) (I.mk 1 1) 3 0 0)))),(26,(vS (some ⟨T,0,none⟩) 1 1))]) (fun (AC,AH,T)=>[(bm T 3 [(vI 0)]),(bm AH 79 (aZ.cells (aZ.mk (I.mk 0 0) 0 1 true))),(bm AC 77 (bG.cells (bG.mk (I.mk 0 0) 0))),(bm B 75 (aj.cells (aj.mk 0 1 (ae.mk 0 (I.mk 0 0)) 0 1))),(bm C 24 (ag.cells (ag.mk (aJ.mk (some ⟨A,0,none⟩) 1 1)))),(bm A 73 (ab.cells (ab.mk 1 (I.mk 1000 1000) (I.mk 0 0) (I.mk 0 0) 0 0)))]) 8 [8,9,10,11,12,13,14,15] (fun KX=>?_) ?_
  rotate_left 1
  ·rintro ⟨AC,AH,T⟩-
   refine dz [8,13] kr (bD ?_<|bD ?_<|en)
   rotate_left 1
   ·refine c_ U U U fun T132 K2=>AL U cv fun MA=>RD K2 4 U ?_
    exact bI Ib (AC,AH,T,MA) trivial [0,1,2,3,4,5,6] U U U
   refine c_ U U U fun T130 K1=>bX (xs:=[.tmp 26]) (cs:=[(vS (some ⟨T,0,none⟩) 1 1)]) U iO nN U U U U (by simp [Value.cells]) U U fun L_=>RD K1 4 U ?_
   exact bI KW (AC,AH,T,L_) trivial [0,1,2,3,4,5,6] U U U
  refine dp (V:=Nat×Nat×Nat) (fun (Di,Do,EI)=>True) (fun (Di,Do,EI)=>[(0,(vB false)),(1,(vP C)),(2,(vI (bE (ah.mk ([(ab.mk 1 (I.mk 1000 1000) (I.mk 0 0) (I.mk 0 0) 0 0)]) ([(aj.mk 0 1 (ae.mk 0 (I.mk 0 0)) 0 1)]) ([]) (ae.mk 0 (I.mk 0 0)) 0) 0 0))),(3,(vI (bB (ah.mk ([(ab.mk 1 (I.mk 1000 1000) (I.mk 0 0) (I.mk 0 0) 0 0)]) ([(aj.mk 0 1 (ae.mk 0 (I.mk 0 0)) 0 1)]) ([]) (ae.mk 0 (I.mk 0 0)) 0) 0 0))),(4,(vP EI)),(6,(vA (I.cells (I.mk 1000 1000)))),(7,(vA (ab.cells (ab.mk 1 (I.mk 1000 1000) (I.mk 0 0) (I.mk 0 0) 0 0)))),(8,(vS (some ⟨A,0,none⟩) 1 1)),(9,(vA (ag.cells (ag.mk (aJ.mk (some ⟨A,0,none⟩) 1 1))))),(10,(vT [(vI (bE (ah.mk ([(ab.mk 1 (I.mk 1000 1000) (I.mk 0 0) (I.mk 0 0) 0 0)]) ([(aj.mk 0 1 (ae.mk 0 (I.mk 0 0)) 0 1)]) ([]) (ae.mk 0 (I.mk 0 0)) 0) 0 0)),(vI (bB (ah.mk ([(ab.mk 1 (I.mk 1000 1000) (I.mk 0 0) (I.mk 0 0) 0 0)]) ([(aj.mk 0 1 (ae.mk 0 (I.mk 0 0)) 0 1)]) ([]) (ae.mk 0 (I.mk 0 0)) 0) 0 0))])),(11,(vA (ag.cells (ag.mk (aJ.mk (some ⟨A,0,none⟩) 1 1))))),(12,(vA (aj.cells (aj.mk 0 1 (ae.mk 0 (I.mk 0 0)) 0 1)))),(13,(vS (some ⟨B,0,none⟩) 1 1)),(14,(vA (aW.cells (aW.mk (ag.mk (aJ.mk (some ⟨A,0,none⟩) 1 1)) (aJ.mk (some ⟨B,0,none⟩) 1 1) (aJ.mk none 0 0) (ae.mk 0 (I.mk 0 0)) 0)))),(15,(vT [(vI (bE (ah.mk ([(ab.mk 1 (I.mk 1000 1000) (I.mk 0 0) (I.mk 0 0) 0 0)]) ([(aj.mk 0 1 (ae.mk 0 (I.mk 0 0)) 0 1)]) ([]) (ae.mk 0 (I.mk 0 0)) 0) 0 0)),(vI (bB (ah.mk ([(ab.mk 1 (I.mk 1000 1000) (I.mk 0 0) (I.mk 0 0) 0 0)]) ([(aj.mk 0 1 (ae.mk 0 (I.mk 0 0)) 0 1)]) ([]) (ae.mk 0 (I.mk 0 0)) 0) 0 0))])),(16,(vI (bE (ah.mk ([(ab.mk 1 (I.mk 1000 1000) (I.mk 0 0) (I.mk 0 0) 0 0)]) ([(aj.mk 0 1 (ae.mk 0 (I.mk 0 0)) 0 1)]) ([]) (ae.mk 0 (I.mk 0 0)) 0) 0 0))),(17,(vI (bB (ah.mk ([(ab.mk 1 (I.mk 1000 1000) (I.mk 0 0) (I.mk 0 0) 0 0)]) ([(aj.mk 0 1 (ae.mk 0 (I.mk 0 0)) 0 1)]) ([]) (ae.mk 0 (I.mk 0 0)) 0) 0 0))),(25,(vA (bV.cells (bV.mk (ag.mk (aJ.mk (some ⟨A,0,none⟩) 1 1)) (aJ.mk (some ⟨Di,0,none⟩) 1 1) (aJ.mk (some ⟨Do,0,none⟩) 1 1) (I.mk 0 0) (I.mk 1 1) 3 0 0))))]) (fun (Di,Do,EI)=>[(bm EI 28 (I.cells (I.mk 0 0))),(bm Do 79 (aZ.cells (aZ.mk (I.mk 0 0) 0 1 true))),(bm Di 77 (bG.cells (bG.mk (I.mk 0 0) 0))),(bm B 75 (aj.cells (aj.mk 0 1 (ae.mk 0 (I.mk 0 0)) 0 1))),(bm C 24 (ag.cells (ag.mk (aJ.mk (some ⟨A,0,none⟩) 1 1)))),(bm A 73 (ab.cells (ab.mk 1 (I.mk 1000 1000) (I.mk 0 0) (I.mk 0 0) 0 0)))]) 8 [7,8,9,10,11,12,14,15] (fun KY=>?_) ?_
  rotate_left 1
  ·rintro ⟨Di,Do,EI⟩-
   refine N1 7<|c_ U U U fun T138 K3=>bX (xs:=[.const (vI 0)]) (cs:=[(vI 0)]) U cK g6 U U U U (by simp [Value.cells]) U U fun MB=>RD K3 4 U ?_
   exact bI Ib (Di,Do,MB,EI) trivial [1,0,2,3,4,5,6] U U U
  refine dp (V:=Nat×Nat×Nat×Nat) (fun (AA,W,Y,AO)=>True) (fun (AA,W,Y,AO)=>[(0,(vB false)),(1,(vP C)),(2,(vI (bE (ah.mk ([(ab.mk 1 (I.mk 1000 1000) (I.mk 0 0) (I.mk 0 0) 0 0)]) ([(aj.mk 0 1 (ae.mk 0 (I.mk 0 0)) 0 1)]) ([]) (ae.mk 0 (I.mk 0 0)) 0) 0 0))),(3,(vI (bB (ah.mk ([(ab.mk 1 (I.mk 1000 1000) (I.mk 0 0) (I.mk 0 0) 0 0)]) ([(aj.mk 0 1 (ae.mk 0 (I.mk 0 0)) 0 1)]) ([]) (ae.mk 0 (I.mk 0 0)) 0) 0 0))),(6,(vA (I.cells (I.mk 1000 1000)))),(7,(vA (ab.cells (ab.mk 1 (I.mk 1000 1000) (I.mk 0 0) (I.mk 0 0) 0 0)))),(8,(vS (some ⟨A,0,none⟩) 1 1)),(9,(vA (ag.cells (ag.mk (aJ.mk (some ⟨A,0,none⟩) 1 1))))),(10,(vT [(vI (bE (ah.mk ([(ab.mk 1 (I.mk 1000 1000) (I.mk 0 0) (I.mk 0 0) 0 0)]) ([(aj.mk 0 1 (ae.mk 0 (I.mk 0 0)) 0 1)]) ([]) (ae.mk 0 (I.mk 0 0)) 0) 0 0)),(vI (bB (ah.mk ([(ab.mk 1 (I.mk 1000 1000) (I.mk 0 0) (I.mk 0 0) 0 0)]) ([(aj.mk 0 1 (ae.mk 0 (I.mk 0 0)) 0 1)]) ([]) (ae.mk 0 (I.mk 0 0)) 0) 0 0))])),(11,(vA (ag.cells (ag.mk (aJ.mk (some ⟨A,0,none⟩) 1 1))))),(12,(vA (aj.cells (aj.mk 0 1 (ae.mk 0 (I.mk 0 0)) 0 1)))),(13,(vS (some ⟨B,0,none⟩) 1 1)),(14,(vA (aW.cells (aW.mk (ag.mk (aJ.mk (some ⟨A,0,none⟩) 1 1)) (aJ.mk (some ⟨B,0,none⟩) 1 1) (aJ.mk none 0 0) (ae.mk 0 (I.mk 0 0)) 0)))),(15,(vT [(vI (bE (ah.mk ([(ab.mk 1 (I.mk 1000 1000) (I.mk 0 0) (I.mk 0 0) 0 0)]) ([(aj.mk 0 1 (ae.mk 0 (I.mk 0 0)) 0 1)]) ([]) (ae.mk 0 (I.mk 0 0)) 0) 0 0)),(vI (bB (ah.mk ([(ab.mk 1 (I.mk 1000 1000) (I.mk 0 0) (I.mk 0 0) 0 0)]) ([(aj.mk 0 1 (ae.mk 0 (I.mk 0 0)) 0 1)]) ([]) (ae.mk 0 (I.mk 0 0)) 0) 0 0))])),(16,(vI (bE (ah.mk ([(ab.mk 1 (I.mk 1000 1000) (I.mk 0 0) (I.mk 0 0) 0 0)]) ([(aj.mk 0 1 (ae.mk 0 (I.mk 0 0)) 0 1)]) ([]) (ae.mk 0 (I.mk 0 0)) 0) 0 0))),(17,(vI (bB (ah.mk ([(ab.mk 1 (I.mk 1000 1000) (I.mk 0 0) (I.mk 0 0) 0 0)]) ([(aj.mk 0 1 (ae.mk 0 (I.mk 0 0)) 0 1)]) ([]) (ae.mk 0 (I.mk 0 0)) 0) 0 0))),(19,(vA (ag.cells (ag.mk (aJ.mk (some ⟨A,0,none⟩) 1 1))))),(21,(vS (some ⟨AA,0,none⟩) 1 1)),(23,(vS (some ⟨W,0,none⟩) 1 1)),(24,(vA (I.cells (I.mk 1 1)))),(26,(vS (some ⟨Y,0,none⟩) 1 1)),(27,(vS (some ⟨AO,0,none⟩) 1 1))]) (fun (AA,W,Y,AO)=>[(bm AO 67 [(vS (some ⟨Y,0,none⟩) 1 1)]),(bm Y 3 [(vI 0)]),(bm W 79 (aZ.cells (aZ.mk (I.mk 0 0) 0 1 true))),(bm AA 77 (bG.cells (bG.mk (I.mk 0 0) 0))),(bm B 75 (aj.cells (aj.mk 0 1 (ae.mk 0 (I.mk 0 0)) 0 1))),(bm C 24 (ag.cells (ag.mk (aJ.mk (some ⟨A,0,none⟩) 1 1)))),(bm A 73 (ab.cells (ab.mk 1 (I.mk 1000 1000) (I.mk 0 0) (I.mk 0 0) 0 0)))]) 8 [6,9,10,11,12,13,14,15] (fun Id=>?_) ?_
  rotate_left 1
  ·rintro ⟨AA,W,Y,AO⟩-
   refine dz [6,13] kr (bD ?_<|bD ?_<|en)
   rotate_left 1
   ·refine c_ U U U fun T146 K5=>AL U cv fun MC=>RD K5 5 U ?_
    exact bI FS (AA,W,Y,AO,MC) trivial [0,1,2,3,4,5,6,7] U U U
   refine c_ U U U fun T145 K4=>rS (SX (aS (xs:=[(0,.tmp 19),(1,.tmp 21),(2,.tmp 23),(4,.tmp 24),(5,.const (vI 3))]) (cs:=(bV.cells (bV.mk (ag.mk (aJ.mk (some ⟨A,0,none⟩) 1 1)) (aJ.mk (some ⟨AA,0,none⟩) 1 1) (aJ.mk (some ⟨W,0,none⟩) 1 1) (I.mk 0 0) (I.mk 1 1) 3 0 0))) U U (aT xU U)) U U)<|RD K4 4 U ?_
   exact bI KW (AA,W,Y,AO) trivial [0,1,2,3,4,5,6] U U U
  refine dp (V:=Nat×Nat×Nat×Nat) (fun (Z,a,b,AR)=>True) (fun (Z,a,b,AR)=>[(0,(vB false)),(1,(vP C)),(2,(vI (bE (ah.mk ([(ab.mk 1 (I.mk 1000 1000) (I.mk 0 0) (I.mk 0 0) 0 0)]) ([(aj.mk 0 1 (ae.mk 0 (I.mk 0 0)) 0 1)]) ([]) (ae.mk 0 (I.mk 0 0)) 0) 0 0))),(3,(vI (bB (ah.mk ([(ab.mk 1 (I.mk 1000 1000) (I.mk 0 0) (I.mk 0 0) 0 0)]) ([(aj.mk 0 1 (ae.mk 0 (I.mk 0 0)) 0 1)]) ([]) (ae.mk 0 (I.mk 0 0)) 0) 0 0))),(4,(vP AR)),(6,(vA (I.cells (I.mk 1000 1000)))),(7,(vA (ab.cells (ab.mk 1 (I.mk 1000 1000) (I.mk 0 0) (I.mk 0 0) 0 0)))),(8,(vS (some ⟨A,0,none⟩) 1 1)),(9,(vA (ag.cells (ag.mk (aJ.mk (some ⟨A,0,none⟩) 1 1))))),(10,(vT [(vI (bE (ah.mk ([(ab.mk 1 (I.mk 1000 1000) (I.mk 0 0) (I.mk 0 0) 0 0)]) ([(aj.mk 0 1 (ae.mk 0 (I.mk 0 0)) 0 1)]) ([]) (ae.mk 0 (I.mk 0 0)) 0) 0 0)),(vI (bB (ah.mk ([(ab.mk 1 (I.mk 1000 1000) (I.mk 0 0) (I.mk 0 0) 0 0)]) ([(aj.mk 0 1 (ae.mk 0 (I.mk 0 0)) 0 1)]) ([]) (ae.mk 0 (I.mk 0 0)) 0) 0 0))])),(11,(vA (ag.cells (ag.mk (aJ.mk (some ⟨A,0,none⟩) 1 1))))),(12,(vA (aj.cells (aj.mk 0 1 (ae.mk 0 (I.mk 0 0)) 0 1)))),(13,(vS (some ⟨B,0,none⟩) 1 1)),(14,(vA (aW.cells (aW.mk (ag.mk (aJ.mk (some ⟨A,0,none⟩) 1 1)) (aJ.mk (some ⟨B,0,none⟩) 1 1) (aJ.mk none 0 0) (ae.mk 0 (I.mk 0 0)) 0)))),(15,(vT [(vI (bE (ah.mk ([(ab.mk 1 (I.mk 1000 1000) (I.mk 0 0) (I.mk 0 0) 0 0)]) ([(aj.mk 0 1 (ae.mk 0 (I.mk 0 0)) 0 1)]) ([]) (ae.mk 0 (I.mk 0 0)) 0) 0 0)),(vI (bB (ah.mk ([(ab.mk 1 (I.mk 1000 1000) (I.mk 0 0) (I.mk 0 0) 0 0)]) ([(aj.mk 0 1 (ae.mk 0 (I.mk 0 0)) 0 1)]) ([]) (ae.mk 0 (I.mk 0 0)) 0) 0 0))])),(16,(vI (bE (ah.mk ([(ab.mk 1 (I.mk 1000 1000) (I.mk 0 0) (I.mk 0 0) 0 0)]) ([(aj.mk 0 1 (ae.mk 0 (I.mk 0 0)) 0 1)]) ([]) (ae.mk 0 (I.mk 0 0)) 0) 0 0))),(17,(vI (bB (ah.mk ([(ab.mk 1 (I.mk 1000 1000) (I.mk 0 0) (I.mk 0 0) 0 0)]) ([(aj.mk 0 1 (ae.mk 0 (I.mk 0 0)) 0 1)]) ([]) (ae.mk 0 (I.mk 0 0)) 0) 0 0))),(19,(vA (ag.cells (ag.mk (aJ.mk (some ⟨A,0,none⟩) 1 1))))),(21,(vS (some ⟨Z,0,none⟩) 1 1)),(23,(vS (some ⟨a,0,none⟩) 1 1)),(24,(vA (I.cells (I.mk 1 1)))),(26,(vS (some ⟨b,0,none⟩) 1 1))]) (fun (Z,a,b,AR)=>[(bm AR 28 (I.cells (I.mk 0 0))),(bm b 3 [(vI 0)]),(bm a 79 (aZ.cells (aZ.mk (I.mk 0 0) 0 1 true))),(bm Z 77 (bG.cells (bG.mk (I.mk 0 0) 0))),(bm B 75 (aj.cells (aj.mk 0 1 (ae.mk 0 (I.mk 0 0)) 0 1))),(bm C 24 (ag.cells (ag.mk (aJ.mk (some ⟨A,0,none⟩) 1 1)))),(bm A 73 (ab.cells (ab.mk 1 (I.mk 1000 1000) (I.mk 0 0) (I.mk 0 0) 0 0)))]) 8 [6,8,9,10,11,12,14,15] (fun Fd=>?_) ?_
  rotate_left 1
  ·rintro ⟨Z,a,b,AR⟩-
   refine dz [6,8] kr (bD ?_<|bD ?_<|en)
   rotate_left 1
   ·refine c_ U U U fun T154 K7=>bX (xs:=[.tmp 26]) (cs:=[(vS (some ⟨b,0,none⟩) 1 1)]) U iO nN U U U U (by simp [Value.cells]) U U fun MD=>RD K7 5 U ?_
    exact bI FS (Z,a,b,MD,AR) trivial [1,0,2,3,4,5,6,7] U U U
   refine c_ U U U fun T153 K6=>rS (SX (aS (xs:=[(0,.tmp 19),(1,.tmp 21),(2,.tmp 23),(4,.tmp 24),(5,.const (vI 3))]) (cs:=(bV.cells (bV.mk (ag.mk (aJ.mk (some ⟨A,0,none⟩) 1 1)) (aJ.mk (some ⟨Z,0,none⟩) 1 1) (aJ.mk (some ⟨a,0,none⟩) 1 1) (I.mk 0 0) (I.mk 1 1) 3 0 0))) U U (aT xU U)) U U)<|RD K6 4 U ?_
   exact bI Ib (Z,a,b,AR) trivial [0,1,2,3,4,5,6] U U U
  refine dp (V:=Nat×Nat×Nat×Nat) (fun (EQ,Ak,ER,ET)=>True) (fun (EQ,Ak,ER,ET)=>[(0,(vB false)),(1,(vP C)),(2,(vI (bE (ah.mk ([(ab.mk 1 (I.mk 1000 1000) (I.mk 0 0) (I.mk 0 0) 0 0)]) ([(aj.mk 0 1 (ae.mk 0 (I.mk 0 0)) 0 1)]) ([]) (ae.mk 0 (I.mk 0 0)) 0) 0 0))),(3,(vI (bB (ah.mk ([(ab.mk 1 (I.mk 1000 1000) (I.mk 0 0) (I.mk 0 0) 0 0)]) ([(aj.mk 0 1 (ae.mk 0 (I.mk 0 0)) 0 1)]) ([]) (ae.mk 0 (I.mk 0 0)) 0) 0 0))),(4,(vP ET)),(6,(vA (I.cells (I.mk 1000 1000)))),(7,(vA (ab.cells (ab.mk 1 (I.mk 1000 1000) (I.mk 0 0) (I.mk 0 0) 0 0)))),(8,(vS (some ⟨A,0,none⟩) 1 1)),(9,(vA (ag.cells (ag.mk (aJ.mk (some ⟨A,0,none⟩) 1 1))))),(10,(vT [(vI (bE (ah.mk ([(ab.mk 1 (I.mk 1000 1000) (I.mk 0 0) (I.mk 0 0) 0 0)]) ([(aj.mk 0 1 (ae.mk 0 (I.mk 0 0)) 0 1)]) ([]) (ae.mk 0 (I.mk 0 0)) 0) 0 0)),(vI (bB (ah.mk ([(ab.mk 1 (I.mk 1000 1000) (I.mk 0 0) (I.mk 0 0) 0 0)]) ([(aj.mk 0 1 (ae.mk 0 (I.mk 0 0)) 0 1)]) ([]) (ae.mk 0 (I.mk 0 0)) 0) 0 0))])),(11,(vA (ag.cells (ag.mk (aJ.mk (some ⟨A,0,none⟩) 1 1))))),(12,(vA (aj.cells (aj.mk 0 1 (ae.mk 0 (I.mk 0 0)) 0 1)))),(13,(vS (some ⟨B,0,none⟩) 1 1)),(14,(vA (aW.cells (aW.mk (ag.mk (aJ.mk (some ⟨A,0,none⟩) 1 1)) (aJ.mk (some ⟨B,0,none⟩) 1 1) (aJ.mk none 0 0) (ae.mk 0 (I.mk 0 0)) 0)))),(15,(vT [(vI (bE (ah.mk ([(ab.mk 1 (I.mk 1000 1000) (I.mk 0 0) (I.mk 0 0) 0 0)]) ([(aj.mk 0 1 (ae.mk 0 (I.mk 0 0)) 0 1)]) ([]) (ae.mk 0 (I.mk 0 0)) 0) 0 0)),(vI (bB (ah.mk ([(ab.mk 1 (I.mk 1000 1000) (I.mk 0 0) (I.mk 0 0) 0 0)]) ([(aj.mk 0 1 (ae.mk 0 (I.mk 0 0)) 0 1)]) ([]) (ae.mk 0 (I.mk 0 0)) 0) 0 0))])),(16,(vI (bE (ah.mk ([(ab.mk 1 (I.mk 1000 1000) (I.mk 0 0) (I.mk 0 0) 0 0)]) ([(aj.mk 0 1 (ae.mk 0 (I.mk 0 0)) 0 1)]) ([]) (ae.mk 0 (I.mk 0 0)) 0) 0 0))),(17,(vI (bB (ah.mk ([(ab.mk 1 (I.mk 1000 1000) (I.mk 0 0) (I.mk 0 0) 0 0)]) ([(aj.mk 0 1 (ae.mk 0 (I.mk 0 0)) 0 1)]) ([]) (ae.mk 0 (I.mk 0 0)) 0) 0 0))),(19,(vA (ag.cells (ag.mk (aJ.mk (some ⟨A,0,none⟩) 1 1))))),(21,(vS (some ⟨EQ,0,none⟩) 1 1)),(22,(vA (aZ.cells (aZ.mk (I.mk 0 0) 0 1 true)))),(24,(vA (I.cells (I.mk 1 1)))),(26,(vS (some ⟨Ak,0,none⟩) 1 1)),(27,(vS (some ⟨ER,0,none⟩) 1 1))]) (fun (EQ,Ak,ER,ET)=>[(bm ET 28 (I.cells (I.mk 0 0))),(bm ER 67 [(vS (some ⟨Ak,0,none⟩) 1 1)]),(bm Ak 3 [(vI 0)]),(bm EQ 77 (bG.cells (bG.mk (I.mk 0 0) 0))),(bm B 75 (aj.cells (aj.mk 0 1 (ae.mk 0 (I.mk 0 0)) 0 1))),(bm C 24 (ag.cells (ag.mk (aJ.mk (some ⟨A,0,none⟩) 1 1)))),(bm A 73 (ab.cells (ab.mk 1 (I.mk 1000 1000) (I.mk 0 0) (I.mk 0 0) 0 0)))]) 8 [4,6,9,10,11,12,14,15] (fun If=>?_) ?_
  rotate_left 1
  ·rintro ⟨EQ,Ak,ER,ET⟩-
   refine N1 4<|c_ U U U fun T161 K8=>bX (xs:=[.tmp 22]) (cs:=(aZ.cells (aZ.mk (I.mk 0 0) 0 1 true))) U lu nB U U U U (by simp [Value.cells,aZ.aq]) U U fun ME=>RD K8 5 U ?_
   exact bI FS (EQ,ME,Ak,ER,ET) trivial [1,2,3,0,4,5,6,7] U U U
  refine dp (V:=Nat×Nat×Nat×Nat) (fun (Eq,Ay,E2,E5)=>True) (fun (Eq,Ay,E2,E5)=>[(0,(vB false)),(1,(vP C)),(2,(vI (bE (ah.mk ([(ab.mk 1 (I.mk 1000 1000) (I.mk 0 0) (I.mk 0 0) 0 0)]) ([(aj.mk 0 1 (ae.mk 0 (I.mk 0 0)) 0 1)]) ([]) (ae.mk 0 (I.mk 0 0)) 0) 0 0))),(3,(vI (bB (ah.mk ([(ab.mk 1 (I.mk 1000 1000) (I.mk 0 0) (I.mk 0 0) 0 0)]) ([(aj.mk 0 1 (ae.mk 0 (I.mk 0 0)) 0 1)]) ([]) (ae.mk 0 (I.mk 0 0)) 0) 0 0))),(4,(vP E5)),(6,(vA (I.cells (I.mk 1000 1000)))),(7,(vA (ab.cells (ab.mk 1 (I.mk 1000 1000) (I.mk 0 0) (I.mk 0 0) 0 0)))),(8,(vS (some ⟨A,0,none⟩) 1 1)),(9,(vA (ag.cells (ag.mk (aJ.mk (some ⟨A,0,none⟩) 1 1))))),(10,(vT [(vI (bE (ah.mk ([(ab.mk 1 (I.mk 1000 1000) (I.mk 0 0) (I.mk 0 0) 0 0)]) ([(aj.mk 0 1 (ae.mk 0 (I.mk 0 0)) 0 1)]) ([]) (ae.mk 0 (I.mk 0 0)) 0) 0 0)),(vI (bB (ah.mk ([(ab.mk 1 (I.mk 1000 1000) (I.mk 0 0) (I.mk 0 0) 0 0)]) ([(aj.mk 0 1 (ae.mk 0 (I.mk 0 0)) 0 1)]) ([]) (ae.mk 0 (I.mk 0 0)) 0) 0 0))])),(11,(vA (ag.cells (ag.mk (aJ.mk (some ⟨A,0,none⟩) 1 1))))),(12,(vA (aj.cells (aj.mk 0 1 (ae.mk 0 (I.mk 0 0)) 0 1)))),(13,(vS (some ⟨B,0,none⟩) 1 1)),(14,(vA (aW.cells (aW.mk (ag.mk (aJ.mk (some ⟨A,0,none⟩) 1 1)) (aJ.mk (some ⟨B,0,none⟩) 1 1) (aJ.mk none 0 0) (ae.mk 0 (I.mk 0 0)) 0)))),(15,(vT [(vI (bE (ah.mk ([(ab.mk 1 (I.mk 1000 1000) (I.mk 0 0) (I.mk 0 0) 0 0)]) ([(aj.mk 0 1 (ae.mk 0 (I.mk 0 0)) 0 1)]) ([]) (ae.mk 0 (I.mk 0 0)) 0) 0 0)),(vI (bB (ah.mk ([(ab.mk 1 (I.mk 1000 1000) (I.mk 0 0) (I.mk 0 0) 0 0)]) ([(aj.mk 0 1 (ae.mk 0 (I.mk 0 0)) 0 1)]) ([]) (ae.mk 0 (I.mk 0 0)) 0) 0 0))])),(16,(vI (bE (ah.mk ([(ab.mk 1 (I.mk 1000 1000) (I.mk 0 0) (I.mk 0 0) 0 0)]) ([(aj.mk 0 1 (ae.mk 0 (I.mk 0 0)) 0 1)]) ([]) (ae.mk 0 (I.mk 0 0)) 0) 0 0))),(17,(vI (bB (ah.mk ([(ab.mk 1 (I.mk 1000 1000) (I.mk 0 0) (I.mk 0 0) 0 0)]) ([(aj.mk 0 1 (ae.mk 0 (I.mk 0 0)) 0 1)]) ([]) (ae.mk 0 (I.mk 0 0)) 0) 0 0))),(19,(vA (ag.cells (ag.mk (aJ.mk (some ⟨A,0,none⟩) 1 1))))),(20,(vA (bG.cells (bG.mk (I.mk 0 0) 0)))),(23,(vS (some ⟨Eq,0,none⟩) 1 1)),(24,(vA (I.cells (I.mk 1 1)))),(26,(vS (some ⟨Ay,0,none⟩) 1 1)),(27,(vS (some ⟨E2,0,none⟩) 1 1))]) (fun (Eq,Ay,E2,E5)=>[(bm E5 28 (I.cells (I.mk 0 0))),(bm E2 67 [(vS (some ⟨Ay,0,none⟩) 1 1)]),(bm Ay 3 [(vI 0)]),(bm Eq 79 (aZ.cells (aZ.mk (I.mk 0 0) 0 1 true))),(bm B 75 (aj.cells (aj.mk 0 1 (ae.mk 0 (I.mk 0 0)) 0 1))),(bm C 24 (ag.cells (ag.mk (aJ.mk (some ⟨A,0,none⟩) 1 1)))),(bm A 73 (ab.cells (ab.mk 1 (I.mk 1000 1000) (I.mk 0 0) (I.mk 0 0) 0 0)))]) 8 [2,6,9,10,11,12,14,15] (fun In=>?_) ?_
  rotate_left 1
  ·rintro ⟨Eq,Ay,E2,E5⟩-
   refine N1 2<|c_ U U U fun T168 K9=>bX (xs:=[.tmp 20]) (cs:=(bG.cells (bG.mk (I.mk 0 0) 0))) U lJ o8 U U U U (by simp [Value.cells,bG.aq]) U U fun MF=>RD K9 5 U ?_
   exact bI FS (MF,Eq,Ay,E2,E5) trivial [1,2,3,4,0,5,6,7] U U U
  refine dp (V:=Nat×Nat) (fun (A0,A1)=>True) (fun (A0,A1)=>[(0,(vB false)),(1,(vP C)),(2,(vI (bE (ah.mk ([(ab.mk 1 (I.mk 1000 1000) (I.mk 0 0) (I.mk 0 0) 0 0)]) ([(aj.mk 0 1 (ae.mk 0 (I.mk 0 0)) 0 1)]) ([]) (ae.mk 0 (I.mk 0 0)) 0) 0 0))),(3,(vI (bB (ah.mk ([(ab.mk 1 (I.mk 1000 1000) (I.mk 0 0) (I.mk 0 0) 0 0)]) ([(aj.mk 0 1 (ae.mk 0 (I.mk 0 0)) 0 1)]) ([]) (ae.mk 0 (I.mk 0 0)) 0) 0 0))),(6,(vA (I.cells (I.mk 1000 1000)))),(7,(vA (ab.cells (ab.mk 1 (I.mk 1000 1000) (I.mk 0 0) (I.mk 0 0) 0 0)))),(8,(vS (some ⟨A,0,none⟩) 1 1)),(9,(vA (ag.cells (ag.mk (aJ.mk (some ⟨A,0,none⟩) 1 1))))),(10,(vT [(vI (bE (ah.mk ([(ab.mk 1 (I.mk 1000 1000) (I.mk 0 0) (I.mk 0 0) 0 0)]) ([(aj.mk 0 1 (ae.mk 0 (I.mk 0 0)) 0 1)]) ([]) (ae.mk 0 (I.mk 0 0)) 0) 0 0)),(vI (bB (ah.mk ([(ab.mk 1 (I.mk 1000 1000) (I.mk 0 0) (I.mk 0 0) 0 0)]) ([(aj.mk 0 1 (ae.mk 0 (I.mk 0 0)) 0 1)]) ([]) (ae.mk 0 (I.mk 0 0)) 0) 0 0))])),(11,(vA (ag.cells (ag.mk (aJ.mk (some ⟨A,0,none⟩) 1 1))))),(12,(vA (aj.cells (aj.mk 0 1 (ae.mk 0 (I.mk 0 0)) 0 1)))),(13,(vS (some ⟨B,0,none⟩) 1 1)),(14,(vA (aW.cells (aW.mk (ag.mk (aJ.mk (some ⟨A,0,none⟩) 1 1)) (aJ.mk (some ⟨B,0,none⟩) 1 1) (aJ.mk none 0 0) (ae.mk 0 (I.mk 0 0)) 0)))),(15,(vT [(vI (bE (ah.mk ([(ab.mk 1 (I.mk 1000 1000) (I.mk 0 0) (I.mk 0 0) 0 0)]) ([(aj.mk 0 1 (ae.mk 0 (I.mk 0 0)) 0 1)]) ([]) (ae.mk 0 (I.mk 0 0)) 0) 0 0)),(vI (bB (ah.mk ([(ab.mk 1 (I.mk 1000 1000) (I.mk 0 0) (I.mk 0 0) 0 0)]) ([(aj.mk 0 1 (ae.mk 0 (I.mk 0 0)) 0 1)]) ([]) (ae.mk 0 (I.mk 0 0)) 0) 0 0))])),(16,(vI (bE (ah.mk ([(ab.mk 1 (I.mk 1000 1000) (I.mk 0 0) (I.mk 0 0) 0 0)]) ([(aj.mk 0 1 (ae.mk 0 (I.mk 0 0)) 0 1)]) ([]) (ae.mk 0 (I.mk 0 0)) 0) 0 0))),(17,(vI (bB (ah.mk ([(ab.mk 1 (I.mk 1000 1000) (I.mk 0 0) (I.mk 0 0) 0 0)]) ([(aj.mk 0 1 (ae.mk 0 (I.mk 0 0)) 0 1)]) ([]) (ae.mk 0 (I.mk 0 0)) 0) 0 0))),(25,(vA (bV.cells (bV.mk (ag.mk (aJ.mk (some ⟨A,0,none⟩) 1 1)) (aJ.mk (some ⟨A0,0,none⟩) 1 1) (aJ.mk (some ⟨A1,0,none⟩) 1 1) (I.mk 0 0) (I.mk 1 1) 3 0 0))))]) (fun (A0,A1)=>[(bm A1 79 (aZ.cells (aZ.mk (I.mk 0 0) 0 1 true))),(bm A0 77 (bG.cells (bG.mk (I.mk 0 0) 0))),(bm B 75 (aj.cells (aj.mk 0 1 (ae.mk 0 (I.mk 0 0)) 0 1))),(bm C 24 (ag.cells (ag.mk (aJ.mk (some ⟨A,0,none⟩) 1 1)))),(bm A 73 (ab.cells (ab.mk 1 (I.mk 1000 1000) (I.mk 0 0) (I.mk 0 0) 0 0)))]) 9 [7,8,9,10,11,12,13,14,15] (fun Kp=>?_) ?_
  rotate_left 1
  ·rintro ⟨A0,A1⟩-
   refine dz [7,13] kr (bD ?_<|bD ?_<|en)
   rotate_left 1
   ·refine c_ U U U fun T175 LA=>AL U cv fun MH=>RD LA 3 U ?_
    exact bI KY (A0,A1,MH) trivial [0,1,2,3,4,5] U U U
   refine c_ U U U fun T173 K_=>bX (xs:=[.const (vI 0)]) (cs:=[(vI 0)]) U cK g6 U U U U (by simp [Value.cells]) U U fun MG=>RD K_ 3 U ?_
   exact bI KX (A0,A1,MG) trivial [0,1,2,3,4,5] U U U
  refine dp (V:=Nat×Nat×Nat) (fun (G,H,AD)=>True) (fun (G,H,AD)=>[(0,(vB false)),(1,(vP C)),(2,(vI (bE (ah.mk ([(ab.mk 1 (I.mk 1000 1000) (I.mk 0 0) (I.mk 0 0) 0 0)]) ([(aj.mk 0 1 (ae.mk 0 (I.mk 0 0)) 0 1)]) ([]) (ae.mk 0 (I.mk 0 0)) 0) 0 0))),(3,(vI (bB (ah.mk ([(ab.mk 1 (I.mk 1000 1000) (I.mk 0 0) (I.mk 0 0) 0 0)]) ([(aj.mk 0 1 (ae.mk 0 (I.mk 0 0)) 0 1)]) ([]) (ae.mk 0 (I.mk 0 0)) 0) 0 0))),(6,(vA (I.cells (I.mk 1000 1000)))),(7,(vA (ab.cells (ab.mk 1 (I.mk 1000 1000) (I.mk 0 0) (I.mk 0 0) 0 0)))),(8,(vS (some ⟨A,0,none⟩) 1 1)),(9,(vA (ag.cells (ag.mk (aJ.mk (some ⟨A,0,none⟩) 1 1))))),(10,(vT [(vI (bE (ah.mk ([(ab.mk 1 (I.mk 1000 1000) (I.mk 0 0) (I.mk 0 0) 0 0)]) ([(aj.mk 0 1 (ae.mk 0 (I.mk 0 0)) 0 1)]) ([]) (ae.mk 0 (I.mk 0 0)) 0) 0 0)),(vI (bB (ah.mk ([(ab.mk 1 (I.mk 1000 1000) (I.mk 0 0) (I.mk 0 0) 0 0)]) ([(aj.mk 0 1 (ae.mk 0 (I.mk 0 0)) 0 1)]) ([]) (ae.mk 0 (I.mk 0 0)) 0) 0 0))])),(11,(vA (ag.cells (ag.mk (aJ.mk (some ⟨A,0,none⟩) 1 1))))),(12,(vA (aj.cells (aj.mk 0 1 (ae.mk 0 (I.mk 0 0)) 0 1)))),(13,(vS (some ⟨B,0,none⟩) 1 1)),(14,(vA (aW.cells (aW.mk (ag.mk (aJ.mk (some ⟨A,0,none⟩) 1 1)) (aJ.mk (some ⟨B,0,none⟩) 1 1) (aJ.mk none 0 0) (ae.mk 0 (I.mk 0 0)) 0)))),(15,(vT [(vI (bE (ah.mk ([(ab.mk 1 (I.mk 1000 1000) (I.mk 0 0) (I.mk 0 0) 0 0)]) ([(aj.mk 0 1 (ae.mk 0 (I.mk 0 0)) 0 1)]) ([]) (ae.mk 0 (I.mk 0 0)) 0) 0 0)),(vI (bB (ah.mk ([(ab.mk 1 (I.mk 1000 1000) (I.mk 0 0) (I.mk 0 0) 0 0)]) ([(aj.mk 0 1 (ae.mk 0 (I.mk 0 0)) 0 1)]) ([]) (ae.mk 0 (I.mk 0 0)) 0) 0 0))])),(16,(vI (bE (ah.mk ([(ab.mk 1 (I.mk 1000 1000) (I.mk 0 0) (I.mk 0 0) 0 0)]) ([(aj.mk 0 1 (ae.mk 0 (I.mk 0 0)) 0 1)]) ([]) (ae.mk 0 (I.mk 0 0)) 0) 0 0))),(17,(vI (bB (ah.mk ([(ab.mk 1 (I.mk 1000 1000) (I.mk 0 0) (I.mk 0 0) 0 0)]) ([(aj.mk 0 1 (ae.mk 0 (I.mk 0 0)) 0 1)]) ([]) (ae.mk 0 (I.mk 0 0)) 0) 0 0))),(19,(vA (ag.cells (ag.mk (aJ.mk (some ⟨A,0,none⟩) 1 1))))),(21,(vS (some ⟨G,0,none⟩) 1 1)),(23,(vS (some ⟨H,0,none⟩) 1 1)),(24,(vA (I.cells (I.mk 1 1)))),(26,(vS (some ⟨AD,0,none⟩) 1 1))]) (fun (G,H,AD)=>[(bm AD 3 [(vI 0)]),(bm H 79 (aZ.cells (aZ.mk (I.mk 0 0) 0 1 true))),(bm G 77 (bG.cells (bG.mk (I.mk 0 0) 0))),(bm B 75 (aj.cells (aj.mk 0 1 (ae.mk 0 (I.mk 0 0)) 0 1))),(bm C 24 (ag.cells (ag.mk (aJ.mk (some ⟨A,0,none⟩) 1 1)))),(bm A 73 (ab.cells (ab.mk 1 (I.mk 1000 1000) (I.mk 0 0) (I.mk 0 0) 0 0)))]) 9 [6,8,9,10,11,12,13,14,15] (fun Iq=>?_) ?_
  rotate_left 1
  ·rintro ⟨G,H,AD⟩-
   refine dz [6,8,13] kr (bD ?_<|bD ?_<|bD ?_<|en)
   rotate_left 1
   ·refine c_ U U U fun T182 LC=>bX (xs:=[.tmp 26]) (cs:=[(vS (some ⟨AD,0,none⟩) 1 1)]) U iO nN U U U U (by simp [Value.cells]) U U fun MI=>RD LC 4 U ?_
    exact bI Id (G,H,AD,MI) trivial [0,1,2,3,4,5,6] U U U
   ·refine c_ U U U fun T184 LD=>AL U cv fun MJ=>RD LD 4 U ?_
    exact bI Fd (G,H,AD,MJ) trivial [0,1,2,3,4,5,6] U U U
   refine c_ U U U fun T181 LB=>rS (SX (aS (xs:=[(0,.tmp 19),(1,.tmp 21),(2,.tmp 23),(4,.tmp 24),(5,.const (vI 3))]) (cs:=(bV.cells (bV.mk (ag.mk (aJ.mk (some ⟨A,0,none⟩) 1 1)) (aJ.mk (some ⟨G,0,none⟩) 1 1) (aJ.mk (some ⟨H,0,none⟩) 1 1) (I.mk 0 0) (I.mk 1 1) 3 0 0))) U U (aT xU U)) U U)<|RD LB 3 U ?_
   exact bI KX (G,H,AD) trivial [0,1,2,3,4,5] U U U
  refine dp (V:=Nat×Nat×Nat) (fun (c,d,A2)=>True) (fun (c,d,A2)=>[(0,(vB false)),(1,(vP C)),(2,(vI (bE (ah.mk ([(ab.mk 1 (I.mk 1000 1000) (I.mk 0 0) (I.mk 0 0) 0 0)]) ([(aj.mk 0 1 (ae.mk 0 (I.mk 0 0)) 0 1)]) ([]) (ae.mk 0 (I.mk 0 0)) 0) 0 0))),(3,(vI (bB (ah.mk ([(ab.mk 1 (I.mk 1000 1000) (I.mk 0 0) (I.mk 0 0) 0 0)]) ([(aj.mk 0 1 (ae.mk 0 (I.mk 0 0)) 0 1)]) ([]) (ae.mk 0 (I.mk 0 0)) 0) 0 0))),(4,(vP A2)),(6,(vA (I.cells (I.mk 1000 1000)))),(7,(vA (ab.cells (ab.mk 1 (I.mk 1000 1000) (I.mk 0 0) (I.mk 0 0) 0 0)))),(8,(vS (some ⟨A,0,none⟩) 1 1)),(9,(vA (ag.cells (ag.mk (aJ.mk (some ⟨A,0,none⟩) 1 1))))),(10,(vT [(vI (bE (ah.mk ([(ab.mk 1 (I.mk 1000 1000) (I.mk 0 0) (I.mk 0 0) 0 0)]) ([(aj.mk 0 1 (ae.mk 0 (I.mk 0 0)) 0 1)]) ([]) (ae.mk 0 (I.mk 0 0)) 0) 0 0)),(vI (bB (ah.mk ([(ab.mk 1 (I.mk 1000 1000) (I.mk 0 0) (I.mk 0 0) 0 0)]) ([(aj.mk 0 1 (ae.mk 0 (I.mk 0 0)) 0 1)]) ([]) (ae.mk 0 (I.mk 0 0)) 0) 0 0))])),(11,(vA (ag.cells (ag.mk (aJ.mk (some ⟨A,0,none⟩) 1 1))))),(12,(vA (aj.cells (aj.mk 0 1 (ae.mk 0 (I.mk 0 0)) 0 1)))),(13,(vS (some ⟨B,0,none⟩) 1 1)),(14,(vA (aW.cells (aW.mk (ag.mk (aJ.mk (some ⟨A,0,none⟩) 1 1)) (aJ.mk (some ⟨B,0,none⟩) 1 1) (aJ.mk none 0 0) (ae.mk 0 (I.mk 0 0)) 0)))),(15,(vT [(vI (bE (ah.mk ([(ab.mk 1 (I.mk 1000 1000) (I.mk 0 0) (I.mk 0 0) 0 0)]) ([(aj.mk 0 1 (ae.mk 0 (I.mk 0 0)) 0 1)]) ([]) (ae.mk 0 (I.mk 0 0)) 0) 0 0)),(vI (bB (ah.mk ([(ab.mk 1 (I.mk 1000 1000) (I.mk 0 0) (I.mk 0 0) 0 0)]) ([(aj.mk 0 1 (ae.mk 0 (I.mk 0 0)) 0 1)]) ([]) (ae.mk 0 (I.mk 0 0)) 0) 0 0))])),(16,(vI (bE (ah.mk ([(ab.mk 1 (I.mk 1000 1000) (I.mk 0 0) (I.mk 0 0) 0 0)]) ([(aj.mk 0 1 (ae.mk 0 (I.mk 0 0)) 0 1)]) ([]) (ae.mk 0 (I.mk 0 0)) 0) 0 0))),(17,(vI (bB (ah.mk ([(ab.mk 1 (I.mk 1000 1000) (I.mk 0 0) (I.mk 0 0) 0 0)]) ([(aj.mk 0 1 (ae.mk 0 (I.mk 0 0)) 0 1)]) ([]) (ae.mk 0 (I.mk 0 0)) 0) 0 0))),(19,(vA (ag.cells (ag.mk (aJ.mk (some ⟨A,0,none⟩) 1 1))))),(21,(vS (some ⟨c,0,none⟩) 1 1)),(23,(vS (some ⟨d,0,none⟩) 1 1)),(24,(vA (I.cells (I.mk 1 1))))]) (fun (c,d,A2)=>[(bm A2 28 (I.cells (I.mk 0 0))),(bm d 79 (aZ.cells (aZ.mk (I.mk 0 0) 0 1 true))),(bm c 77 (bG.cells (bG.mk (I.mk 0 0) 0))),(bm B 75 (aj.cells (aj.mk 0 1 (ae.mk 0 (I.mk 0 0)) 0 1))),(bm C 24 (ag.cells (ag.mk (aJ.mk (some ⟨A,0,none⟩) 1 1)))),(bm A 73 (ab.cells (ab.mk 1 (I.mk 1000 1000) (I.mk 0 0) (I.mk 0 0) 0 0)))]) 9 [6,7,8,9,10,11,12,14,15] (fun Ix=>?_) ?_
  rotate_left 1
  ·rintro ⟨c,d,A2⟩-
   refine dz [6,7] kr (bD ?_<|bD ?_<|en)
   rotate_left 1
   ·refine c_ U U U fun T191 LF=>bX (xs:=[.const (vI 0)]) (cs:=[(vI 0)]) U cK g6 U U U U (by simp [Value.cells]) U U fun MK=>RD LF 4 U ?_
    exact bI Fd (c,d,MK,A2) trivial [1,0,2,3,4,5,6] U U U
   refine c_ U U U fun T190 LE=>rS (SX (aS (xs:=[(0,.tmp 19),(1,.tmp 21),(2,.tmp 23),(4,.tmp 24),(5,.const (vI 3))]) (cs:=(bV.cells (bV.mk (ag.mk (aJ.mk (some ⟨A,0,none⟩) 1 1)) (aJ.mk (some ⟨c,0,none⟩) 1 1) (aJ.mk (some ⟨d,0,none⟩) 1 1) (I.mk 0 0) (I.mk 1 1) 3 0 0))) U U (aT xU U)) U U)<|RD LE 3 U ?_
   exact bI KY (c,d,A2) trivial [0,1,2,3,4,5] U U U
  refine dp (V:=Nat×Nat×Nat) (fun (A3,e,A4)=>True) (fun (A3,e,A4)=>[(0,(vB false)),(1,(vP C)),(2,(vI (bE (ah.mk ([(ab.mk 1 (I.mk 1000 1000) (I.mk 0 0) (I.mk 0 0) 0 0)]) ([(aj.mk 0 1 (ae.mk 0 (I.mk 0 0)) 0 1)]) ([]) (ae.mk 0 (I.mk 0 0)) 0) 0 0))),(3,(vI (bB (ah.mk ([(ab.mk 1 (I.mk 1000 1000) (I.mk 0 0) (I.mk 0 0) 0 0)]) ([(aj.mk 0 1 (ae.mk 0 (I.mk 0 0)) 0 1)]) ([]) (ae.mk 0 (I.mk 0 0)) 0) 0 0))),(6,(vA (I.cells (I.mk 1000 1000)))),(7,(vA (ab.cells (ab.mk 1 (I.mk 1000 1000) (I.mk 0 0) (I.mk 0 0) 0 0)))),(8,(vS (some ⟨A,0,none⟩) 1 1)),(9,(vA (ag.cells (ag.mk (aJ.mk (some ⟨A,0,none⟩) 1 1))))),(10,(vT [(vI (bE (ah.mk ([(ab.mk 1 (I.mk 1000 1000) (I.mk 0 0) (I.mk 0 0) 0 0)]) ([(aj.mk 0 1 (ae.mk 0 (I.mk 0 0)) 0 1)]) ([]) (ae.mk 0 (I.mk 0 0)) 0) 0 0)),(vI (bB (ah.mk ([(ab.mk 1 (I.mk 1000 1000) (I.mk 0 0) (I.mk 0 0) 0 0)]) ([(aj.mk 0 1 (ae.mk 0 (I.mk 0 0)) 0 1)]) ([]) (ae.mk 0 (I.mk 0 0)) 0) 0 0))])),(11,(vA (ag.cells (ag.mk (aJ.mk (some ⟨A,0,none⟩) 1 1))))),(12,(vA (aj.cells (aj.mk 0 1 (ae.mk 0 (I.mk 0 0)) 0 1)))),(13,(vS (some ⟨B,0,none⟩) 1 1)),(14,(vA (aW.cells (aW.mk (ag.mk (aJ.mk (some ⟨A,0,none⟩) 1 1)) (aJ.mk (some ⟨B,0,none⟩) 1 1) (aJ.mk none 0 0) (ae.mk 0 (I.mk 0 0)) 0)))),(15,(vT [(vI (bE (ah.mk ([(ab.mk 1 (I.mk 1000 1000) (I.mk 0 0) (I.mk 0 0) 0 0)]) ([(aj.mk 0 1 (ae.mk 0 (I.mk 0 0)) 0 1)]) ([]) (ae.mk 0 (I.mk 0 0)) 0) 0 0)),(vI (bB (ah.mk ([(ab.mk 1 (I.mk 1000 1000) (I.mk 0 0) (I.mk 0 0) 0 0)]) ([(aj.mk 0 1 (ae.mk 0 (I.mk 0 0)) 0 1)]) ([]) (ae.mk 0 (I.mk 0 0)) 0) 0 0))])),(16,(vI (bE (ah.mk ([(ab.mk 1 (I.mk 1000 1000) (I.mk 0 0) (I.mk 0 0) 0 0)]) ([(aj.mk 0 1 (ae.mk 0 (I.mk 0 0)) 0 1)]) ([]) (ae.mk 0 (I.mk 0 0)) 0) 0 0))),(17,(vI (bB (ah.mk ([(ab.mk 1 (I.mk 1000 1000) (I.mk 0 0) (I.mk 0 0) 0 0)]) ([(aj.mk 0 1 (ae.mk 0 (I.mk 0 0)) 0 1)]) ([]) (ae.mk 0 (I.mk 0 0)) 0) 0 0))),(19,(vA (ag.cells (ag.mk (aJ.mk (some ⟨A,0,none⟩) 1 1))))),(21,(vS (some ⟨A3,0,none⟩) 1 1)),(22,(vA (aZ.cells (aZ.mk (I.mk 0 0) 0 1 true)))),(24,(vA (I.cells (I.mk 1 1)))),(26,(vS (some ⟨e,0,none⟩) 1 1)),(27,(vS (some ⟨A4,0,none⟩) 1 1))]) (fun (A3,e,A4)=>[(bm A4 67 [(vS (some ⟨e,0,none⟩) 1 1)]),(bm e 3 [(vI 0)]),(bm A3 77 (bG.cells (bG.mk (I.mk 0 0) 0))),(bm B 75 (aj.cells (aj.mk 0 1 (ae.mk 0 (I.mk 0 0)) 0 1))),(bm C 24 (ag.cells (ag.mk (aJ.mk (some ⟨A,0,none⟩) 1 1)))),(bm A 73 (ab.cells (ab.mk 1 (I.mk 1000 1000) (I.mk 0 0) (I.mk 0 0) 0 0)))]) 9 [4,6,9,10,11,12,13,14,15] (fun Ka=>?_) ?_
  rotate_left 1
  ·rintro ⟨A3,e,A4⟩-
   refine dz [4,13] kr (bD ?_<|bD ?_<|en)
   rotate_left 1
   ·refine c_ U U U fun T199 LH=>AL U cv fun MO=>RD LH 4 U ?_
    exact bI If (A3,e,A4,MO) trivial [0,1,2,3,4,5,6] U U U
   refine c_ U U U fun T197 LG=>bX (xs:=[.tmp 22]) (cs:=(aZ.cells (aZ.mk (I.mk 0 0) 0 1 true))) U lu nB U U U U (by simp [Value.cells,aZ.aq]) U U fun ML=>RD LG 4 U ?_
   exact bI Id (A3,ML,e,A4) trivial [1,2,0,3,4,5,6] U U U
  refine dp (V:=Nat×Nat×Nat) (fun (A5,f,A6)=>True) (fun (A5,f,A6)=>[(0,(vB false)),(1,(vP C)),(2,(vI (bE (ah.mk ([(ab.mk 1 (I.mk 1000 1000) (I.mk 0 0) (I.mk 0 0) 0 0)]) ([(aj.mk 0 1 (ae.mk 0 (I.mk 0 0)) 0 1)]) ([]) (ae.mk 0 (I.mk 0 0)) 0) 0 0))),(3,(vI (bB (ah.mk ([(ab.mk 1 (I.mk 1000 1000) (I.mk 0 0) (I.mk 0 0) 0 0)]) ([(aj.mk 0 1 (ae.mk 0 (I.mk 0 0)) 0 1)]) ([]) (ae.mk 0 (I.mk 0 0)) 0) 0 0))),(4,(vP A6)),(6,(vA (I.cells (I.mk 1000 1000)))),(7,(vA (ab.cells (ab.mk 1 (I.mk 1000 1000) (I.mk 0 0) (I.mk 0 0) 0 0)))),(8,(vS (some ⟨A,0,none⟩) 1 1)),(9,(vA (ag.cells (ag.mk (aJ.mk (some ⟨A,0,none⟩) 1 1))))),(10,(vT [(vI (bE (ah.mk ([(ab.mk 1 (I.mk 1000 1000) (I.mk 0 0) (I.mk 0 0) 0 0)]) ([(aj.mk 0 1 (ae.mk 0 (I.mk 0 0)) 0 1)]) ([]) (ae.mk 0 (I.mk 0 0)) 0) 0 0)),(vI (bB (ah.mk ([(ab.mk 1 (I.mk 1000 1000) (I.mk 0 0) (I.mk 0 0) 0 0)]) ([(aj.mk 0 1 (ae.mk 0 (I.mk 0 0)) 0 1)]) ([]) (ae.mk 0 (I.mk 0 0)) 0) 0 0))])),(11,(vA (ag.cells (ag.mk (aJ.mk (some ⟨A,0,none⟩) 1 1))))),(12,(vA (aj.cells (aj.mk 0 1 (ae.mk 0 (I.mk 0 0)) 0 1)))),(13,(vS (some ⟨B,0,none⟩) 1 1)),(14,(vA (aW.cells (aW.mk (ag.mk (aJ.mk (some ⟨A,0,none⟩) 1 1)) (aJ.mk (some ⟨B,0,none⟩) 1 1) (aJ.mk none 0 0) (ae.mk 0 (I.mk 0 0)) 0)))),(15,(vT [(vI (bE (ah.mk ([(ab.mk 1 (I.mk 1000 1000) (I.mk 0 0) (I.mk 0 0) 0 0)]) ([(aj.mk 0 1 (ae.mk 0 (I.mk 0 0)) 0 1)]) ([]) (ae.mk 0 (I.mk 0 0)) 0) 0 0)),(vI (bB (ah.mk ([(ab.mk 1 (I.mk 1000 1000) (I.mk 0 0) (I.mk 0 0) 0 0)]) ([(aj.mk 0 1 (ae.mk 0 (I.mk 0 0)) 0 1)]) ([]) (ae.mk 0 (I.mk 0 0)) 0) 0 0))])),(16,(vI (bE (ah.mk ([(ab.mk 1 (I.mk 1000 1000) (I.mk 0 0) (I.mk 0 0) 0 0)]) ([(aj.mk 0 1 (ae.mk 0 (I.mk 0 0)) 0 1)]) ([]) (ae.mk 0 (I.mk 0 0)) 0) 0 0))),(17,(vI (bB (ah.mk ([(ab.mk 1 (I.mk 1000 1000) (I.mk 0 0) (I.mk 0 0) 0 0)]) ([(aj.mk 0 1 (ae.mk 0 (I.mk 0 0)) 0 1)]) ([]) (ae.mk 0 (I.mk 0 0)) 0) 0 0))),(19,(vA (ag.cells (ag.mk (aJ.mk (some ⟨A,0,none⟩) 1 1))))),(21,(vS (some ⟨A5,0,none⟩) 1 1)),(22,(vA (aZ.cells (aZ.mk (I.mk 0 0) 0 1 true)))),(24,(vA (I.cells (I.mk 1 1)))),(26,(vS (some ⟨f,0,none⟩) 1 1))]) (fun (A5,f,A6)=>[(bm A6 28 (I.cells (I.mk 0 0))),(bm f 3 [(vI 0)]),(bm A5 77 (bG.cells (bG.mk (I.mk 0 0) 0))),(bm B 75 (aj.cells (aj.mk 0 1 (ae.mk 0 (I.mk 0 0)) 0 1))),(bm C 24 (ag.cells (ag.mk (aJ.mk (some ⟨A,0,none⟩) 1 1)))),(bm A 73 (ab.cells (ab.mk 1 (I.mk 1000 1000) (I.mk 0 0) (I.mk 0 0) 0 0)))]) 9 [4,6,8,9,10,11,12,14,15] (fun I8=>?_) ?_
  rotate_left 1
  ·rintro ⟨A5,f,A6⟩-
   refine dz [4,8] kr (bD ?_<|bD ?_<|en)
   rotate_left 1
   ·refine c_ U U U fun T207 LK=>bX (xs:=[.tmp 26]) (cs:=[(vS (some ⟨f,0,none⟩) 1 1)]) U iO nN U U U U (by simp [Value.cells]) U U fun MQ=>RD LK 4 U ?_
    exact bI If (A5,f,MQ,A6) trivial [1,0,2,3,4,5,6] U U U
   refine c_ U U U fun T205 LI=>bX (xs:=[.tmp 22]) (cs:=(aZ.cells (aZ.mk (I.mk 0 0) 0 1 true))) U lu nB U U U U (by simp [Value.cells,aZ.aq]) U U fun MP=>RD LI 4 U ?_
   exact bI Fd (A5,MP,f,A6) trivial [1,2,0,3,4,5,6] U U U
  refine dp (V:=Nat×Nat×Nat) (fun (A7,g,A8)=>True) (fun (A7,g,A8)=>[(0,(vB false)),(1,(vP C)),(2,(vI (bE (ah.mk ([(ab.mk 1 (I.mk 1000 1000) (I.mk 0 0) (I.mk 0 0) 0 0)]) ([(aj.mk 0 1 (ae.mk 0 (I.mk 0 0)) 0 1)]) ([]) (ae.mk 0 (I.mk 0 0)) 0) 0 0))),(3,(vI (bB (ah.mk ([(ab.mk 1 (I.mk 1000 1000) (I.mk 0 0) (I.mk 0 0) 0 0)]) ([(aj.mk 0 1 (ae.mk 0 (I.mk 0 0)) 0 1)]) ([]) (ae.mk 0 (I.mk 0 0)) 0) 0 0))),(6,(vA (I.cells (I.mk 1000 1000)))),(7,(vA (ab.cells (ab.mk 1 (I.mk 1000 1000) (I.mk 0 0) (I.mk 0 0) 0 0)))),(8,(vS (some ⟨A,0,none⟩) 1 1)),(9,(vA (ag.cells (ag.mk (aJ.mk (some ⟨A,0,none⟩) 1 1))))),(10,(vT [(vI (bE (ah.mk ([(ab.mk 1 (I.mk 1000 1000) (I.mk 0 0) (I.mk 0 0) 0 0)]) ([(aj.mk 0 1 (ae.mk 0 (I.mk 0 0)) 0 1)]) ([]) (ae.mk 0 (I.mk 0 0)) 0) 0 0)),(vI (bB (ah.mk ([(ab.mk 1 (I.mk 1000 1000) (I.mk 0 0) (I.mk 0 0) 0 0)]) ([(aj.mk 0 1 (ae.mk 0 (I.mk 0 0)) 0 1)]) ([]) (ae.mk 0 (I.mk 0 0)) 0) 0 0))])),(11,(vA (ag.cells (ag.mk (aJ.mk (some ⟨A,0,none⟩) 1 1))))),(12,(vA (aj.cells (aj.mk 0 1 (ae.mk 0 (I.mk 0 0)) 0 1)))),(13,(vS (some ⟨B,0,none⟩) 1 1)),(14,(vA (aW.cells (aW.mk (ag.mk (aJ.mk (some ⟨A,0,none⟩) 1 1)) (aJ.mk (some ⟨B,0,none⟩) 1 1) (aJ.mk none 0 0) (ae.mk 0 (I.mk 0 0)) 0)))),(15,(vT [(vI (bE (ah.mk ([(ab.mk 1 (I.mk 1000 1000) (I.mk 0 0) (I.mk 0 0) 0 0)]) ([(aj.mk 0 1 (ae.mk 0 (I.mk 0 0)) 0 1)]) ([]) (ae.mk 0 (I.mk 0 0)) 0) 0 0)),(vI (bB (ah.mk ([(ab.mk 1 (I.mk 1000 1000) (I.mk 0 0) (I.mk 0 0) 0 0)]) ([(aj.mk 0 1 (ae.mk 0 (I.mk 0 0)) 0 1)]) ([]) (ae.mk 0 (I.mk 0 0)) 0) 0 0))])),(16,(vI (bE (ah.mk ([(ab.mk 1 (I.mk 1000 1000) (I.mk 0 0) (I.mk 0 0) 0 0)]) ([(aj.mk 0 1 (ae.mk 0 (I.mk 0 0)) 0 1)]) ([]) (ae.mk 0 (I.mk 0 0)) 0) 0 0))),(17,(vI (bB (ah.mk ([(ab.mk 1 (I.mk 1000 1000) (I.mk 0 0) (I.mk 0 0) 0 0)]) ([(aj.mk 0 1 (ae.mk 0 (I.mk 0 0)) 0 1)]) ([]) (ae.mk 0 (I.mk 0 0)) 0) 0 0))),(19,(vA (ag.cells (ag.mk (aJ.mk (some ⟨A,0,none⟩) 1 1))))),(20,(vA (bG.cells (bG.mk (I.mk 0 0) 0)))),(23,(vS (some ⟨A7,0,none⟩) 1 1)),(24,(vA (I.cells (I.mk 1 1)))),(26,(vS (some ⟨g,0,none⟩) 1 1)),(27,(vS (some ⟨A8,0,none⟩) 1 1))]) (fun (A7,g,A8)=>[(bm A8 67 [(vS (some ⟨g,0,none⟩) 1 1)]),(bm g 3 [(vI 0)]),(bm A7 79 (aZ.cells (aZ.mk (I.mk 0 0) 0 1 true))),(bm B 75 (aj.cells (aj.mk 0 1 (ae.mk 0 (I.mk 0 0)) 0 1))),(bm C 24 (ag.cells (ag.mk (aJ.mk (some ⟨A,0,none⟩) 1 1)))),(bm A 73 (ab.cells (ab.mk 1 (I.mk 1000 1000) (I.mk 0 0) (I.mk 0 0) 0 0)))]) 9 [2,6,9,10,11,12,13,14,15] (fun Kb=>?_) ?_
  rotate_left 1
  ·rintro ⟨A7,g,A8⟩-
   refine dz [2,13] kr (bD ?_<|bD ?_<|en)
   rotate_left 1
   ·refine c_ U U U fun T215 LO=>AL U cv fun MS=>RD LO 4 U ?_
    exact bI In (A7,g,A8,MS) trivial [0,1,2,3,4,5,6] U U U
   refine c_ U U U fun T213 LL=>bX (xs:=[.tmp 20]) (cs:=(bG.cells (bG.mk (I.mk 0 0) 0))) U lJ o8 U U U U (by simp [Value.cells,bG.aq]) U U fun MR=>RD LL 4 U ?_
   exact bI Id (MR,A7,g,A8) trivial [1,2,3,0,4,5,6] U U U
  refine dp (V:=Nat×Nat×Nat) (fun (A9,h,Bf)=>True) (fun (A9,h,Bf)=>[(0,(vB false)),(1,(vP C)),(2,(vI (bE (ah.mk ([(ab.mk 1 (I.mk 1000 1000) (I.mk 0 0) (I.mk 0 0) 0 0)]) ([(aj.mk 0 1 (ae.mk 0 (I.mk 0 0)) 0 1)]) ([]) (ae.mk 0 (I.mk 0 0)) 0) 0 0))),(3,(vI (bB (ah.mk ([(ab.mk 1 (I.mk 1000 1000) (I.mk 0 0) (I.mk 0 0) 0 0)]) ([(aj.mk 0 1 (ae.mk 0 (I.mk 0 0)) 0 1)]) ([]) (ae.mk 0 (I.mk 0 0)) 0) 0 0))),(4,(vP Bf)),(6,(vA (I.cells (I.mk 1000 1000)))),(7,(vA (ab.cells (ab.mk 1 (I.mk 1000 1000) (I.mk 0 0) (I.mk 0 0) 0 0)))),(8,(vS (some ⟨A,0,none⟩) 1 1)),(9,(vA (ag.cells (ag.mk (aJ.mk (some ⟨A,0,none⟩) 1 1))))),(10,(vT [(vI (bE (ah.mk ([(ab.mk 1 (I.mk 1000 1000) (I.mk 0 0) (I.mk 0 0) 0 0)]) ([(aj.mk 0 1 (ae.mk 0 (I.mk 0 0)) 0 1)]) ([]) (ae.mk 0 (I.mk 0 0)) 0) 0 0)),(vI (bB (ah.mk ([(ab.mk 1 (I.mk 1000 1000) (I.mk 0 0) (I.mk 0 0) 0 0)]) ([(aj.mk 0 1 (ae.mk 0 (I.mk 0 0)) 0 1)]) ([]) (ae.mk 0 (I.mk 0 0)) 0) 0 0))])),(11,(vA (ag.cells (ag.mk (aJ.mk (some ⟨A,0,none⟩) 1 1))))),(12,(vA (aj.cells (aj.mk 0 1 (ae.mk 0 (I.mk 0 0)) 0 1)))),(13,(vS (some ⟨B,0,none⟩) 1 1)),(14,(vA (aW.cells (aW.mk (ag.mk (aJ.mk (some ⟨A,0,none⟩) 1 1)) (aJ.mk (some ⟨B,0,none⟩) 1 1) (aJ.mk none 0 0) (ae.mk 0 (I.mk 0 0)) 0)))),(15,(vT [(vI (bE (ah.mk ([(ab.mk 1 (I.mk 1000 1000) (I.mk 0 0) (I.mk 0 0) 0 0)]) ([(aj.mk 0 1 (ae.mk 0 (I.mk 0 0)) 0 1)]) ([]) (ae.mk 0 (I.mk 0 0)) 0) 0 0)),(vI (bB (ah.mk ([(ab.mk 1 (I.mk 1000 1000) (I.mk 0 0) (I.mk 0 0) 0 0)]) ([(aj.mk 0 1 (ae.mk 0 (I.mk 0 0)) 0 1)]) ([]) (ae.mk 0 (I.mk 0 0)) 0) 0 0))])),(16,(vI (bE (ah.mk ([(ab.mk 1 (I.mk 1000 1000) (I.mk 0 0) (I.mk 0 0) 0 0)]) ([(aj.mk 0 1 (ae.mk 0 (I.mk 0 0)) 0 1)]) ([]) (ae.mk 0 (I.mk 0 0)) 0) 0 0))),(17,(vI (bB (ah.mk ([(ab.mk 1 (I.mk 1000 1000) (I.mk 0 0) (I.mk 0 0) 0 0)]) ([(aj.mk 0 1 (ae.mk 0 (I.mk 0 0)) 0 1)]) ([]) (ae.mk 0 (I.mk 0 0)) 0) 0 0))),(19,(vA (ag.cells (ag.mk (aJ.mk (some ⟨A,0,none⟩) 1 1))))),(20,(vA (bG.cells (bG.mk (I.mk 0 0) 0)))),(23,(vS (some ⟨A9,0,none⟩) 1 1)),(24,(vA (I.cells (I.mk 1 1)))),(26,(vS (some ⟨h,0,none⟩) 1 1))]) (fun (A9,h,Bf)=>[(bm Bf 28 (I.cells (I.mk 0 0))),(bm h 3 [(vI 0)]),(bm A9 79 (aZ.cells (aZ.mk (I.mk 0 0) 0 1 true))),(bm B 75 (aj.cells (aj.mk 0 1 (ae.mk 0 (I.mk 0 0)) 0 1))),(bm C 24 (ag.cells (ag.mk (aJ.mk (some ⟨A,0,none⟩) 1 1)))),(bm A 73 (ab.cells (ab.mk 1 (I.mk 1000 1000) (I.mk 0 0) (I.mk 0 0) 0 0)))]) 9 [2,6,8,9,10,11,12,14,15] (fun JD=>?_) ?_
  rotate_left 1
  ·rintro ⟨A9,h,Bf⟩-
   refine dz [2,8] kr (bD ?_<|bD ?_<|en)
   rotate_left 1
   ·refine c_ U U U fun T223 LR=>bX (xs:=[.tmp 26]) (cs:=[(vS (some ⟨h,0,none⟩) 1 1)]) U iO nN U U U U (by simp [Value.cells]) U U fun MU=>RD LR 4 U ?_
    exact bI In (A9,h,MU,Bf) trivial [1,0,2,3,4,5,6] U U U
   refine c_ U U U fun T221 LQ=>bX (xs:=[.tmp 20]) (cs:=(bG.cells (bG.mk (I.mk 0 0) 0))) U lJ o8 U U U U (by simp [Value.cells,bG.aq]) U U fun MT=>RD LQ 4 U ?_
   exact bI Fd (MT,A9,h,Bf) trivial [1,2,3,0,4,5,6] U U U
  refine dp (V:=Nat×Nat×Nat) (fun (i,Bl,Bs)=>True) (fun (i,Bl,Bs)=>[(0,(vB false)),(1,(vP C)),(2,(vI (bE (ah.mk ([(ab.mk 1 (I.mk 1000 1000) (I.mk 0 0) (I.mk 0 0) 0 0)]) ([(aj.mk 0 1 (ae.mk 0 (I.mk 0 0)) 0 1)]) ([]) (ae.mk 0 (I.mk 0 0)) 0) 0 0))),(3,(vI (bB (ah.mk ([(ab.mk 1 (I.mk 1000 1000) (I.mk 0 0) (I.mk 0 0) 0 0)]) ([(aj.mk 0 1 (ae.mk 0 (I.mk 0 0)) 0 1)]) ([]) (ae.mk 0 (I.mk 0 0)) 0) 0 0))),(4,(vP Bs)),(6,(vA (I.cells (I.mk 1000 1000)))),(7,(vA (ab.cells (ab.mk 1 (I.mk 1000 1000) (I.mk 0 0) (I.mk 0 0) 0 0)))),(8,(vS (some ⟨A,0,none⟩) 1 1)),(9,(vA (ag.cells (ag.mk (aJ.mk (some ⟨A,0,none⟩) 1 1))))),(10,(vT [(vI (bE (ah.mk ([(ab.mk 1 (I.mk 1000 1000) (I.mk 0 0) (I.mk 0 0) 0 0)]) ([(aj.mk 0 1 (ae.mk 0 (I.mk 0 0)) 0 1)]) ([]) (ae.mk 0 (I.mk 0 0)) 0) 0 0)),(vI (bB (ah.mk ([(ab.mk 1 (I.mk 1000 1000) (I.mk 0 0) (I.mk 0 0) 0 0)]) ([(aj.mk 0 1 (ae.mk 0 (I.mk 0 0)) 0 1)]) ([]) (ae.mk 0 (I.mk 0 0)) 0) 0 0))])),(11,(vA (ag.cells (ag.mk (aJ.mk (some ⟨A,0,none⟩) 1 1))))),(12,(vA (aj.cells (aj.mk 0 1 (ae.mk 0 (I.mk 0 0)) 0 1)))),(13,(vS (some ⟨B,0,none⟩) 1 1)),(14,(vA (aW.cells (aW.mk (ag.mk (aJ.mk (some ⟨A,0,none⟩) 1 1)) (aJ.mk (some ⟨B,0,none⟩) 1 1) (aJ.mk none 0 0) (ae.mk 0 (I.mk 0 0)) 0)))),(15,(vT [(vI (bE (ah.mk ([(ab.mk 1 (I.mk 1000 1000) (I.mk 0 0) (I.mk 0 0) 0 0)]) ([(aj.mk 0 1 (ae.mk 0 (I.mk 0 0)) 0 1)]) ([]) (ae.mk 0 (I.mk 0 0)) 0) 0 0)),(vI (bB (ah.mk ([(ab.mk 1 (I.mk 1000 1000) (I.mk 0 0) (I.mk 0 0) 0 0)]) ([(aj.mk 0 1 (ae.mk 0 (I.mk 0 0)) 0 1)]) ([]) (ae.mk 0 (I.mk 0 0)) 0) 0 0))])),(16,(vI (bE (ah.mk ([(ab.mk 1 (I.mk 1000 1000) (I.mk 0 0) (I.mk 0 0) 0 0)]) ([(aj.mk 0 1 (ae.mk 0 (I.mk 0 0)) 0 1)]) ([]) (ae.mk 0 (I.mk 0 0)) 0) 0 0))),(17,(vI (bB (ah.mk ([(ab.mk 1 (I.mk 1000 1000) (I.mk 0 0) (I.mk 0 0) 0 0)]) ([(aj.mk 0 1 (ae.mk 0 (I.mk 0 0)) 0 1)]) ([]) (ae.mk 0 (I.mk 0 0)) 0) 0 0))),(19,(vA (ag.cells (ag.mk (aJ.mk (some ⟨A,0,none⟩) 1 1))))),(20,(vA (bG.cells (bG.mk (I.mk 0 0) 0)))),(22,(vA (aZ.cells (aZ.mk (I.mk 0 0) 0 1 true)))),(24,(vA (I.cells (I.mk 1 1)))),(26,(vS (some ⟨i,0,none⟩) 1 1)),(27,(vS (some ⟨Bl,0,none⟩) 1 1))]) (fun (i,Bl,Bs)=>[(bm Bs 28 (I.cells (I.mk 0 0))),(bm Bl 67 [(vS (some ⟨i,0,none⟩) 1 1)]),(bm i 3 [(vI 0)]),(bm B 75 (aj.cells (aj.mk 0 1 (ae.mk 0 (I.mk 0 0)) 0 1))),(bm C 24 (ag.cells (ag.mk (aJ.mk (some ⟨A,0,none⟩) 1 1)))),(bm A 73 (ab.cells (ab.mk 1 (I.mk 1000 1000) (I.mk 0 0) (I.mk 0 0) 0 0)))]) 9 [2,4,6,9,10,11,12,14,15] (fun Kc=>?_) ?_
  rotate_left 1
  ·rintro ⟨i,Bl,Bs⟩-
   refine dz [2,4] kr (bD ?_<|bD ?_<|en)
   ·refine c_ U U U fun T229 LS=>bX (xs:=[.tmp 20]) (cs:=(bG.cells (bG.mk (I.mk 0 0) 0))) U lJ o8 U U U U (by simp [Value.cells,bG.aq]) U U fun MW=>RD LS 4 U ?_
    exact bI If (MW,i,Bl,Bs) trivial [1,2,3,0,4,5,6] U U U
   refine c_ U U U fun T231 LT=>bX (xs:=[.tmp 22]) (cs:=(aZ.cells (aZ.mk (I.mk 0 0) 0 1 true))) U lu nB U U U U (by simp [Value.cells,aZ.aq]) U U fun MY=>RD LT 4 U ?_
   exact bI In (MY,i,Bl,Bs) trivial [1,2,3,0,4,5,6] U U U
  refine dp (V:=Nat×Nat) (fun (J,K)=>True) (fun (J,K)=>[(0,(vB false)),(1,(vP C)),(2,(vI (bE (ah.mk ([(ab.mk 1 (I.mk 1000 1000) (I.mk 0 0) (I.mk 0 0) 0 0)]) ([(aj.mk 0 1 (ae.mk 0 (I.mk 0 0)) 0 1)]) ([]) (ae.mk 0 (I.mk 0 0)) 0) 0 0))),(3,(vI (bB (ah.mk ([(ab.mk 1 (I.mk 1000 1000) (I.mk 0 0) (I.mk 0 0) 0 0)]) ([(aj.mk 0 1 (ae.mk 0 (I.mk 0 0)) 0 1)]) ([]) (ae.mk 0 (I.mk 0 0)) 0) 0 0))),(6,(vA (I.cells (I.mk 1000 1000)))),(7,(vA (ab.cells (ab.mk 1 (I.mk 1000 1000) (I.mk 0 0) (I.mk 0 0) 0 0)))),(8,(vS (some ⟨A,0,none⟩) 1 1)),(9,(vA (ag.cells (ag.mk (aJ.mk (some ⟨A,0,none⟩) 1 1))))),(10,(vT [(vI (bE (ah.mk ([(ab.mk 1 (I.mk 1000 1000) (I.mk 0 0) (I.mk 0 0) 0 0)]) ([(aj.mk 0 1 (ae.mk 0 (I.mk 0 0)) 0 1)]) ([]) (ae.mk 0 (I.mk 0 0)) 0) 0 0)),(vI (bB (ah.mk ([(ab.mk 1 (I.mk 1000 1000) (I.mk 0 0) (I.mk 0 0) 0 0)]) ([(aj.mk 0 1 (ae.mk 0 (I.mk 0 0)) 0 1)]) ([]) (ae.mk 0 (I.mk 0 0)) 0) 0 0))])),(11,(vA (ag.cells (ag.mk (aJ.mk (some ⟨A,0,none⟩) 1 1))))),(12,(vA (aj.cells (aj.mk 0 1 (ae.mk 0 (I.mk 0 0)) 0 1)))),(13,(vS (some ⟨B,0,none⟩) 1 1)),(14,(vA (aW.cells (aW.mk (ag.mk (aJ.mk (some ⟨A,0,none⟩) 1 1)) (aJ.mk (some ⟨B,0,none⟩) 1 1) (aJ.mk none 0 0) (ae.mk 0 (I.mk 0 0)) 0)))),(15,(vT [(vI (bE (ah.mk ([(ab.mk 1 (I.mk 1000 1000) (I.mk 0 0) (I.mk 0 0) 0 0)]) ([(aj.mk 0 1 (ae.mk 0 (I.mk 0 0)) 0 1)]) ([]) (ae.mk 0 (I.mk 0 0)) 0) 0 0)),(vI (bB (ah.mk ([(ab.mk 1 (I.mk 1000 1000) (I.mk 0 0) (I.mk 0 0) 0 0)]) ([(aj.mk 0 1 (ae.mk 0 (I.mk 0 0)) 0 1)]) ([]) (ae.mk 0 (I.mk 0 0)) 0) 0 0))])),(16,(vI (bE (ah.mk ([(ab.mk 1 (I.mk 1000 1000) (I.mk 0 0) (I.mk 0 0) 0 0)]) ([(aj.mk 0 1 (ae.mk 0 (I.mk 0 0)) 0 1)]) ([]) (ae.mk 0 (I.mk 0 0)) 0) 0 0))),(17,(vI (bB (ah.mk ([(ab.mk 1 (I.mk 1000 1000) (I.mk 0 0) (I.mk 0 0) 0 0)]) ([(aj.mk 0 1 (ae.mk 0 (I.mk 0 0)) 0 1)]) ([]) (ae.mk 0 (I.mk 0 0)) 0) 0 0))),(19,(vA (ag.cells (ag.mk (aJ.mk (some ⟨A,0,none⟩) 1 1))))),(21,(vS (some ⟨J,0,none⟩) 1 1)),(23,(vS (some ⟨K,0,none⟩) 1 1)),(24,(vA (I.cells (I.mk 1 1))))]) (fun (J,K)=>[(bm K 79 (aZ.cells (aZ.mk (I.mk 0 0) 0 1 true))),(bm J 77 (bG.cells (bG.mk (I.mk 0 0) 0))),(bm B 75 (aj.cells (aj.mk 0 1 (ae.mk 0 (I.mk 0 0)) 0 1))),(bm C 24 (ag.cells (ag.mk (aJ.mk (some ⟨A,0,none⟩) 1 1)))),(bm A 73 (ab.cells (ab.mk 1 (I.mk 1000 1000) (I.mk 0 0) (I.mk 0 0) 0 0)))]) 10 [6,7,8,9,10,11,12,13,14,15] (fun Kd=>?_) ?_
  rotate_left 1
  ·rintro ⟨J,K⟩-
   refine dz [6,7,13] kr (bD ?_<|bD ?_<|bD ?_<|en)
   rotate_left 1
   ·refine c_ U U U fun T237 LV=>bX (xs:=[.const (vI 0)]) (cs:=[(vI 0)]) U cK g6 U U U U (by simp [Value.cells]) U U fun MZ=>RD LV 3 U ?_
    exact bI Iq (J,K,MZ) trivial [0,1,2,3,4,5] U U U
   ·refine c_ U U U fun T239 LY=>AL U cv fun Ma=>RD LY 3 U ?_
    exact bI Ix (J,K,Ma) trivial [0,1,2,3,4,5] U U U
   refine c_ U U U fun T236 LU=>rS (SX (aS (xs:=[(0,.tmp 19),(1,.tmp 21),(2,.tmp 23),(4,.tmp 24),(5,.const (vI 3))]) (cs:=(bV.cells (bV.mk (ag.mk (aJ.mk (some ⟨A,0,none⟩) 1 1)) (aJ.mk (some ⟨J,0,none⟩) 1 1) (aJ.mk (some ⟨K,0,none⟩) 1 1) (I.mk 0 0) (I.mk 1 1) 3 0 0))) U U (aT xU U)) U U)<|RD LU 2 U ?_
   exact bI Kp (J,K) trivial [0,1,2,3,4] U U U
  refine dp (V:=Nat×Nat) (fun (j,L)=>True) (fun (j,L)=>[(0,(vB false)),(1,(vP C)),(2,(vI (bE (ah.mk ([(ab.mk 1 (I.mk 1000 1000) (I.mk 0 0) (I.mk 0 0) 0 0)]) ([(aj.mk 0 1 (ae.mk 0 (I.mk 0 0)) 0 1)]) ([]) (ae.mk 0 (I.mk 0 0)) 0) 0 0))),(3,(vI (bB (ah.mk ([(ab.mk 1 (I.mk 1000 1000) (I.mk 0 0) (I.mk 0 0) 0 0)]) ([(aj.mk 0 1 (ae.mk 0 (I.mk 0 0)) 0 1)]) ([]) (ae.mk 0 (I.mk 0 0)) 0) 0 0))),(6,(vA (I.cells (I.mk 1000 1000)))),(7,(vA (ab.cells (ab.mk 1 (I.mk 1000 1000) (I.mk 0 0) (I.mk 0 0) 0 0)))),(8,(vS (some ⟨A,0,none⟩) 1 1)),(9,(vA (ag.cells (ag.mk (aJ.mk (some ⟨A,0,none⟩) 1 1))))),(10,(vT [(vI (bE (ah.mk ([(ab.mk 1 (I.mk 1000 1000) (I.mk 0 0) (I.mk 0 0) 0 0)]) ([(aj.mk 0 1 (ae.mk 0 (I.mk 0 0)) 0 1)]) ([]) (ae.mk 0 (I.mk 0 0)) 0) 0 0)),(vI (bB (ah.mk ([(ab.mk 1 (I.mk 1000 1000) (I.mk 0 0) (I.mk 0 0) 0 0)]) ([(aj.mk 0 1 (ae.mk 0 (I.mk 0 0)) 0 1)]) ([]) (ae.mk 0 (I.mk 0 0)) 0) 0 0))])),(11,(vA (ag.cells (ag.mk (aJ.mk (some ⟨A,0,none⟩) 1 1))))),(12,(vA (aj.cells (aj.mk 0 1 (ae.mk 0 (I.mk 0 0)) 0 1)))),(13,(vS (some ⟨B,0,none⟩) 1 1)),(14,(vA (aW.cells (aW.mk (ag.mk (aJ.mk (some ⟨A,0,none⟩) 1 1)) (aJ.mk (some ⟨B,0,none⟩) 1 1) (aJ.mk none 0 0) (ae.mk 0 (I.mk 0 0)) 0)))),(15,(vT [(vI (bE (ah.mk ([(ab.mk 1 (I.mk 1000 1000) (I.mk 0 0) (I.mk 0 0) 0 0)]) ([(aj.mk 0 1 (ae.mk 0 (I.mk 0 0)) 0 1)]) ([]) (ae.mk 0 (I.mk 0 0)) 0) 0 0)),(vI (bB (ah.mk ([(ab.mk 1 (I.mk 1000 1000) (I.mk 0 0) (I.mk 0 0) 0 0)]) ([(aj.mk 0 1 (ae.mk 0 (I.mk 0 0)) 0 1)]) ([]) (ae.mk 0 (I.mk 0 0)) 0) 0 0))])),(16,(vI (bE (ah.mk ([(ab.mk 1 (I.mk 1000 1000) (I.mk 0 0) (I.mk 0 0) 0 0)]) ([(aj.mk 0 1 (ae.mk 0 (I.mk 0 0)) 0 1)]) ([]) (ae.mk 0 (I.mk 0 0)) 0) 0 0))),(17,(vI (bB (ah.mk ([(ab.mk 1 (I.mk 1000 1000) (I.mk 0 0) (I.mk 0 0) 0 0)]) ([(aj.mk 0 1 (ae.mk 0 (I.mk 0 0)) 0 1)]) ([]) (ae.mk 0 (I.mk 0 0)) 0) 0 0))),(19,(vA (ag.cells (ag.mk (aJ.mk (some ⟨A,0,none⟩) 1 1))))),(21,(vS (some ⟨j,0,none⟩) 1 1)),(22,(vA (aZ.cells (aZ.mk (I.mk 0 0) 0 1 true)))),(24,(vA (I.cells (I.mk 1 1)))),(26,(vS (some ⟨L,0,none⟩) 1 1))]) (fun (j,L)=>[(bm L 3 [(vI 0)]),(bm j 77 (bG.cells (bG.mk (I.mk 0 0) 0))),(bm B 75 (aj.cells (aj.mk 0 1 (ae.mk 0 (I.mk 0 0)) 0 1))),(bm C 24 (ag.cells (ag.mk (aJ.mk (some ⟨A,0,none⟩) 1 1)))),(bm A 73 (ab.cells (ab.mk 1 (I.mk 1000 1000) (I.mk 0 0) (I.mk 0 0) 0 0)))]) 10 [4,6,8,9,10,11,12,13,14,15] (fun Ke=>?_) ?_
  rotate_left 1
  ·rintro ⟨j,L⟩-
   refine dz [4,8,13] kr (bD ?_<|bD ?_<|bD ?_<|en)
   rotate_left 1
   ·refine c_ U U U fun T246 La=>bX (xs:=[.tmp 26]) (cs:=[(vS (some ⟨L,0,none⟩) 1 1)]) U iO nN U U U U (by simp [Value.cells]) U U fun Mc=>RD La 3 U ?_
    exact bI Ka (j,L,Mc) trivial [0,1,2,3,4,5] U U U
   ·refine c_ U U U fun T248 Lb=>AL U cv fun Md=>RD Lb 3 U ?_
    exact bI I8 (j,L,Md) trivial [0,1,2,3,4,5] U U U
   refine c_ U U U fun T244 LZ=>bX (xs:=[.tmp 22]) (cs:=(aZ.cells (aZ.mk (I.mk 0 0) 0 1 true))) U lu nB U U U U (by simp [Value.cells,aZ.aq]) U U fun Mb=>RD LZ 3 U ?_
   exact bI Iq (j,Mb,L) trivial [1,0,2,3,4,5] U U U
  refine dp (V:=Nat×Nat) (fun (B9,Ci)=>True) (fun (B9,Ci)=>[(0,(vB false)),(1,(vP C)),(2,(vI (bE (ah.mk ([(ab.mk 1 (I.mk 1000 1000) (I.mk 0 0) (I.mk 0 0) 0 0)]) ([(aj.mk 0 1 (ae.mk 0 (I.mk 0 0)) 0 1)]) ([]) (ae.mk 0 (I.mk 0 0)) 0) 0 0))),(3,(vI (bB (ah.mk ([(ab.mk 1 (I.mk 1000 1000) (I.mk 0 0) (I.mk 0 0) 0 0)]) ([(aj.mk 0 1 (ae.mk 0 (I.mk 0 0)) 0 1)]) ([]) (ae.mk 0 (I.mk 0 0)) 0) 0 0))),(4,(vP Ci)),(6,(vA (I.cells (I.mk 1000 1000)))),(7,(vA (ab.cells (ab.mk 1 (I.mk 1000 1000) (I.mk 0 0) (I.mk 0 0) 0 0)))),(8,(vS (some ⟨A,0,none⟩) 1 1)),(9,(vA (ag.cells (ag.mk (aJ.mk (some ⟨A,0,none⟩) 1 1))))),(10,(vT [(vI (bE (ah.mk ([(ab.mk 1 (I.mk 1000 1000) (I.mk 0 0) (I.mk 0 0) 0 0)]) ([(aj.mk 0 1 (ae.mk 0 (I.mk 0 0)) 0 1)]) ([]) (ae.mk 0 (I.mk 0 0)) 0) 0 0)),(vI (bB (ah.mk ([(ab.mk 1 (I.mk 1000 1000) (I.mk 0 0) (I.mk 0 0) 0 0)]) ([(aj.mk 0 1 (ae.mk 0 (I.mk 0 0)) 0 1)]) ([]) (ae.mk 0 (I.mk 0 0)) 0) 0 0))])),(11,(vA (ag.cells (ag.mk (aJ.mk (some ⟨A,0,none⟩) 1 1))))),(12,(vA (aj.cells (aj.mk 0 1 (ae.mk 0 (I.mk 0 0)) 0 1)))),(13,(vS (some ⟨B,0,none⟩) 1 1)),(14,(vA (aW.cells (aW.mk (ag.mk (aJ.mk (some ⟨A,0,none⟩) 1 1)) (aJ.mk (some ⟨B,0,none⟩) 1 1) (aJ.mk none 0 0) (ae.mk 0 (I.mk 0 0)) 0)))),(15,(vT [(vI (bE (ah.mk ([(ab.mk 1 (I.mk 1000 1000) (I.mk 0 0) (I.mk 0 0) 0 0)]) ([(aj.mk 0 1 (ae.mk 0 (I.mk 0 0)) 0 1)]) ([]) (ae.mk 0 (I.mk 0 0)) 0) 0 0)),(vI (bB (ah.mk ([(ab.mk 1 (I.mk 1000 1000) (I.mk 0 0) (I.mk 0 0) 0 0)]) ([(aj.mk 0 1 (ae.mk 0 (I.mk 0 0)) 0 1)]) ([]) (ae.mk 0 (I.mk 0 0)) 0) 0 0))])),(16,(vI (bE (ah.mk ([(ab.mk 1 (I.mk 1000 1000) (I.mk 0 0) (I.mk 0 0) 0 0)]) ([(aj.mk 0 1 (ae.mk 0 (I.mk 0 0)) 0 1)]) ([]) (ae.mk 0 (I.mk 0 0)) 0) 0 0))),(17,(vI (bB (ah.mk ([(ab.mk 1 (I.mk 1000 1000) (I.mk 0 0) (I.mk 0 0) 0 0)]) ([(aj.mk 0 1 (ae.mk 0 (I.mk 0 0)) 0 1)]) ([]) (ae.mk 0 (I.mk 0 0)) 0) 0 0))),(19,(vA (ag.cells (ag.mk (aJ.mk (some ⟨A,0,none⟩) 1 1))))),(21,(vS (some ⟨B9,0,none⟩) 1 1)),(22,(vA (aZ.cells (aZ.mk (I.mk 0 0) 0 1 true)))),(24,(vA (I.cells (I.mk 1 1))))]) (fun (B9,Ci)=>[(bm Ci 28 (I.cells (I.mk 0 0))),(bm B9 77 (bG.cells (bG.mk (I.mk 0 0) 0))),(bm B 75 (aj.cells (aj.mk 0 1 (ae.mk 0 (I.mk 0 0)) 0 1))),(bm C 24 (ag.cells (ag.mk (aJ.mk (some ⟨A,0,none⟩) 1 1)))),(bm A 73 (ab.cells (ab.mk 1 (I.mk 1000 1000) (I.mk 0 0) (I.mk 0 0) 0 0)))]) 10 [4,6,7,8,9,10,11,12,14,15] (fun Kf=>?_) ?_
  rotate_left 1
  ·rintro ⟨B9,Ci⟩-
   refine dz [4,7] kr (bD ?_<|bD ?_<|en)
   rotate_left 1
   ·refine c_ U U U fun T255 Ld=>bX (xs:=[.const (vI 0)]) (cs:=[(vI 0)]) U cK g6 U U U U (by simp [Value.cells]) U U fun Mf=>RD Ld 3 U ?_
    exact bI I8 (B9,Mf,Ci) trivial [1,0,2,3,4,5] U U U
   refine c_ U U U fun T253 Lc=>bX (xs:=[.tmp 22]) (cs:=(aZ.cells (aZ.mk (I.mk 0 0) 0 1 true))) U lu nB U U U U (by simp [Value.cells,aZ.aq]) U U fun Me=>RD Lc 3 U ?_
   exact bI Ix (B9,Me,Ci) trivial [1,0,2,3,4,5] U U U
  refine dp (V:=Nat×Nat) (fun (k,M)=>True) (fun (k,M)=>[(0,(vB false)),(1,(vP C)),(2,(vI (bE (ah.mk ([(ab.mk 1 (I.mk 1000 1000) (I.mk 0 0) (I.mk 0 0) 0 0)]) ([(aj.mk 0 1 (ae.mk 0 (I.mk 0 0)) 0 1)]) ([]) (ae.mk 0 (I.mk 0 0)) 0) 0 0))),(3,(vI (bB (ah.mk ([(ab.mk 1 (I.mk 1000 1000) (I.mk 0 0) (I.mk 0 0) 0 0)]) ([(aj.mk 0 1 (ae.mk 0 (I.mk 0 0)) 0 1)]) ([]) (ae.mk 0 (I.mk 0 0)) 0) 0 0))),(6,(vA (I.cells (I.mk 1000 1000)))),(7,(vA (ab.cells (ab.mk 1 (I.mk 1000 1000) (I.mk 0 0) (I.mk 0 0) 0 0)))),(8,(vS (some ⟨A,0,none⟩) 1 1)),(9,(vA (ag.cells (ag.mk (aJ.mk (some ⟨A,0,none⟩) 1 1))))),(10,(vT [(vI (bE (ah.mk ([(ab.mk 1 (I.mk 1000 1000) (I.mk 0 0) (I.mk 0 0) 0 0)]) ([(aj.mk 0 1 (ae.mk 0 (I.mk 0 0)) 0 1)]) ([]) (ae.mk 0 (I.mk 0 0)) 0) 0 0)),(vI (bB (ah.mk ([(ab.mk 1 (I.mk 1000 1000) (I.mk 0 0) (I.mk 0 0) 0 0)]) ([(aj.mk 0 1 (ae.mk 0 (I.mk 0 0)) 0 1)]) ([]) (ae.mk 0 (I.mk 0 0)) 0) 0 0))])),(11,(vA (ag.cells (ag.mk (aJ.mk (some ⟨A,0,none⟩) 1 1))))),(12,(vA (aj.cells (aj.mk 0 1 (ae.mk 0 (I.mk 0 0)) 0 1)))),(13,(vS (some ⟨B,0,none⟩) 1 1)),(14,(vA (aW.cells (aW.mk (ag.mk (aJ.mk (some ⟨A,0,none⟩) 1 1)) (aJ.mk (some ⟨B,0,none⟩) 1 1) (aJ.mk none 0 0) (ae.mk 0 (I.mk 0 0)) 0)))),(15,(vT [(vI (bE (ah.mk ([(ab.mk 1 (I.mk 1000 1000) (I.mk 0 0) (I.mk 0 0) 0 0)]) ([(aj.mk 0 1 (ae.mk 0 (I.mk 0 0)) 0 1)]) ([]) (ae.mk 0 (I.mk 0 0)) 0) 0 0)),(vI (bB (ah.mk ([(ab.mk 1 (I.mk 1000 1000) (I.mk 0 0) (I.mk 0 0) 0 0)]) ([(aj.mk 0 1 (ae.mk 0 (I.mk 0 0)) 0 1)]) ([]) (ae.mk 0 (I.mk 0 0)) 0) 0 0))])),(16,(vI (bE (ah.mk ([(ab.mk 1 (I.mk 1000 1000) (I.mk 0 0) (I.mk 0 0) 0 0)]) ([(aj.mk 0 1 (ae.mk 0 (I.mk 0 0)) 0 1)]) ([]) (ae.mk 0 (I.mk 0 0)) 0) 0 0))),(17,(vI (bB (ah.mk ([(ab.mk 1 (I.mk 1000 1000) (I.mk 0 0) (I.mk 0 0) 0 0)]) ([(aj.mk 0 1 (ae.mk 0 (I.mk 0 0)) 0 1)]) ([]) (ae.mk 0 (I.mk 0 0)) 0) 0 0))),(19,(vA (ag.cells (ag.mk (aJ.mk (some ⟨A,0,none⟩) 1 1))))),(20,(vA (bG.cells (bG.mk (I.mk 0 0) 0)))),(23,(vS (some ⟨k,0,none⟩) 1 1)),(24,(vA (I.cells (I.mk 1 1)))),(26,(vS (some ⟨M,0,none⟩) 1 1))]) (fun (k,M)=>[(bm M 3 [(vI 0)]),(bm k 79 (aZ.cells (aZ.mk (I.mk 0 0) 0 1 true))),(bm B 75 (aj.cells (aj.mk 0 1 (ae.mk 0 (I.mk 0 0)) 0 1))),(bm C 24 (ag.cells (ag.mk (aJ.mk (some ⟨A,0,none⟩) 1 1)))),(bm A 73 (ab.cells (ab.mk 1 (I.mk 1000 1000) (I.mk 0 0) (I.mk 0 0) 0 0)))]) 10 [2,6,8,9,10,11,12,13,14,15] (fun Kg=>?_) ?_
  rotate_left 1
  ·rintro ⟨k,M⟩-
   refine dz [2,8,13] kr (bD ?_<|bD ?_<|bD ?_<|en)
   rotate_left 1
   ·refine c_ U U U fun T262 Lf=>bX (xs:=[.tmp 26]) (cs:=[(vS (some ⟨M,0,none⟩) 1 1)]) U iO nN U U U U (by simp [Value.cells]) U U fun Mh=>RD Lf 3 U ?_
    exact bI Kb (k,M,Mh) trivial [0,1,2,3,4,5] U U U
   ·refine c_ U U U fun T264 Lg=>AL U cv fun Mi=>RD Lg 3 U ?_
    exact bI JD (k,M,Mi) trivial [0,1,2,3,4,5] U U U
   refine c_ U U U fun T260 Le=>bX (xs:=[.tmp 20]) (cs:=(bG.cells (bG.mk (I.mk 0 0) 0))) U lJ o8 U U U U (by simp [Value.cells,bG.aq]) U U fun Mg=>RD Le 3 U ?_
   exact bI Iq (Mg,k,M) trivial [1,2,0,3,4,5] U U U
  refine dp (V:=Nat×Nat) (fun (Ck,Cp)=>True) (fun (Ck,Cp)=>[(0,(vB false)),(1,(vP C)),(2,(vI (bE (ah.mk ([(ab.mk 1 (I.mk 1000 1000) (I.mk 0 0) (I.mk 0 0) 0 0)]) ([(aj.mk 0 1 (ae.mk 0 (I.mk 0 0)) 0 1)]) ([]) (ae.mk 0 (I.mk 0 0)) 0) 0 0))),(3,(vI (bB (ah.mk ([(ab.mk 1 (I.mk 1000 1000) (I.mk 0 0) (I.mk 0 0) 0 0)]) ([(aj.mk 0 1 (ae.mk 0 (I.mk 0 0)) 0 1)]) ([]) (ae.mk 0 (I.mk 0 0)) 0) 0 0))),(4,(vP Cp)),(6,(vA (I.cells (I.mk 1000 1000)))),(7,(vA (ab.cells (ab.mk 1 (I.mk 1000 1000) (I.mk 0 0) (I.mk 0 0) 0 0)))),(8,(vS (some ⟨A,0,none⟩) 1 1)),(9,(vA (ag.cells (ag.mk (aJ.mk (some ⟨A,0,none⟩) 1 1))))),(10,(vT [(vI (bE (ah.mk ([(ab.mk 1 (I.mk 1000 1000) (I.mk 0 0) (I.mk 0 0) 0 0)]) ([(aj.mk 0 1 (ae.mk 0 (I.mk 0 0)) 0 1)]) ([]) (ae.mk 0 (I.mk 0 0)) 0) 0 0)),(vI (bB (ah.mk ([(ab.mk 1 (I.mk 1000 1000) (I.mk 0 0) (I.mk 0 0) 0 0)]) ([(aj.mk 0 1 (ae.mk 0 (I.mk 0 0)) 0 1)]) ([]) (ae.mk 0 (I.mk 0 0)) 0) 0 0))])),(11,(vA (ag.cells (ag.mk (aJ.mk (some ⟨A,0,none⟩) 1 1))))),(12,(vA (aj.cells (aj.mk 0 1 (ae.mk 0 (I.mk 0 0)) 0 1)))),(13,(vS (some ⟨B,0,none⟩) 1 1)),(14,(vA (aW.cells (aW.mk (ag.mk (aJ.mk (some ⟨A,0,none⟩) 1 1)) (aJ.mk (some ⟨B,0,none⟩) 1 1) (aJ.mk none 0 0) (ae.mk 0 (I.mk 0 0)) 0)))),(15,(vT [(vI (bE (ah.mk ([(ab.mk 1 (I.mk 1000 1000) (I.mk 0 0) (I.mk 0 0) 0 0)]) ([(aj.mk 0 1 (ae.mk 0 (I.mk 0 0)) 0 1)]) ([]) (ae.mk 0 (I.mk 0 0)) 0) 0 0)),(vI (bB (ah.mk ([(ab.mk 1 (I.mk 1000 1000) (I.mk 0 0) (I.mk 0 0) 0 0)]) ([(aj.mk 0 1 (ae.mk 0 (I.mk 0 0)) 0 1)]) ([]) (ae.mk 0 (I.mk 0 0)) 0) 0 0))])),(16,(vI (bE (ah.mk ([(ab.mk 1 (I.mk 1000 1000) (I.mk 0 0) (I.mk 0 0) 0 0)]) ([(aj.mk 0 1 (ae.mk 0 (I.mk 0 0)) 0 1)]) ([]) (ae.mk 0 (I.mk 0 0)) 0) 0 0))),(17,(vI (bB (ah.mk ([(ab.mk 1 (I.mk 1000 1000) (I.mk 0 0) (I.mk 0 0) 0 0)]) ([(aj.mk 0 1 (ae.mk 0 (I.mk 0 0)) 0 1)]) ([]) (ae.mk 0 (I.mk 0 0)) 0) 0 0))),(19,(vA (ag.cells (ag.mk (aJ.mk (some ⟨A,0,none⟩) 1 1))))),(20,(vA (bG.cells (bG.mk (I.mk 0 0) 0)))),(23,(vS (some ⟨Ck,0,none⟩) 1 1)),(24,(vA (I.cells (I.mk 1 1))))]) (fun (Ck,Cp)=>[(bm Cp 28 (I.cells (I.mk 0 0))),(bm Ck 79 (aZ.cells (aZ.mk (I.mk 0 0) 0 1 true))),(bm B 75 (aj.cells (aj.mk 0 1 (ae.mk 0 (I.mk 0 0)) 0 1))),(bm C 24 (ag.cells (ag.mk (aJ.mk (some ⟨A,0,none⟩) 1 1)))),(bm A 73 (ab.cells (ab.mk 1 (I.mk 1000 1000) (I.mk 0 0) (I.mk 0 0) 0 0)))]) 10 [2,6,7,8,9,10,11,12,14,15] (fun Kh=>?_) ?_
  rotate_left 1
  ·rintro ⟨Ck,Cp⟩-
   refine dz [2,7] kr (bD ?_<|bD ?_<|en)
   rotate_left 1
   ·refine c_ U U U fun T271 Li=>bX (xs:=[.const (vI 0)]) (cs:=[(vI 0)]) U cK g6 U U U U (by simp [Value.cells]) U U fun Mk=>RD Li 3 U ?_
    exact bI JD (Ck,Mk,Cp) trivial [1,0,2,3,4,5] U U U
   refine c_ U U U fun T269 Lh=>bX (xs:=[.tmp 20]) (cs:=(bG.cells (bG.mk (I.mk 0 0) 0))) U lJ o8 U U U U (by simp [Value.cells,bG.aq]) U U fun Mj=>RD Lh 3 U ?_
   exact bI Ix (Mj,Ck,Cp) trivial [1,2,0,3,4,5] U U U
  refine dp (V:=Nat×Nat) (fun (N,l)=>True) (fun (N,l)=>[(0,(vB false)),(1,(vP C)),(2,(vI (bE (ah.mk ([(ab.mk 1 (I.mk 1000 1000) (I.mk 0 0) (I.mk 0 0) 0 0)]) ([(aj.mk 0 1 (ae.mk 0 (I.mk 0 0)) 0 1)]) ([]) (ae.mk 0 (I.mk 0 0)) 0) 0 0))),(3,(vI (bB (ah.mk ([(ab.mk 1 (I.mk 1000 1000) (I.mk 0 0) (I.mk 0 0) 0 0)]) ([(aj.mk 0 1 (ae.mk 0 (I.mk 0 0)) 0 1)]) ([]) (ae.mk 0 (I.mk 0 0)) 0) 0 0))),(6,(vA (I.cells (I.mk 1000 1000)))),(7,(vA (ab.cells (ab.mk 1 (I.mk 1000 1000) (I.mk 0 0) (I.mk 0 0) 0 0)))),(8,(vS (some ⟨A,0,none⟩) 1 1)),(9,(vA (ag.cells (ag.mk (aJ.mk (some ⟨A,0,none⟩) 1 1))))),(10,(vT [(vI (bE (ah.mk ([(ab.mk 1 (I.mk 1000 1000) (I.mk 0 0) (I.mk 0 0) 0 0)]) ([(aj.mk 0 1 (ae.mk 0 (I.mk 0 0)) 0 1)]) ([]) (ae.mk 0 (I.mk 0 0)) 0) 0 0)),(vI (bB (ah.mk ([(ab.mk 1 (I.mk 1000 1000) (I.mk 0 0) (I.mk 0 0) 0 0)]) ([(aj.mk 0 1 (ae.mk 0 (I.mk 0 0)) 0 1)]) ([]) (ae.mk 0 (I.mk 0 0)) 0) 0 0))])),(11,(vA (ag.cells (ag.mk (aJ.mk (some ⟨A,0,none⟩) 1 1))))),(12,(vA (aj.cells (aj.mk 0 1 (ae.mk 0 (I.mk 0 0)) 0 1)))),(13,(vS (some ⟨B,0,none⟩) 1 1)),(14,(vA (aW.cells (aW.mk (ag.mk (aJ.mk (some ⟨A,0,none⟩) 1 1)) (aJ.mk (some ⟨B,0,none⟩) 1 1) (aJ.mk none 0 0) (ae.mk 0 (I.mk 0 0)) 0)))),(15,(vT [(vI (bE (ah.mk ([(ab.mk 1 (I.mk 1000 1000) (I.mk 0 0) (I.mk 0 0) 0 0)]) ([(aj.mk 0 1 (ae.mk 0 (I.mk 0 0)) 0 1)]) ([]) (ae.mk 0 (I.mk 0 0)) 0) 0 0)),(vI (bB (ah.mk ([(ab.mk 1 (I.mk 1000 1000) (I.mk 0 0) (I.mk 0 0) 0 0)]) ([(aj.mk 0 1 (ae.mk 0 (I.mk 0 0)) 0 1)]) ([]) (ae.mk 0 (I.mk 0 0)) 0) 0 0))])),(16,(vI (bE (ah.mk ([(ab.mk 1 (I.mk 1000 1000) (I.mk 0 0) (I.mk 0 0) 0 0)]) ([(aj.mk 0 1 (ae.mk 0 (I.mk 0 0)) 0 1)]) ([]) (ae.mk 0 (I.mk 0 0)) 0) 0 0))),(17,(vI (bB (ah.mk ([(ab.mk 1 (I.mk 1000 1000) (I.mk 0 0) (I.mk 0 0) 0 0)]) ([(aj.mk 0 1 (ae.mk 0 (I.mk 0 0)) 0 1)]) ([]) (ae.mk 0 (I.mk 0 0)) 0) 0 0))),(19,(vA (ag.cells (ag.mk (aJ.mk (some ⟨A,0,none⟩) 1 1))))),(20,(vA (bG.cells (bG.mk (I.mk 0 0) 0)))),(22,(vA (aZ.cells (aZ.mk (I.mk 0 0) 0 1 true)))),(24,(vA (I.cells (I.mk 1 1)))),(26,(vS (some ⟨N,0,none⟩) 1 1)),(27,(vS (some ⟨l,0,none⟩) 1 1))]) (fun (N,l)=>[(bm l 67 [(vS (some ⟨N,0,none⟩) 1 1)]),(bm N 3 [(vI 0)]),(bm B 75 (aj.cells (aj.mk 0 1 (ae.mk 0 (I.mk 0 0)) 0 1))),(bm C 24 (ag.cells (ag.mk (aJ.mk (some ⟨A,0,none⟩) 1 1)))),(bm A 73 (ab.cells (ab.mk 1 (I.mk 1000 1000) (I.mk 0 0) (I.mk 0 0) 0 0)))]) 10 [2,4,6,9,10,11,12,13,14,15] (fun Kq=>?_) ?_
  rotate_left 1
  ·rintro ⟨N,l⟩-
   refine dz [2,4,13] kr (bD ?_<|bD ?_<|bD ?_<|en)
   rotate_left 2
   ·refine c_ U U U fun T280 Ll=>AL U cv fun Mn=>RD Ll 3 U ?_
    exact bI Kc (N,l,Mn) trivial [0,1,2,3,4,5] U U U
   ·refine c_ U U U fun T276 Lj=>bX (xs:=[.tmp 20]) (cs:=(bG.cells (bG.mk (I.mk 0 0) 0))) U lJ o8 U U U U (by simp [Value.cells,bG.aq]) U U fun Ml=>RD Lj 3 U ?_
    exact bI Ka (Ml,N,l) trivial [1,2,0,3,4,5] U U U
   refine c_ U U U fun T278 Lk=>bX (xs:=[.tmp 22]) (cs:=(aZ.cells (aZ.mk (I.mk 0 0) 0 1 true))) U lu nB U U U U (by simp [Value.cells,aZ.aq]) U U fun Mm=>RD Lk 3 U ?_
   exact bI Kb (Mm,N,l) trivial [1,2,0,3,4,5] U U U
  refine dp (V:=Nat×Nat) (fun (O,o)=>True) (fun (O,o)=>[(0,(vB false)),(1,(vP C)),(2,(vI (bE (ah.mk ([(ab.mk 1 (I.mk 1000 1000) (I.mk 0 0) (I.mk 0 0) 0 0)]) ([(aj.mk 0 1 (ae.mk 0 (I.mk 0 0)) 0 1)]) ([]) (ae.mk 0 (I.mk 0 0)) 0) 0 0))),(3,(vI (bB (ah.mk ([(ab.mk 1 (I.mk 1000 1000) (I.mk 0 0) (I.mk 0 0) 0 0)]) ([(aj.mk 0 1 (ae.mk 0 (I.mk 0 0)) 0 1)]) ([]) (ae.mk 0 (I.mk 0 0)) 0) 0 0))),(4,(vP o)),(6,(vA (I.cells (I.mk 1000 1000)))),(7,(vA (ab.cells (ab.mk 1 (I.mk 1000 1000) (I.mk 0 0) (I.mk 0 0) 0 0)))),(8,(vS (some ⟨A,0,none⟩) 1 1)),(9,(vA (ag.cells (ag.mk (aJ.mk (some ⟨A,0,none⟩) 1 1))))),(10,(vT [(vI (bE (ah.mk ([(ab.mk 1 (I.mk 1000 1000) (I.mk 0 0) (I.mk 0 0) 0 0)]) ([(aj.mk 0 1 (ae.mk 0 (I.mk 0 0)) 0 1)]) ([]) (ae.mk 0 (I.mk 0 0)) 0) 0 0)),(vI (bB (ah.mk ([(ab.mk 1 (I.mk 1000 1000) (I.mk 0 0) (I.mk 0 0) 0 0)]) ([(aj.mk 0 1 (ae.mk 0 (I.mk 0 0)) 0 1)]) ([]) (ae.mk 0 (I.mk 0 0)) 0) 0 0))])),(11,(vA (ag.cells (ag.mk (aJ.mk (some ⟨A,0,none⟩) 1 1))))),(12,(vA (aj.cells (aj.mk 0 1 (ae.mk 0 (I.mk 0 0)) 0 1)))),(13,(vS (some ⟨B,0,none⟩) 1 1)),(14,(vA (aW.cells (aW.mk (ag.mk (aJ.mk (some ⟨A,0,none⟩) 1 1)) (aJ.mk (some ⟨B,0,none⟩) 1 1) (aJ.mk none 0 0) (ae.mk 0 (I.mk 0 0)) 0)))),(15,(vT [(vI (bE (ah.mk ([(ab.mk 1 (I.mk 1000 1000) (I.mk 0 0) (I.mk 0 0) 0 0)]) ([(aj.mk 0 1 (ae.mk 0 (I.mk 0 0)) 0 1)]) ([]) (ae.mk 0 (I.mk 0 0)) 0) 0 0)),(vI (bB (ah.mk ([(ab.mk 1 (I.mk 1000 1000) (I.mk 0 0) (I.mk 0 0) 0 0)]) ([(aj.mk 0 1 (ae.mk 0 (I.mk 0 0)) 0 1)]) ([]) (ae.mk 0 (I.mk 0 0)) 0) 0 0))])),(16,(vI (bE (ah.mk ([(ab.mk 1 (I.mk 1000 1000) (I.mk 0 0) (I.mk 0 0) 0 0)]) ([(aj.mk 0 1 (ae.mk 0 (I.mk 0 0)) 0 1)]) ([]) (ae.mk 0 (I.mk 0 0)) 0) 0 0))),(17,(vI (bB (ah.mk ([(ab.mk 1 (I.mk 1000 1000) (I.mk 0 0) (I.mk 0 0) 0 0)]) ([(aj.mk 0 1 (ae.mk 0 (I.mk 0 0)) 0 1)]) ([]) (ae.mk 0 (I.mk 0 0)) 0) 0 0))),(19,(vA (ag.cells (ag.mk (aJ.mk (some ⟨A,0,none⟩) 1 1))))),(20,(vA (bG.cells (bG.mk (I.mk 0 0) 0)))),(22,(vA (aZ.cells (aZ.mk (I.mk 0 0) 0 1 true)))),(24,(vA (I.cells (I.mk 1 1)))),(26,(vS (some ⟨O,0,none⟩) 1 1))]) (fun (O,o)=>[(bm o 28 (I.cells (I.mk 0 0))),(bm O 3 [(vI 0)]),(bm B 75 (aj.cells (aj.mk 0 1 (ae.mk 0 (I.mk 0 0)) 0 1))),(bm C 24 (ag.cells (ag.mk (aJ.mk (some ⟨A,0,none⟩) 1 1)))),(bm A 73 (ab.cells (ab.mk 1 (I.mk 1000 1000) (I.mk 0 0) (I.mk 0 0) 0 0)))]) 10 [2,4,6,8,9,10,11,12,14,15] (fun Ki=>?_) ?_
  rotate_left 1
  ·rintro ⟨O,o⟩-
   refine dz [2,4,8] kr (bD ?_<|bD ?_<|bD ?_<|en)
   rotate_left 2
   ·refine c_ U U U fun T289 Lo=>bX (xs:=[.tmp 26]) (cs:=[(vS (some ⟨O,0,none⟩) 1 1)]) U iO nN U U U U (by simp [Value.cells]) U U fun Mq=>RD Lo 3 U ?_
    exact bI Kc (O,Mq,o) trivial [1,0,2,3,4,5] U U U
   ·refine c_ U U U fun T285 Lm=>bX (xs:=[.tmp 20]) (cs:=(bG.cells (bG.mk (I.mk 0 0) 0))) U lJ o8 U U U U (by simp [Value.cells,bG.aq]) U U fun Mo=>RD Lm 3 U ?_
    exact bI I8 (Mo,O,o) trivial [1,2,0,3,4,5] U U U
   refine c_ U U U fun T287 Ln=>bX (xs:=[.tmp 22]) (cs:=(aZ.cells (aZ.mk (I.mk 0 0) 0 1 true))) U lu nB U U U U (by simp [Value.cells,aZ.aq]) U U fun Mp=>RD Ln 3 U ?_
   exact bI JD (Mp,O,o) trivial [1,2,0,3,4,5] U U U
  refine dp (V:=Nat) (fun p=>True) (fun p=>[(0,(vB false)),(1,(vP C)),(2,(vI (bE (ah.mk ([(ab.mk 1 (I.mk 1000 1000) (I.mk 0 0) (I.mk 0 0) 0 0)]) ([(aj.mk 0 1 (ae.mk 0 (I.mk 0 0)) 0 1)]) ([]) (ae.mk 0 (I.mk 0 0)) 0) 0 0))),(3,(vI (bB (ah.mk ([(ab.mk 1 (I.mk 1000 1000) (I.mk 0 0) (I.mk 0 0) 0 0)]) ([(aj.mk 0 1 (ae.mk 0 (I.mk 0 0)) 0 1)]) ([]) (ae.mk 0 (I.mk 0 0)) 0) 0 0))),(6,(vA (I.cells (I.mk 1000 1000)))),(7,(vA (ab.cells (ab.mk 1 (I.mk 1000 1000) (I.mk 0 0) (I.mk 0 0) 0 0)))),(8,(vS (some ⟨A,0,none⟩) 1 1)),(9,(vA (ag.cells (ag.mk (aJ.mk (some ⟨A,0,none⟩) 1 1))))),(10,(vT [(vI (bE (ah.mk ([(ab.mk 1 (I.mk 1000 1000) (I.mk 0 0) (I.mk 0 0) 0 0)]) ([(aj.mk 0 1 (ae.mk 0 (I.mk 0 0)) 0 1)]) ([]) (ae.mk 0 (I.mk 0 0)) 0) 0 0)),(vI (bB (ah.mk ([(ab.mk 1 (I.mk 1000 1000) (I.mk 0 0) (I.mk 0 0) 0 0)]) ([(aj.mk 0 1 (ae.mk 0 (I.mk 0 0)) 0 1)]) ([]) (ae.mk 0 (I.mk 0 0)) 0) 0 0))])),(11,(vA (ag.cells (ag.mk (aJ.mk (some ⟨A,0,none⟩) 1 1))))),(12,(vA (aj.cells (aj.mk 0 1 (ae.mk 0 (I.mk 0 0)) 0 1)))),(13,(vS (some ⟨B,0,none⟩) 1 1)),(14,(vA (aW.cells (aW.mk (ag.mk (aJ.mk (some ⟨A,0,none⟩) 1 1)) (aJ.mk (some ⟨B,0,none⟩) 1 1) (aJ.mk none 0 0) (ae.mk 0 (I.mk 0 0)) 0)))),(15,(vT [(vI (bE (ah.mk ([(ab.mk 1 (I.mk 1000 1000) (I.mk 0 0) (I.mk 0 0) 0 0)]) ([(aj.mk 0 1 (ae.mk 0 (I.mk 0 0)) 0 1)]) ([]) (ae.mk 0 (I.mk 0 0)) 0) 0 0)),(vI (bB (ah.mk ([(ab.mk 1 (I.mk 1000 1000) (I.mk 0 0) (I.mk 0 0) 0 0)]) ([(aj.mk 0 1 (ae.mk 0 (I.mk 0 0)) 0 1)]) ([]) (ae.mk 0 (I.mk 0 0)) 0) 0 0))])),(16,(vI (bE (ah.mk ([(ab.mk 1 (I.mk 1000 1000) (I.mk 0 0) (I.mk 0 0) 0 0)]) ([(aj.mk 0 1 (ae.mk 0 (I.mk 0 0)) 0 1)]) ([]) (ae.mk 0 (I.mk 0 0)) 0) 0 0))),(17,(vI (bB (ah.mk ([(ab.mk 1 (I.mk 1000 1000) (I.mk 0 0) (I.mk 0 0) 0 0)]) ([(aj.mk 0 1 (ae.mk 0 (I.mk 0 0)) 0 1)]) ([]) (ae.mk 0 (I.mk 0 0)) 0) 0 0))),(19,(vA (ag.cells (ag.mk (aJ.mk (some ⟨A,0,none⟩) 1 1))))),(21,(vS (some ⟨p,0,none⟩) 1 1)),(22,(vA (aZ.cells (aZ.mk (I.mk 0 0) 0 1 true)))),(24,(vA (I.cells (I.mk 1 1))))]) (fun p=>[(bm p 77 (bG.cells (bG.mk (I.mk 0 0) 0))),(bm B 75 (aj.cells (aj.mk 0 1 (ae.mk 0 (I.mk 0 0)) 0 1))),(bm C 24 (ag.cells (ag.mk (aJ.mk (some ⟨A,0,none⟩) 1 1)))),(bm A 73 (ab.cells (ab.mk 1 (I.mk 1000 1000) (I.mk 0 0) (I.mk 0 0) 0 0)))]) 11 [4,6,7,8,9,10,11,12,13,14,15] (fun Kr=>?_) ?_
  rotate_left 1
  ·rintro p-
   refine dz [4,7,13] kr (bD ?_<|bD ?_<|bD ?_<|en)
   rotate_left 1
   ·refine c_ U U U fun T295 Lq=>bX (xs:=[.const (vI 0)]) (cs:=[(vI 0)]) U cK g6 U U U U (by simp [Value.cells]) U U fun Ms=>RD Lq 2 U ?_
    exact bI Ke (p,Ms) trivial [0,1,2,3,4] U U U
   ·refine c_ U U U fun T297 Lr=>AL U cv fun Mt=>RD Lr 2 U ?_
    exact bI Kf (p,Mt) trivial [0,1,2,3,4] U U U
   refine c_ U U U fun T293 Lp=>bX (xs:=[.tmp 22]) (cs:=(aZ.cells (aZ.mk (I.mk 0 0) 0 1 true))) U lu nB U U U U (by simp [Value.cells,aZ.aq]) U U fun Mr=>RD Lp 2 U ?_
   exact bI Kd (p,Mr) trivial [0,1,2,3,4] U U U
  refine dp (V:=Nat) (fun q=>True) (fun q=>[(0,(vB false)),(1,(vP C)),(2,(vI (bE (ah.mk ([(ab.mk 1 (I.mk 1000 1000) (I.mk 0 0) (I.mk 0 0) 0 0)]) ([(aj.mk 0 1 (ae.mk 0 (I.mk 0 0)) 0 1)]) ([]) (ae.mk 0 (I.mk 0 0)) 0) 0 0))),(3,(vI (bB (ah.mk ([(ab.mk 1 (I.mk 1000 1000) (I.mk 0 0) (I.mk 0 0) 0 0)]) ([(aj.mk 0 1 (ae.mk 0 (I.mk 0 0)) 0 1)]) ([]) (ae.mk 0 (I.mk 0 0)) 0) 0 0))),(6,(vA (I.cells (I.mk 1000 1000)))),(7,(vA (ab.cells (ab.mk 1 (I.mk 1000 1000) (I.mk 0 0) (I.mk 0 0) 0 0)))),(8,(vS (some ⟨A,0,none⟩) 1 1)),(9,(vA (ag.cells (ag.mk (aJ.mk (some ⟨A,0,none⟩) 1 1))))),(10,(vT [(vI (bE (ah.mk ([(ab.mk 1 (I.mk 1000 1000) (I.mk 0 0) (I.mk 0 0) 0 0)]) ([(aj.mk 0 1 (ae.mk 0 (I.mk 0 0)) 0 1)]) ([]) (ae.mk 0 (I.mk 0 0)) 0) 0 0)),(vI (bB (ah.mk ([(ab.mk 1 (I.mk 1000 1000) (I.mk 0 0) (I.mk 0 0) 0 0)]) ([(aj.mk 0 1 (ae.mk 0 (I.mk 0 0)) 0 1)]) ([]) (ae.mk 0 (I.mk 0 0)) 0) 0 0))])),(11,(vA (ag.cells (ag.mk (aJ.mk (some ⟨A,0,none⟩) 1 1))))),(12,(vA (aj.cells (aj.mk 0 1 (ae.mk 0 (I.mk 0 0)) 0 1)))),(13,(vS (some ⟨B,0,none⟩) 1 1)),(14,(vA (aW.cells (aW.mk (ag.mk (aJ.mk (some ⟨A,0,none⟩) 1 1)) (aJ.mk (some ⟨B,0,none⟩) 1 1) (aJ.mk none 0 0) (ae.mk 0 (I.mk 0 0)) 0)))),(15,(vT [(vI (bE (ah.mk ([(ab.mk 1 (I.mk 1000 1000) (I.mk 0 0) (I.mk 0 0) 0 0)]) ([(aj.mk 0 1 (ae.mk 0 (I.mk 0 0)) 0 1)]) ([]) (ae.mk 0 (I.mk 0 0)) 0) 0 0)),(vI (bB (ah.mk ([(ab.mk 1 (I.mk 1000 1000) (I.mk 0 0) (I.mk 0 0) 0 0)]) ([(aj.mk 0 1 (ae.mk 0 (I.mk 0 0)) 0 1)]) ([]) (ae.mk 0 (I.mk 0 0)) 0) 0 0))])),(16,(vI (bE (ah.mk ([(ab.mk 1 (I.mk 1000 1000) (I.mk 0 0) (I.mk 0 0) 0 0)]) ([(aj.mk 0 1 (ae.mk 0 (I.mk 0 0)) 0 1)]) ([]) (ae.mk 0 (I.mk 0 0)) 0) 0 0))),(17,(vI (bB (ah.mk ([(ab.mk 1 (I.mk 1000 1000) (I.mk 0 0) (I.mk 0 0) 0 0)]) ([(aj.mk 0 1 (ae.mk 0 (I.mk 0 0)) 0 1)]) ([]) (ae.mk 0 (I.mk 0 0)) 0) 0 0))),(19,(vA (ag.cells (ag.mk (aJ.mk (some ⟨A,0,none⟩) 1 1))))),(20,(vA (bG.cells (bG.mk (I.mk 0 0) 0)))),(23,(vS (some ⟨q,0,none⟩) 1 1)),(24,(vA (I.cells (I.mk 1 1))))]) (fun q=>[(bm q 79 (aZ.cells (aZ.mk (I.mk 0 0) 0 1 true))),(bm B 75 (aj.cells (aj.mk 0 1 (ae.mk 0 (I.mk 0 0)) 0 1))),(bm C 24 (ag.cells (ag.mk (aJ.mk (some ⟨A,0,none⟩) 1 1)))),(bm A 73 (ab.cells (ab.mk 1 (I.mk 1000 1000) (I.mk 0 0) (I.mk 0 0) 0 0)))]) 11 [2,6,7,8,9,10,11,12,13,14,15] (fun Ks=>?_) ?_
  rotate_left 1
  ·rintro q-
   refine dz [2,7,13] kr (bD ?_<|bD ?_<|bD ?_<|en)
   rotate_left 1
   ·refine c_ U U U fun T303 Lt=>bX (xs:=[.const (vI 0)]) (cs:=[(vI 0)]) U cK g6 U U U U (by simp [Value.cells]) U U fun Mw=>RD Lt 2 U ?_
    exact bI Kg (q,Mw) trivial [0,1,2,3,4] U U U
   ·refine c_ U U U fun T305 Lu=>AL U cv fun Mx=>RD Lu 2 U ?_
    exact bI Kh (q,Mx) trivial [0,1,2,3,4] U U U
   refine c_ U U U fun T301 Ls=>bX (xs:=[.tmp 20]) (cs:=(bG.cells (bG.mk (I.mk 0 0) 0))) U lJ o8 U U U U (by simp [Value.cells,bG.aq]) U U fun Mu=>RD Ls 2 U ?_
   exact bI Kd (Mu,q) trivial [1,0,2,3,4] U U U
  refine dp (V:=Nat) (fun E=>True) (fun E=>[(0,(vB false)),(1,(vP C)),(2,(vI (bE (ah.mk ([(ab.mk 1 (I.mk 1000 1000) (I.mk 0 0) (I.mk 0 0) 0 0)]) ([(aj.mk 0 1 (ae.mk 0 (I.mk 0 0)) 0 1)]) ([]) (ae.mk 0 (I.mk 0 0)) 0) 0 0))),(3,(vI (bB (ah.mk ([(ab.mk 1 (I.mk 1000 1000) (I.mk 0 0) (I.mk 0 0) 0 0)]) ([(aj.mk 0 1 (ae.mk 0 (I.mk 0 0)) 0 1)]) ([]) (ae.mk 0 (I.mk 0 0)) 0) 0 0))),(6,(vA (I.cells (I.mk 1000 1000)))),(7,(vA (ab.cells (ab.mk 1 (I.mk 1000 1000) (I.mk 0 0) (I.mk 0 0) 0 0)))),(8,(vS (some ⟨A,0,none⟩) 1 1)),(9,(vA (ag.cells (ag.mk (aJ.mk (some ⟨A,0,none⟩) 1 1))))),(10,(vT [(vI (bE (ah.mk ([(ab.mk 1 (I.mk 1000 1000) (I.mk 0 0) (I.mk 0 0) 0 0)]) ([(aj.mk 0 1 (ae.mk 0 (I.mk 0 0)) 0 1)]) ([]) (ae.mk 0 (I.mk 0 0)) 0) 0 0)),(vI (bB (ah.mk ([(ab.mk 1 (I.mk 1000 1000) (I.mk 0 0) (I.mk 0 0) 0 0)]) ([(aj.mk 0 1 (ae.mk 0 (I.mk 0 0)) 0 1)]) ([]) (ae.mk 0 (I.mk 0 0)) 0) 0 0))])),(11,(vA (ag.cells (ag.mk (aJ.mk (some ⟨A,0,none⟩) 1 1))))),(12,(vA (aj.cells (aj.mk 0 1 (ae.mk 0 (I.mk 0 0)) 0 1)))),(13,(vS (some ⟨B,0,none⟩) 1 1)),(14,(vA (aW.cells (aW.mk (ag.mk (aJ.mk (some ⟨A,0,none⟩) 1 1)) (aJ.mk (some ⟨B,0,none⟩) 1 1) (aJ.mk none 0 0) (ae.mk 0 (I.mk 0 0)) 0)))),(15,(vT [(vI (bE (ah.mk ([(ab.mk 1 (I.mk 1000 1000) (I.mk 0 0) (I.mk 0 0) 0 0)]) ([(aj.mk 0 1 (ae.mk 0 (I.mk 0 0)) 0 1)]) ([]) (ae.mk 0 (I.mk 0 0)) 0) 0 0)),(vI (bB (ah.mk ([(ab.mk 1 (I.mk 1000 1000) (I.mk 0 0) (I.mk 0 0) 0 0)]) ([(aj.mk 0 1 (ae.mk 0 (I.mk 0 0)) 0 1)]) ([]) (ae.mk 0 (I.mk 0 0)) 0) 0 0))])),(16,(vI (bE (ah.mk ([(ab.mk 1 (I.mk 1000 1000) (I.mk 0 0) (I.mk 0 0) 0 0)]) ([(aj.mk 0 1 (ae.mk 0 (I.mk 0 0)) 0 1)]) ([]) (ae.mk 0 (I.mk 0 0)) 0) 0 0))),(17,(vI (bB (ah.mk ([(ab.mk 1 (I.mk 1000 1000) (I.mk 0 0) (I.mk 0 0) 0 0)]) ([(aj.mk 0 1 (ae.mk 0 (I.mk 0 0)) 0 1)]) ([]) (ae.mk 0 (I.mk 0 0)) 0) 0 0))),(19,(vA (ag.cells (ag.mk (aJ.mk (some ⟨A,0,none⟩) 1 1))))),(20,(vA (bG.cells (bG.mk (I.mk 0 0) 0)))),(22,(vA (aZ.cells (aZ.mk (I.mk 0 0) 0 1 true)))),(24,(vA (I.cells (I.mk 1 1)))),(26,(vS (some ⟨E,0,none⟩) 1 1))]) (fun E=>[(bm E 3 [(vI 0)]),(bm B 75 (aj.cells (aj.mk 0 1 (ae.mk 0 (I.mk 0 0)) 0 1))),(bm C 24 (ag.cells (ag.mk (aJ.mk (some ⟨A,0,none⟩) 1 1)))),(bm A 73 (ab.cells (ab.mk 1 (I.mk 1000 1000) (I.mk 0 0) (I.mk 0 0) 0 0)))]) 11 [2,4,6,8,9,10,11,12,13,14,15] (fun Kt=>?_) ?_
  rotate_left 1
  ·rintro E-
   refine dz [2,4,8,13] kr (bD ?_<|bD ?_<|bD ?_<|bD ?_<|en)
   rotate_left 2
   ·refine c_ U U U fun T313 Lx=>bX (xs:=[.tmp 26]) (cs:=[(vS (some ⟨E,0,none⟩) 1 1)]) U iO nN U U U U (by simp [Value.cells]) U U fun M0=>RD Lx 2 U ?_
    exact bI Kq (E,M0) trivial [0,1,2,3,4] U U U
   ·refine c_ U U U fun T315 Ly=>AL U cv fun M1=>RD Ly 2 U ?_
    exact bI Ki (E,M1) trivial [0,1,2,3,4] U U U
   ·refine c_ U U U fun T309 Lv=>bX (xs:=[.tmp 20]) (cs:=(bG.cells (bG.mk (I.mk 0 0) 0))) U lJ o8 U U U U (by simp [Value.cells,bG.aq]) U U fun My=>RD Lv 2 U ?_
    exact bI Ke (My,E) trivial [1,0,2,3,4] U U U
   refine c_ U U U fun T311 Lw=>bX (xs:=[.tmp 22]) (cs:=(aZ.cells (aZ.mk (I.mk 0 0) 0 1 true))) U lu nB U U U U (by simp [Value.cells,aZ.aq]) U U fun Mz=>RD Lw 2 U ?_
   exact bI Kg (Mz,E) trivial [1,0,2,3,4] U U U
  refine dp (V:=Nat) (fun s=>True) (fun s=>[(0,(vB false)),(1,(vP C)),(2,(vI (bE (ah.mk ([(ab.mk 1 (I.mk 1000 1000) (I.mk 0 0) (I.mk 0 0) 0 0)]) ([(aj.mk 0 1 (ae.mk 0 (I.mk 0 0)) 0 1)]) ([]) (ae.mk 0 (I.mk 0 0)) 0) 0 0))),(3,(vI (bB (ah.mk ([(ab.mk 1 (I.mk 1000 1000) (I.mk 0 0) (I.mk 0 0) 0 0)]) ([(aj.mk 0 1 (ae.mk 0 (I.mk 0 0)) 0 1)]) ([]) (ae.mk 0 (I.mk 0 0)) 0) 0 0))),(4,(vP s)),(6,(vA (I.cells (I.mk 1000 1000)))),(7,(vA (ab.cells (ab.mk 1 (I.mk 1000 1000) (I.mk 0 0) (I.mk 0 0) 0 0)))),(8,(vS (some ⟨A,0,none⟩) 1 1)),(9,(vA (ag.cells (ag.mk (aJ.mk (some ⟨A,0,none⟩) 1 1))))),(10,(vT [(vI (bE (ah.mk ([(ab.mk 1 (I.mk 1000 1000) (I.mk 0 0) (I.mk 0 0) 0 0)]) ([(aj.mk 0 1 (ae.mk 0 (I.mk 0 0)) 0 1)]) ([]) (ae.mk 0 (I.mk 0 0)) 0) 0 0)),(vI (bB (ah.mk ([(ab.mk 1 (I.mk 1000 1000) (I.mk 0 0) (I.mk 0 0) 0 0)]) ([(aj.mk 0 1 (ae.mk 0 (I.mk 0 0)) 0 1)]) ([]) (ae.mk 0 (I.mk 0 0)) 0) 0 0))])),(11,(vA (ag.cells (ag.mk (aJ.mk (some ⟨A,0,none⟩) 1 1))))),(12,(vA (aj.cells (aj.mk 0 1 (ae.mk 0 (I.mk 0 0)) 0 1)))),(13,(vS (some ⟨B,0,none⟩) 1 1)),(14,(vA (aW.cells (aW.mk (ag.mk (aJ.mk (some ⟨A,0,none⟩) 1 1)) (aJ.mk (some ⟨B,0,none⟩) 1 1) (aJ.mk none 0 0) (ae.mk 0 (I.mk 0 0)) 0)))),(15,(vT [(vI (bE (ah.mk ([(ab.mk 1 (I.mk 1000 1000) (I.mk 0 0) (I.mk 0 0) 0 0)]) ([(aj.mk 0 1 (ae.mk 0 (I.mk 0 0)) 0 1)]) ([]) (ae.mk 0 (I.mk 0 0)) 0) 0 0)),(vI (bB (ah.mk ([(ab.mk 1 (I.mk 1000 1000) (I.mk 0 0) (I.mk 0 0) 0 0)]) ([(aj.mk 0 1 (ae.mk 0 (I.mk 0 0)) 0 1)]) ([]) (ae.mk 0 (I.mk 0 0)) 0) 0 0))])),(16,(vI (bE (ah.mk ([(ab.mk 1 (I.mk 1000 1000) (I.mk 0 0) (I.mk 0 0) 0 0)]) ([(aj.mk 0 1 (ae.mk 0 (I.mk 0 0)) 0 1)]) ([]) (ae.mk 0 (I.mk 0 0)) 0) 0 0))),(17,(vI (bB (ah.mk ([(ab.mk 1 (I.mk 1000 1000) (I.mk 0 0) (I.mk 0 0) 0 0)]) ([(aj.mk 0 1 (ae.mk 0 (I.mk 0 0)) 0 1)]) ([]) (ae.mk 0 (I.mk 0 0)) 0) 0 0))),(19,(vA (ag.cells (ag.mk (aJ.mk (some ⟨A,0,none⟩) 1 1))))),(20,(vA (bG.cells (bG.mk (I.mk 0 0) 0)))),(22,(vA (aZ.cells (aZ.mk (I.mk 0 0) 0 1 true)))),(24,(vA (I.cells (I.mk 1 1))))]) (fun s=>[(bm s 28 (I.cells (I.mk 0 0))),(bm B 75 (aj.cells (aj.mk 0 1 (ae.mk 0 (I.mk 0 0)) 0 1))),(bm C 24 (ag.cells (ag.mk (aJ.mk (some ⟨A,0,none⟩) 1 1)))),(bm A 73 (ab.cells (ab.mk 1 (I.mk 1000 1000) (I.mk 0 0) (I.mk 0 0) 0 0)))]) 11 [2,4,6,7,8,9,10,11,12,14,15] (fun Ku=>?_) ?_
  rotate_left 1
  ·rintro s-
   refine dz [2,4,7] kr (bD ?_<|bD ?_<|bD ?_<|en)
   rotate_left 2
   ·refine c_ U U U fun T323 L2=>bX (xs:=[.const (vI 0)]) (cs:=[(vI 0)]) U cK g6 U U U U (by simp [Value.cells]) U U fun M4=>RD L2 2 U ?_
    exact bI Ki (M4,s) trivial [1,0,2,3,4] U U U
   ·refine c_ U U U fun T319 Lz=>bX (xs:=[.tmp 20]) (cs:=(bG.cells (bG.mk (I.mk 0 0) 0))) U lJ o8 U U U U (by simp [Value.cells,bG.aq]) U U fun M2=>RD Lz 2 U ?_
    exact bI Kf (M2,s) trivial [1,0,2,3,4] U U U
   refine c_ U U U fun T321 L0=>bX (xs:=[.tmp 22]) (cs:=(aZ.cells (aZ.mk (I.mk 0 0) 0 1 true))) U lu nB U U U U (by simp [Value.cells,aZ.aq]) U U fun M3=>RD L0 2 U ?_
   exact bI Kh (M3,s) trivial [1,0,2,3,4] U U U
  refine dz [2,4,7,13] kr (bD ?_<|bD ?_<|bD ?_<|bD ?_<|en)
  rotate_left 2
  ·refine c_ U U U fun T329 L5=>bX (xs:=[.const (vI 0)]) (cs:=[(vI 0)]) U cK g6 U U U U (by simp [Value.cells]) U U fun M7=>RD L5 1 U ?_
   exact bI Kt M7 trivial [0,1,2,3] U U U
  ·refine c_ U U U fun T331 L6=>AL U cv fun M8=>RD L6 1 U ?_
   exact bI Ku M8 trivial [0,1,2,3] U U U
  ·refine c_ U U U fun T325 L3=>bX (xs:=[.tmp 20]) (cs:=(bG.cells (bG.mk (I.mk 0 0) 0))) U lJ o8 U U U U (by simp [Value.cells,bG.aq]) U U fun M5=>RD L3 1 U ?_
   exact bI Kr M5 trivial [0,1,2,3] U U U
  refine c_ U U U fun T327 L4=>bX (xs:=[.tmp 22]) (cs:=(aZ.cells (aZ.mk (I.mk 0 0) 0 1 true))) U lu nB U U U U (by simp [Value.cells,aZ.aq]) U U fun M6=>RD L4 1 U ?_
  exact bI Ks M6 trivial [0,1,2,3] U U U
 rintro ⟨b8,b9,JJ,Kj,KE⟩-
 try dsimp only
 refine Ig U fun T333 L7=>rS (AG U)<|RD L7 5 U<|mQ<|KK Nl<|al fun _ Kv=>dF cx 19 kr<|dS (CL xR (av) U)<|dP 5 [] mn ?_
 refine gj (t:=36) U (aL fun M9=>?_) (aM fun M9=>?_)
 ·exact absurd Ax.2 M9
 refine dP 4 [] mn ?_
 refine gj (t:=40) U (aL fun M_=>?_) (aM fun M_=>?_)
 ·exact absurd Ax.1 M_
 refine fQ 1 U<|dS (SX (bJ (r:= .bool true) U U U j5) U U)<|jA 3 [] (mc 0 U mn) U<|dS (CL (fK 3000 3000) (av) U)<|dS (BI U (Aq _ _ (dj ([(ab.mk 1 (I.mk 1000 1000) (I.mk 0 0) (I.mk 0 0) 0 0)]) 3 ([([0]:List Int)]).flatten ([([0]:List Int)]).flatten.length) (I.mk 3000 3000)))<|dP 2 [] mn ?_
 refine cj<|RK Kv<|an<|Q1 hQ U U U ?_
 first|rfl|exact cB (bY tp_water)
end
section
open Go.RowKit
theorem qN (c:dx) (kA:OA) (kC:Nat) (bdA:OA) (bdC:Nat) (hrA:OA) (hrC:Nat) (pl:List (List Int)) (pz:List RA) (plA:OA) (plC:Nat) (s:bL) (d:ah) (kgA:OA) (kgC:Nat) (pgA:OA) (pgC:Nat) (ngA:OA) (ngC:Nat) (l:List bj) (lA:OA) (lC:Nat) (f:Int) (hside: ∀ x∈c.ak,0≤x.ct∧x.ct≤255) (hpz:pz.length=pl.length) (hc:0≤s.Class∧s.Class≤255) (hraw:gZ d) (hk: ∀ m∈l,0≤m.Kind∧m.Kind≤255) (hf:0≤f∧f≤65535):
 cz Tryz.prog 3 [(vA (bV.cells (bV.mk (ag.mk (aJ.mk kA c.ak.length kC)) (aJ.mk bdA c.cr.length bdC) (aJ.mk hrA c.bu.length hrC) c.dC c.cS c.eZ c.ep c.gb))),(vS plA pl.length plC),(vA (bL.cells s)),(vA (aW.cells (aW.mk (ag.mk (aJ.mk kgA d.ak.length kgC)) (aJ.mk pgA d.aA.length pgC) (aJ.mk ngA d.bk.length ngC) d.bM d.bP))),(vS lA l.length lC),(Value.int .u16 f)] [(rd kA c.ak.length 9 (c.ak.map ab.cells)),(rd bdA c.cr.length 3 (c.cr.map bG.cells)),(rd hrA c.bu.length 5 (c.bu.map aZ.cells)),(rd plA pl.length 1 (List.zipWith eI pl pz)),(ky (ei eY pl pz)),(rd kgA d.ak.length 9 (d.ak.map ab.cells)),(rd pgA d.aA.length 7 (d.aA.map aj.cells)),(rd ngA d.bk.length 3 (d.bk.map cH.cells)),(rd lA l.length 5 (l.map bj.cells))] (vB true):=by
 refine bf kr Tryz.func3 U U fun w0 Q hQ hN=>?_
 try dsimp only
 refine WS fun _ K4=>ej U fun b2=>ej U fun b3=>ej U fun b4=>aU 1 U<|RK K4<|WS fun _ K5=>rS (CL yc (av) U)<|aU 1 U<|RK K5<|al fun _ K6=>WS fun _ L=>dE 2 [] (mc 2 U mn) U<|rS (CL (xH c kA kC bdA bdC hrA hrC pl pz plA plC (by exact hpz)) (aX [3,4,5,6,7]) U)<|rP 1 [] mn ?_
 refine bx (t:=56) U (aM fun A7=>?_) (aL fun A7=>?_)
 ·refine aU 26 U<|RK L<|aC U<|WS fun _ K7=>rP 2 [] mn ?_
  refine RK K7<|an<|Q1 hQ U U U ?_
  first|rfl|(simp; done)
 have h56a:=(not_or.1 A7).1
 have G:gn c:=⟨om,hside,om,om⟩
 have LF:pl.length≤1000000:=by omega
 have LG: ∀ r∈pl,r.length≤1000000:=fun r hr=>by have: ¬ 20<(r.length:Int):=fun q=>A7 (.inr ⟨r,hr,q⟩); omega
 refine dE 1 [] (mc 2 U mn) U<|rS (CL (yq c kA kC bdA bdC hrA hrC (by exact G)) (x_ 3 4 5 U U U U U U) U)<|rP 3 [] mn ?_
 refine bx (t:=61) U (aP fun HA=>?_) (aO fun HA=>?_)
 ·refine aU 21 U<|RK L<|aC U<|WS fun _ K8=>rP 2 [] mn ?_
  refine RK K8<|an<|Q1 hQ U U U ?_
  first|rfl|(simp; done)
 refine dE 2 [] (mc 2 U mn) U<|rS (CL (AE c kA kC bdA bdC hrA hrC pl pz plA plC (by exact G) (by exact hpz) (by exact LF) (by exact LG)) (aX [3,4,5,6,7]) U)<|rP 3 [] mn ?_
 refine bx (t:=67) U (aP fun HL=>?_) (aO fun HL=>?_)
 ·refine aU 15 U<|RK L<|aC U<|WS fun _ Ib=>rP 2 [] mn ?_
  refine RK Ib<|an<|Q1 hQ U U U ?_
  first|rfl|(simp; done)
 refine dE 1 [] (mc 1 U mn) U<|rS (CL (Eo s (by exact hc)) (av) U)<|rP 3 [] mn ?_
 refine bx (t:=72) U (aP fun HO=>?_) (aO fun HO=>?_)
 ·refine aU 10 U<|RK L<|aC U<|WS fun _ Id=>rP 2 [] mn ?_
  refine RK Id<|an<|Q1 hQ U U U ?_
  first|rfl|(simp; done)
 refine aU 1 U<|rS (LP (ag.cells (ag.mk (aJ.mk kA c.ak.length kC))) 2 U bQ U U U)<|aU 1 U<|rS (CL (vD c.ak kA kC l lA lC (by exact G.jP) (by exact hk)) (aX [3,11]) U)<|rP 3 [] mn ?_
 refine bx (t:=79) U (aP fun Ho=>?_) (aO fun Ho=>?_)
 ·refine aU 3 U<|RK L<|aC U<|WS fun _ If=>rP 2 [] mn ?_
  refine RK If<|an<|Q1 hQ U U U ?_
  first|rfl|(simp; done)
 refine rP 3 [] mn ?_
 refine RK L<|bw U<|WK K6<|al fun _ A1=>?_
 have E2:=HA
 have H:=HL
 have hs:=HO
 obtain ⟨J,AD⟩:=gC E2
 have FN:=bT J
 have Le:=cw J
 have L7:=AD.ki
 have L8:=AD.gQ
 have LD:=AD.jE
 have LE:=AD.gS
 have LC:=AD.kj
 have L9:=AD.g8
 have L6:=AD.base
 simp only [aF] at LD LE
 have L_:=l4 J
 have K_:=jL J hs
 refine ao<|aU 1 U<|rS (LP (ag.cells (ag.mk (aJ.mk kA c.ak.length kC))) 2 U bQ U U U)<|rP 1 [] mn ?_
 refine cX (zA c.ak kA kC l lA lC (by exact J) (by exact hside) (by exact Ho)) (aX [3,11]) U fun LQ A6=>?_
 obtain ⟨Kp,La,Kq,E,F⟩:=LQ
 cases Kp
 ·obtain ⟨Kd,he⟩:=A6.2 rfl
  try dsimp only at Kd he
  subst Kd
  try dsimp only [cond_true,cond_false,List.cons_append,List.nil_append]
  refine aU 3 U<|AL U qV fun Lm=>eC U lI U<|aU 1 U<|RK A1<|al fun _ Lb=>WS fun _ In=>aU 1 U<|rS (SX (bJ (r:= .bool true) U U U fW) U U)<|RK In<|aC U<|WS fun _ Iq=>aU 3 U<|rS (SX (bJ (r:= .bool true) U U U j5) U U)<|rP 2 [] mn ?_
  refine RK Iq<|an<|Q1 hQ U U U ?_
  first|rfl|(simp; done)
 obtain B:=A6.1 rfl
 try dsimp only [cond_true,cond_false,List.cons_append,List.nil_append]
 try dsimp only at B
 obtain ⟨us,LH⟩: ∃ us,us=Kq:=⟨_,rfl⟩
 subst LH
 refine aU 3 U<|AL U qV fun Ln=>eC U lI U<|aU 1 U<|RK A1<|al fun _ Ix=>WS fun _ I8=>rP 1 [] mn ?_
 refine rS (SX (bJ (r:= .bool false) U U U fW) U U)<|RK I8<|bw U<|WK Ix<|al fun _ JD=>?_
 have FS:=B.tY FN J
 have LA:=jL FS hs
 have Lh:=B.ok FN
 have Kl:=B.len
 have Kk:=B.Ay hside
 have Ki:fE (dx.mk us c.cr c.bu c.dC c.cS c.eZ c.ep c.gb)=0:=xx Kl FS AD
 have hplan2:ia (dx.mk us c.cr c.bu c.dC c.cS c.eZ c.ep c.gb) pl:=⟨H.len,H.row⟩
 have A4:gn (dx.mk us c.cr c.bu c.dC c.cS c.eZ c.ep c.gb):=⟨by show us.length≤1000000; omega,Kk,G.yD,G.yA⟩
 have e0:=fZ (s:=s) (ts:=c.ak)
 have e1:=fZ (s:=s) (ts:=us)
 rw [Kl] at e1
 have MC:=q9 (l:=pl.flatten) B LC.1 pl.flatten.length
 refine ao<|dE 1 [] (mc 4 U mn) U<|AL U I6 fun Lp=>eC U I0 U<|RK JD<|WS fun _ JJ=>dE 2 [] (mc 1 U mn) U<|I2 (bV.cells (bV.mk (ag.mk (aJ.mk E us.length F)) (aJ.mk bdA c.cr.length bdC) (aJ.mk hrA c.bu.length hrC) c.dC c.cS c.eZ c.ep c.gb)) U lI U U<|RK JJ<|WS fun _ JQ=>aU 1 U<|rS (LP (ag.cells (ag.mk (aJ.mk kA c.ak.length kC))) 5 U bQ U U U)<|rP 1 [] (mc 4 U mn) ?_
 refine cX (pD c.ak kA kC s (by exact G.jP) (by exact hside)) (aX [6]) U fun LR Li=>?_
 obtain ⟨Lk,Lx⟩:=LR
 try dsimp only
 rw [kO J hs]
 rw [K_]
 refine aU 5 U<|RK JQ<|WS fun _ JR=>rP 2 [0,1] (mc 2 U (mc 5 U mn)) ?_
 refine cX (pD us E F s (by exact A4.jP) (by exact Kk)) (aK (aQ (n:=us.length) 3 U sm)<|av) U fun LS Lj=>?_
 obtain ⟨Ll,Ly⟩:=LS
 try dsimp only
 rw [kO FS hs]
 rw [LA]
 refine aU 5 U<|RK JR<|WS fun _ JT=>dE 2 [] (mc 7 U mn) U<|rS (CL (py c kA kC bdA bdC hrA hrC pl pz plA plC (by exact G) (by exact E2) (by exact H) (by exact hpz)) (aX [8,9,10,11,12]) U)<|aU 3 U<|AL U cv fun Lq=>eC U cn U<|aU 1 U<|RK JT<|WS fun _ JV=>rP 2 [] (mc 3 U mn) ?_
 refine rS (CL (py (dx.mk us c.cr c.bu c.dC c.cS c.eZ c.ep c.gb) E F bdA bdC hrA hrC pl pz plA plC sd sd sd hpz) (aK (aQ (n:=us.length) 5 U sm)<|eM 10 U U<|eM 11 U U<|eM 12 U U<|eM 13 U U<|av) U) ?_
 refine aU 3 U<|AL U cv fun Lr=>eC U cn U<|aU 1 U<|RK JV<|al fun _ JY=>WS fun _ J1=>aU 1 U<|rS (SX (bJ (r:= .bool false) U U U fW) U U)<|aU 2 U<|rS (SX (bJ (r:= .bool false) U U U fW) U U)<|aU 3 U<|rS (SX (bJ (r:= .bool false) U U U fW) U U)<|aU 3 U<|rS (SX (bJ (r:= .bool false) U U U fW) U U)<|rP 9 [] mn ?_
 refine bx (t:=147) U (aP fun Fs=>?_) (aO fun Fs=>?_)
 ·exfalso; omega
 refine rP 7 [0,1] (mc 0 U (mc 1 U mn)) ?_
 refine bx (t:=154) U (aM fun GD=>?_) (aL fun GD=>?_)
 ·exfalso; omega
 refine rP 6 [0,1] (mc 0 U (mc 1 U mn)) ?_
 refine RK J1<|cd U (aM fun GE=>?_) (aL fun GE=>?_)
 ·exfalso; omega
 refine WK JY<|al fun _ J2=>WS fun _ J3=>rP 3 [] mn ?_
 refine RK J3<|ar ?_
 have A:(0≤(dn s c.ak).length):=by exact Nat.zero_le _
 refine br (ι:={z:Nat // (z≤(dn s c.ak).length)}) [1,5,6,9,13,14,16,17,18,161,162] [2,3,4,5,6,7,9,10,11,12,13,14,15,16,17,18] U U (fun z=>[(163,(vI (z.1:Int)))]) (fun z=>[]) (fun _=>rfl) (fun _=>rfl) (fun z=>(dn s c.ak).length-z.1) ⟨0,A⟩ (bg U) (aN [2,3,4,5,6,7,9,10,11,12,13,14,15,16,17,18]) ?_
 clear A
 rintro ⟨i,Kt⟩ J49 H1
 try dsimp only
 refine WS fun _ J4=>rP 1 [] mn ?_
 refine RK J4<|al fun _ J5=>cd U (aM fun Kz=>?_) (aL fun Kz=>?_)
 ·refine WK J5<|al fun _ J6=>ar<|WS fun _ J7=>aU 2 U<|RK J7<|al fun _ J8=>dF cx 24 kr<|dP 2 [] mn ?_
  obtain ⟨y,hy⟩:=bh (dn s us) i om
  have Kn:=bp I.cells hy
  refine dS (IA i U (aQ (n:=(dn s us).length) 0 U sm) hU dc om om)<|dS (lp (i*2) U (aQ (n:=(dn s us).length) 0 U sm) (Nat.mul_pos om dc) fh U)<|dS (fT i 0 (vI y.Lo) U bQ (aQ (n:=(dn s us).length) 0 U sm) Kn U dc U)<|dP 2 [] mn ?_
  obtain ⟨z,hz⟩:=bh (dn s c.ak) i om
  have Ko:=bp I.cells hz
  refine dS (IA i U (aQ (n:=(dn s c.ak).length) 1 U sm) hU dc om om)<|dS (lp (i*2) U (aQ (n:=(dn s c.ak).length) 1 U sm) (Nat.mul_pos om dc) fh U)<|dS (fT i 0 (vI z.Lo) U bQ (aQ (n:=(dn s c.ak).length) 1 U sm) Ko U dc U) ?_
  have yv:y=kZ s us i:=by rw [k6 om] at hy; exact (Option.some.inj hy).symm
  have zv:z=kZ s c.ak i:=by rw [k6 om] at hz; exact (Option.some.inj hz).symm
  have MA:=ze hs FN B i
  have L0:y.Lo=cf false s us i:=by rw [yv]; rfl
  have L2:y.Hi=cf true s us i:=by rw [yv]; rfl
  have L3:z.Lo=cf false s c.ak i:=by rw [zv]; rfl
  have L4:z.Hi=cf true s c.ak i:=by rw [zv]; rfl
  refine dP 2 [] mn ?_
  refine dY (t:=177) U (aM fun GT=>?_) (aL fun GT=>?_)
  ·exfalso; omega
  refine fQ 2 U<|dS (IA i U (aQ (n:=(dn s us).length) 0 U sm) hU dc om om)<|dS (lp ((i*2)+1) U (aQ (n:=(dn s us).length) 0 U sm) (Nat.mul_pos om dc) fh U)<|dS (fT i 1 (vI y.Hi) U bQ (aQ (n:=(dn s us).length) 0 U sm) Kn U dc U)<|fQ 2 U<|dS (IA i U (aQ (n:=(dn s c.ak).length) 1 U sm) hU dc om om)<|dS (lp ((i*2)+1) U (aQ (n:=(dn s c.ak).length) 1 U sm) (Nat.mul_pos om dc) fh U)<|dS (fT i 1 (vI z.Hi) U bQ (aQ (n:=(dn s c.ak).length) 1 U sm) Ko U dc U)<|dP 2 [] mn ?_
  refine cj<|RK J8<|cd U (aM fun Gd=>?_) (aL fun Gd=>?_)
  ·exfalso; omega
  refine bS<|aI<|KK J6<|ao<|rP 2 [] mn ?_
  refine aB ?_
  have KX:(vI (((i+1):Nat):Int))=(vI ((i:Int)+1)):=by exact cI om
  refine aY (H1 ⟨(i+1),(by first|omega|(simp only []; omega))⟩ _ _ _ U os (b_ 11<|aR U KX<|cL.nil _) (aN [0,1,2,3,4,5,6,7,8,9,10,11,12,13,14,15]))
 refine bo<|ai<|ai<|aw<|KK J2<|al fun _ J9=>WS fun _ J_=>rP 4 [] (mc 6 U mn) ?_
 refine RK J_<|ar ?_
 have A:(0≤c.cr.length):=by exact Nat.zero_le _
 refine br (ι:={z:Nat // (z≤c.cr.length)}) [1,5,6,9,13,14,16,192,193] [0,1,2,3,4,5,6,7,8,9,10,11,12,13,14,15] U U (fun z=>[(194,(vI (z.1:Int)))]) (fun z=>[]) (fun _=>rfl) (fun _=>rfl) (fun z=>c.cr.length-z.1) ⟨0,A⟩ (bg U) (aN [0,1,2,3,4,5,6,7,8,9,10,11,12,13,14,15]) ?_
 clear A
 rintro ⟨i,Ku⟩ J59 H8
 try dsimp only
 refine WS fun _ KA=>rP 1 [] mn ?_
 refine RK KA<|al fun _ KB=>cd U (aM fun K0=>?_) (aL fun K0=>?_)
 ·refine WK KB<|al fun _ KC=>ar<|WS fun _ KD=>rP 2 [] mn ?_
  refine RK KD<|al fun _ KE=>?_
  obtain ⟨b,hb⟩:=bh c.cr i om
  refine ao<|rP 6 [] (mc 6 U mn) ?_
  refine rS (CL (wC c kA kC bdA bdC hrA hrC pl pz plA plC (i:Int) (c.bu.length:Int) b (by exact G) (by exact E2) (by exact H) (by exact hpz) (by exact ⟨om,by first|omega|(dsimp only; omega)⟩) (by rw [Int.toNat_natCast]; exact hb) (by exact ⟨om,by first|omega|(dsimp only; omega)⟩)) (aX [7,8,9,10,11]) U) ?_
  refine aU 3 U<|AL U cv fun Ls=>eC U cn U<|aU 1 U<|RK KE<|WS fun _ KF=>rP 6 [0,1] (mc 3 U (mc 7 U mn)) ?_
  refine rS (CL (wC (dx.mk us c.cr c.bu c.dC c.cS c.eZ c.ep c.gb) E F bdA bdC hrA hrC pl pz plA plC (i:Int) (c.bu.length:Int) b (by exact A4) (by exact Ki) (by exact hplan2) (by exact hpz) (by exact ⟨om,by first|omega|(dsimp only; omega)⟩) (by rw [Int.toNat_natCast]; exact hb) (by exact ⟨om,by first|omega|(dsimp only; omega)⟩)) (aK (aQ (n:=us.length) 5 U sm)<|eM 9 U U<|eM 10 U U<|eM 11 U U<|eM 12 U U<|av) U) ?_
  refine aU 3 U<|AL U cv fun Lt=>eC U cn U<|aU 1 U<|RK KF<|WS fun _ KG=>aU 1 U<|rS (SX (bJ (r:= .bool false) U U U fW) U U)<|aU 2 U<|rS (SX (bJ (r:= .bool false) U U U fW) U U)<|dE 4 [0,1] (mc 1 U (mc 0 U mn)) U<|rS (BI U (AA _ _ (gv b c.bu c.dC c.cS pl (i:Int) (c.bu.length:Int).toNat) (gv b c.bu c.dC c.cS pl (i:Int) (c.bu.length:Int).toNat)))<|rP 1 [] mn ?_
  refine RK KG<|cd U (aP fun AR=>?_) (aO fun AR=>?_)
  ·exact absurd U AR
  refine bS<|aI<|KK KC<|ao<|rP 2 [] mn ?_
  refine aB ?_
  have KY:(vI (((i+1):Nat):Int))=(vI ((i:Int)+1)):=by exact cI om
  refine aY (H8 ⟨(i+1),(by first|omega|(simp only []; omega))⟩ _ _ _ U os (b_ 9<|aR U KY<|cL.nil _) (aN [2,3,4,5,6,7,8,9,10,11,12,13,14,15,16,17]))
 refine bo<|ai<|ai<|aw<|KK J9 ?_
 refine pt (ι:=Unit) [1,6,9,13,14] [0,1,3,4,5,6,7,8,9,10,11,12,13,14,15] U U (fun z=>[]) (fun z=>[]) (fun _=>rfl) (fun _=>rfl) ?_ fun K71 A2=>?_
 ·intro _
  try dsimp only
  refine WS fun _ V=>aU 1 U<|rS (LP (ag.cells (ag.mk (aJ.mk kA c.ak.length kC))) 5 U bQ U U U)<|rP 1 [] mn ?_
  refine JL (aW.cells (aW.mk (ag.mk (aJ.mk kA c.ak.length kC)) (aJ.mk pgA d.aA.length pgC) (aJ.mk ngA d.bk.length ngC) d.bM d.bP)) U lI U U<|RK V<|al fun _ KH=>al fun _ A3=>?_
  have AC:gZ (ah.mk c.ak d.aA d.bk d.bM d.bP):=yJ G.jP hside hraw
  refine ao<|dE 1 [] (mc 4 U mn) U<|rS (CL (Ae (ah.mk c.ak d.aA d.bk d.bM d.bP) kA kC pgA pgC ngA ngC (by exact AC)) (x_ 6 12 13 U U U U U U) U)<|rP 1 [] mn ?_
  refine bx (t:=278) U (aM fun R=>?_) (aL fun R=>?_)
  ·refine aU 4 U<|RK A3<|aC U<|WS fun _ KI=>rP 2 [] mn ?_
   refine RK KI<|an<|Q1 hQ U U U ?_
   first|rfl|(simp; done)
  have D:=AC.small R
  refine dE 1 [] (mc 4 U mn) U<|rS (CL (xQ (ah.mk c.ak d.aA d.bk d.bM d.bP) kA kC pgA pgC ngA ngC (by exact D)) (x_ 6 12 13 U U U U U U) U)<|rP 2 [] mn ?_
  refine RK A3<|cd U (aP fun A0=>?_) (aO fun A0=>?_)
  ·refine WS fun _ KL=>rP 2 [] mn ?_
   refine RK KL<|an<|Q1 hQ U U U ?_
   first|rfl|(simp; done)
  refine WK KH<|al fun _ KM=>?_
  have o:=A0
  have E5:gZ (ah.mk us d.aA d.bk d.bM d.bP):=zT (d:=(ah.mk c.ak d.aA d.bk d.bM d.bP)) B D
  have Ld:du (ah.mk us d.aA d.bk d.bM d.bP)=0:=mF (d:=(ah.mk c.ak d.aA d.bk d.bM d.bP)) B o
  have Kj:qw (ah.mk us d.aA d.bk d.bM d.bP):=vi (d:=(ah.mk c.ak d.aA d.bk d.bM d.bP)) B ⟨R,o⟩
  have p:=E5.small Kj.1
  have Kg:=lP (d:=(ah.mk c.ak d.aA d.bk d.bM d.bP)) B o
  have Kh:eR (ah.mk us d.aA d.bk d.bM d.bP) []=0:=Kg.2
  have L5:d.aA.length≤1000000:=D.sG
  have Lf:(ed (ah.mk us d.aA d.bk d.bM d.bP) []).length≤1000000:=Nat.le_trans pQ p.rq
  have Lg:(ed (ah.mk c.ak d.aA d.bk d.bM d.bP) []).length≤1000000:=Nat.le_trans pQ D.rq
  refine ao<|dE 1 [] (mc 4 U mn) U<|AL U HY fun Lu=>eC U H7 U<|RK KM<|WS fun _ KN=>dE 2 [] (mc 3 U mn) U<|I2 (aW.cells (aW.mk (ag.mk (aJ.mk E us.length F)) (aJ.mk pgA d.aA.length pgC) (aJ.mk ngA d.bk.length ngC) d.bM d.bP)) U lI U U<|RK KN<|al fun _ KO=>WS fun _ W=>rP 4 [] (mc 5 U mn) ?_
  refine RK W<|ar ?_
  have A:(0≤d.aA.length):=by exact Nat.zero_le _
  refine br (ι:={z:Nat // (z≤d.aA.length)}) [6,9,13,38,288,289] [0,1,2,4,5,6,7,8,9,10,11,12,13,14,15] U U (fun z=>[(290,(vI (z.1:Int)))]) (fun z=>[]) (fun _=>rfl) (fun _=>rfl) (fun z=>d.aA.length-z.1) ⟨0,A⟩ (bg U) (aN [0,1,2,4,5,6,7,8,9,10,11,12,13,14,15]) ?_
  clear A
  rintro ⟨i,Kw⟩ J82 IF
  try dsimp only
  refine WS fun _ KQ=>rP 1 [] mn ?_
  refine RK KQ<|al fun _ X=>cd U (aM fun K1=>?_) (aL fun K1=>?_)
  ·refine WK X<|al fun _ KS=>ar<|WS fun _ Y=>aU 2 U<|RK Y<|WS fun _ Z=>rP 4 [] (mc 5 U mn) ?_
   refine RK Z<|ar ?_
   have A:(0≤c.cr.length):=by exact Nat.zero_le _
   refine br (ι:={z:Nat // (z≤c.cr.length)}) [6,9,13,38,39,288,289,290,294,295] [0,1,2,3,4,5,6,7,8,9,10,11,12,13,14] U U (fun z=>[(296,(vI (z.1:Int)))]) (fun z=>[]) (fun _=>rfl) (fun _=>rfl) (fun z=>c.cr.length-z.1) ⟨0,A⟩ (bg U) (aN [0,1,2,3,4,5,6,7,8,9,10,11,12,13,14]) ?_
   clear A
   rintro ⟨k,Kx⟩ J89 IR
   try dsimp only
   refine WS fun _ e=>rP 1 [] mn ?_
   refine RK e<|al fun _ g=>bH U (aL fun K3=>?_) (aM fun K3=>?_)
   ·refine bo<|ai<|ai<|aw<|aI<|KK KS<|ao<|rP 2 [] mn ?_
    refine aB ?_
    have Kb:(vI (((i+1):Nat):Int))=(vI ((i:Int)+1)):=by exact cI om
    refine aY (IF ⟨(i+1),(by first|omega|(simp only []; omega))⟩ _ _ _ U os (b_ 6<|aR U Kb<|cL.nil _) (aN [0,1,2,3,4,5,6,7,8,9,10,11,12,13,14]))
   refine WK g<|al fun _ h=>ar<|WS fun _ j=>aU 2 U<|RK j<|WS fun _ KU=>rP 3 [] (mc 4 U mn) ?_
   have Ke:(bB (ah.mk c.ak d.aA d.bk d.bM d.bP) (i:Int) (k:Int)=0∧bB (ah.mk us d.aA d.bk d.bM d.bP) (i:Int) (k:Int)=0)∧bE (ah.mk us d.aA d.bk d.bM d.bP) (i:Int) (k:Int)≤bE (ah.mk c.ak d.aA d.bk d.bM d.bP) (i:Int) (k:Int):=(fun q=>⟨q.1,q.2.1⟩) (AQ (d:=(ah.mk c.ak d.aA d.bk d.bM d.bP)) (a:=(i:Int)) (k:=(k:Int)) B o ⟨⟨om,by show (i:Int)≤(d.aA.length:Int)-1; omega⟩,om,by show (k:Int)≤(c.ak.length:Int)-1; omega⟩)
   refine rS (CL (AF (ah.mk c.ak d.aA d.bk d.bM d.bP) kA kC pgA pgC ngA ngC (i:Int) (k:Int) (by exact D)) (x_ 6 12 13 U U U U U U) U) ?_
   rw [Ke.1.1]
   refine aU 5 U<|RK KU<|WS fun _ KV=>rP 3 [] (mc 0 U mn) ?_
   refine rS (CL (AF (ah.mk us d.aA d.bk d.bM d.bP) E F pgA pgC ngA ngC (i:Int) (k:Int) (by exact p)) (aK (aQ (n:=us.length) 3 U sm)<|eM 12 U U<|eM 13 U U<|av) U) ?_
   rw [Ke.1.2]
   refine aU 5 U<|RK KV<|WS fun _ KW=>aU 1 U<|rS (SX (bJ (r:= .bool false) U U U fW) U U)<|aU 2 U<|rS (SX (bJ (r:= .bool false) U U U fW) U U)<|rP 6 [] mn ?_
   refine RK KW<|cd U (aM fun Gw=>?_) (aL fun Gw=>?_)
   ·exfalso; omega
   refine bS<|aI<|KK h<|ao<|rP 2 [] mn ?_
   refine aB ?_
   have Ka:(vI (((k+1):Nat):Int))=(vI ((k:Int)+1)):=by exact cI om
   refine aY (IR ⟨(k+1),(by first|omega|(simp only []; omega))⟩ _ _ _ U os (b_ 10<|aR U Ka<|cL.nil _) (aN [0,1,2,3,4,5,6,7,8,9,10,11,12,13,14]))
  refine bo<|ai<|ai<|aw<|KK KO<|WS fun _ A9=>rP 1 [] (mc 4 U mn) ?_
  refine cX (wv (ah.mk c.ak d.aA d.bk d.bM d.bP) kA kC pgA pgC ngA ngC ([]) none 0 (by exact D) sm) (pW [6,12,13]<|aK (qk _ _)<|av) U fun Kr LL=>?_
  obtain ⟨LU,LY⟩:=Kr
  try dsimp only
  rw [Kg.1]
  refine aU 5 U<|RK A9<|WS fun _ Bf=>rP 1 [] (mc 1 U mn) ?_
  refine cX (wv (ah.mk us d.aA d.bk d.bM d.bP) E F pgA pgC ngA ngC ([]) none 0 (by exact p) sm) (aK (aQ (n:=us.length) 4 U sm)<|pW [13,14]<|aK (qk _ _)<|av) U fun Ks LO=>?_
  obtain ⟨LV,LZ⟩:=Ks
  try dsimp only
  rw [Kh]
  refine aU 5 U<|RK Bf<|al fun _ Bl=>WS fun _ Bs=>aU 1 U<|rS (SX (bJ (r:= .bool false) U U U fW) U U)<|aU 2 U<|rS (SX (bJ (r:= .bool false) U U U fW) U U)<|aU 1 U<|RK Bs<|bw U<|WK Bl<|al fun _ B9=>WS fun _ Ci=>rP 3 [] mn ?_
  refine RK Ci<|ar ?_
  have A:(0≤(ed (ah.mk us d.aA d.bk d.bM d.bP) ([])).length):=by exact Nat.zero_le _
  refine br (ι:={z:Nat // (z≤(ed (ah.mk us d.aA d.bk d.bM d.bP) ([])).length)}) [13,45,46,342,343] [0,1,3,4,5,8,9,10,11,12,13,14,15,16] U U (fun z=>[(344,(vI (z.1:Int)))]) (fun z=>[]) (fun _=>rfl) (fun _=>rfl) (fun z=>(ed (ah.mk us d.aA d.bk d.bM d.bP) ([])).length-z.1) ⟨0,A⟩ (bg U) (aN [0,1,3,4,5,8,9,10,11,12,13,14,15,16]) ?_
  clear A
  rintro ⟨u,Ky⟩ J114 A8
  try dsimp only
  refine WS fun _ Ck=>rP 1 [] mn ?_
  refine RK Ck<|al fun _ Cp=>bH U (aL fun Fd=>?_) (aM fun Fd=>?_)
  ·refine bo<|ai<|ai<|aw<|KK B9<|WS fun _ EQ=>rP 2 [] mn ?_
   refine RK EQ<|an<|Q1 hQ U U U ?_
   first|rfl|(simp; done)
  refine WK Cp<|al fun _ Cx=>ar<|WS fun _ C0=>?_
  obtain ⟨x,hx⟩: ∃ y_,(ed (ah.mk us d.aA d.bk d.bM d.bP) ([]))[u]? =some y_:=⟨(ed (ah.mk us d.aA d.bk d.bM d.bP) ([]))[u]'om,eu _⟩
  have LK:=bp iC hx
  refine rS (IA u U (aQ (n:=(ed (ah.mk us d.aA d.bk d.bM d.bP) ([])).length) 0 U sm) cK dc om om)<|rS (fT u 0 (vI x) U bQ (aQ (n:=(ed (ah.mk us d.aA d.bk d.bM d.bP) ([])).length) 0 U sm) LK U dc U)<|aU 1 U<|RK C0<|WS fun _ C1=>aU 1 U<|RK C1<|al fun _ C2=>WS fun _ DA=>rP 3 [] mn ?_
  refine RK DA<|ar ?_
  have A:(0≤(ed (ah.mk c.ak d.aA d.bk d.bM d.bP) ([])).length)∧(false=((ed (ah.mk c.ak d.aA d.bk d.bM d.bP) ([])).take 0).any (fun w=>decide (x=w))):=by exact ⟨Nat.zero_le _,sm⟩
  refine br (ι:={z:Nat×Bool // (z.1≤(ed (ah.mk c.ak d.aA d.bk d.bM d.bP) ([])).length)∧(z.2=((ed (ah.mk c.ak d.aA d.bk d.bM d.bP) ([])).take z.1).any (fun w=>decide (x=w)))}) [13,45,46,48,342,343,344,348,349] [0,1,2,3,4,5,6,7,8,9,10,11,12,13] U U (fun z=>[(49,(vB z.1.2)),(350,(vI (z.1.1:Int)))]) (fun z=>[]) (fun _=>rfl) (fun _=>rfl) (fun z=>(ed (ah.mk c.ak d.aA d.bk d.bM d.bP) ([])).length-z.1.1) ⟨(0,false),A⟩ (bg U) (aN [0,1,2,3,4,5,6,7,8,9,10,11,12,13]) ?_
  clear A
  rintro ⟨⟨v,bv⟩,⟨AH,C⟩⟩ J123 T
  try dsimp only at AH C
  try dsimp only
  refine WS fun _ DN=>rP 1 [] mn ?_
  refine RK DN<|al fun _ Di=>bH U (aL fun Fn=>?_) (aM fun Fn=>?_)
  ·refine bo<|ai<|ai<|aw<|KK C2<|WS fun _ EI=>rP 2 [] mn ?_
   refine RK EI<|cd U (fun K=>?_) (fun K=>?_)
   ·rw [Bool.not_eq_true'] at K
    exfalso; have LB:=vt (d:=(ah.mk c.ak d.aA d.bk d.bM d.bP)) B o x (aG hx); have K9:bv=true:=(by rw [C,show v=(ed (ah.mk c.ak d.aA d.bk d.bM d.bP) []).length by omega,List.take_length,List.any_eq_true]; exact ⟨x,LB,bY rfl⟩); exact Bool.noConfusion (K.symm.trans K9)
   rw [Bool.not_eq_false'] at K
   refine bS<|aI<|KK Cx<|ao<|rP 2 [] mn ?_
   refine aB ?_
   have Eq:(vI (((u+1):Nat):Int))=(vI ((u:Int)+1)):=by exact cI om
   refine aY (A8 ⟨(u+1),(by first|omega|(simp only []; omega))⟩ _ _ _ U os (b_ 5<|aR U Eq<|cL.nil _) (aN [0,1,2,3,4,5,6,7,8,9,10,11,12,13]))
  refine WK Di<|al fun _ AB=>ar<|WS fun _ Do=>?_
  obtain ⟨w,hw⟩: ∃ y_,(ed (ah.mk c.ak d.aA d.bk d.bM d.bP) ([]))[v]? =some y_:=⟨(ed (ah.mk c.ak d.aA d.bk d.bM d.bP) ([]))[v]'om,eu _⟩
  have LI:=bp iC hw
  refine rS (IA v U (aQ (n:=(ed (ah.mk c.ak d.aA d.bk d.bM d.bP) ([])).length) 1 U sm) cK dc om om)<|rS (fT v 0 (vI w) U bQ (aQ (n:=(ed (ah.mk c.ak d.aA d.bk d.bM d.bP) ([])).length) 1 U sm) LI U dc U)<|aU 1 U<|RK Do<|ao<|rP 2 [] mn ?_
  refine bx (t:=355) U (fun S=>?_) (fun S=>?_)
  ·refine aU 5 U<|aB<|aI<|KK AB<|ao<|rP 2 [] mn ?_
   refine aB ?_
   have ER:(vI (((v+1):Nat):Int))=(vI ((v:Int)+1)):=by exact cI om
   refine aY (T ⟨((v+1),true),⟨om,by rw [rv hw,← C,S]; rfl⟩⟩ _ _ _ U os (b_ 10<|aR U ER<|cL.nil _) (aN [0,1,2,3,4,5,6,7,8,9,10,11,12,13]))
  refine aU 5 U<|aB<|aI<|KK AB<|ao<|rP 2 [] mn ?_
  refine aB ?_
  have ET:(vI (((v+1):Nat):Int))=(vI ((v:Int)+1)):=by exact cI om
  refine aY (T ⟨((v+1),(decide (x=w))),⟨om,by rw [rv hw,← C,S]; rfl⟩⟩ _ _ _ U os (b_ 10<|aR U ET<|cL.nil _) (aN [0,1,2,3,4,5,6,7,8,9,10,11,12,13]))
 refine WS fun _ V=>aU 1 U<|rS (LP (ag.cells (ag.mk (aJ.mk kA c.ak.length kC))) 6 U bQ U U U)<|rP 1 [] mn ?_
 refine rS (SX (fP (m:=f) U U GM oe (ss (by first|assumption|omega))) U U)<|rS (BI U (zb om om)) ?_
 have MB:=HF f 5000 hf.1 om
 refine rP 1 [] mn ?_
 refine cX (rl c.ak kA kC (1+(f % 5000)) om (by exact hside) om) (aX [7]) U fun LT Km=>?_
 obtain ⟨M,O,AO,N,P⟩:=LT
 try dsimp only
 obtain ⟨Kc,A5⟩:=Km
 refine aU 3 U<|AL U yH fun Lv=>eC U w4 U<|aU 1 U<|RK V<|WS fun _ W=>rP 1 [] mn ?_
 refine RK W<|bH U (aL fun Ak=>?_) (aM fun Ak=>?_)
 ·refine bS ?_
  refine aY (j9 (bg U) (aN [4,5,7,8,9,10,11,12,13,14,15,16,17,18,19]) (A2 ()))
 refine WS fun _ KP=>dE 1 [] (mc 0 U mn) U<|AL U yH fun Lw=>eC U w4 U<|RK KP<|WS fun _ X=>dE 2 [] (mc 8 U mn) U<|I2 (fy.cells (fy.mk (ag.mk (aJ.mk E us.length F)) (1+(f % 5000)) (aJ.mk M 1 O) (aJ.mk N ((cJ (min (c.ak.length-1) 6)).length) P) 0 0 0)) U lI U U<|RK X<|WS fun _ KR=>rP 4 [] (mc 1 U mn) ?_
 refine RK KR<|ar ?_
 have A:(0≤(cJ (min (c.ak.length-1) 6)).length):=by exact Nat.zero_le _
 refine br (ι:={z:Nat // (z≤(cJ (min (c.ak.length-1) 6)).length)}) [1,6,9,13,14,30,32,244,245] [0,1,2,3,4,5,6,8,9,10,11,12,13,14,15,16,17,18,19,20] U U (fun z=>[(246,(vI (z.1:Int)))]) (fun z=>[]) (fun _=>rfl) (fun _=>rfl) (fun z=>(cJ (min (c.ak.length-1) 6)).length-z.1) ⟨0,A⟩ (bg U) (aN [0,1,2,3,4,5,6,8,9,10,11,12,13,14,15,16,17,18,19,20]) ?_
 clear A
 rintro ⟨i,Kv⟩ J86 IO
 try dsimp only
 refine WS fun _ Y=>rP 1 [] mn ?_
 refine RK Y<|al fun _ Z=>bH U (aL fun K2=>?_) (aM fun K2=>?_)
 ·refine bo<|ai<|ai<|aw ?_
  refine aY (j9 (bg U) (aN [5,6,7,8,9,10,11,12,13,14,15,16,17,18,19]) (A2 ()))
 refine WK Z<|al fun _ e=>ar<|WS fun _ g=>aU 2 U<|RK g<|WS fun _ KT=>rP 2 [] (mc 1 U mn) ?_
 have Lc:(cJ (min (c.ak.length-1) 6)).length≤6:=by rw [gA]; omega
 have Kf:(hP (dk.mk c.ak (1+(f % 5000)) [cU] (cJ (min (c.ak.length-1) 6)) 0 0 0) (i:Int)=0∧hP (dk.mk us (1+(f % 5000)) [cU] (cJ (min (c.ak.length-1) 6)) 0 0 0) (i:Int)=0)∧jn (dk.mk c.ak (1+(f % 5000)) [cU] (cJ (min (c.ak.length-1) 6)) 0 0 0) (i:Int)≤jn (dk.mk us (1+(f % 5000)) [cU] (cJ (min (c.ak.length-1) 6)) 0 0 0) (i:Int):=uO (l:=(dk.mk c.ak (1+(f % 5000)) [cU] (cJ (min (c.ak.length-1) 6)) 0 0 0)) B Ak (k:=(i:Int)) ⟨om,by show (i:Int)≤((cJ _).length:Int)-1; omega⟩
 refine rS (CL (sy (dk.mk c.ak (1+(f % 5000)) ([cU]) (cJ (min (c.ak.length-1) 6)) 0 0 0) kA kC AO M O N P (i:Int) (by exact A5)) (eM 11 U U<|aK (aQ (n:=([cU]).length) 2 U (sE Kc))<|aK (jf 3 U lW)<|aK (aQ (n:=(cJ (min (c.ak.length-1) 6)).length) 4 U sm)<|av) U) ?_
 rw [Kf.1.1]
 refine aU 5 U<|RK KT<|WS fun _ h=>rP 2 [] (mc 0 U mn) ?_
 refine rS (CL (sy (dk.mk us (1+(f % 5000)) ([cU]) (cJ (min (c.ak.length-1) 6)) 0 0 0) E F AO M O N P (i:Int) (by exact CS B A5)) (aK (aQ (n:=us.length) 8 U sm)<|aK (aQ (n:=([cU]).length) 2 U (sE Kc))<|aK (jf 3 U lW)<|aK (aQ (n:=(cJ (min (c.ak.length-1) 6)).length) 4 U sm)<|av) U) ?_
 rw [Kf.1.2]
 refine aU 5 U<|RK h<|WS fun _ j=>aU 1 U<|rS (SX (bJ (r:= .bool false) U U U fW) U U)<|aU 2 U<|rS (SX (bJ (r:= .bool false) U U U fW) U U)<|rP 6 [] mn ?_
 refine RK j<|cd U (aM fun Go=>?_) (aL fun Go=>?_)
 ·exfalso; omega
 refine bS<|aI<|KK e<|ao<|rP 2 [] mn ?_
 refine aB ?_
 have KZ:(vI (((i+1):Nat):Int))=(vI ((i:Int)+1)):=by exact cI om
 refine aY (IO ⟨(i+1),(by first|omega|(simp only []; omega))⟩ _ _ _ U os (b_ 9<|aR U KZ<|cL.nil _) (aN [0,1,2,3,4,5,6,7,8,9,10,11,12,13,14,15,16,17,18,19]))
end
section
open Go.RowKit
def po {α:Type} (cells:α→List Value) (sz:Nat) (R:World→α→Prop) (w:World) (s:aJ):Prop:= ∃ l:List α,s.n=l.length∧(rd s.a l.length sz (l.map cells)).holds w∧(∀ x∈l,R w x)∧l.length≤maxLen∧s.n≤s.c
theorem uS {w:World} {s:aW} {R1:World→ab→Prop} {R2:World→aj→Prop} {R3:World→cH→Prop} (h1:po ab.cells 9 R1 w s.ak.ic) (hs: ∀ x,R1 w x→0≤x.ct∧x.ct≤255) (h2:po aj.cells 7 R2 w s.aA) (hp: ∀ x,R2 w x→0≤x.Kind∧x.Kind≤255) (h3:po cH.cells 3 R3 w s.bk) (hn: ∀ x,R3 w x→0≤x.Kind∧x.Kind≤255):
 ∃ (d:ah) (kA:OA) (kC:Nat) (pA:OA) (pC:Nat) (nA:OA) (nC:Nat),s=aW.mk (ag.mk (aJ.mk kA d.ak.length kC)) (aJ.mk pA d.aA.length pC) (aJ.mk nA d.bk.length nC) d.bM d.bP∧gZ d∧
  ((rd kA d.ak.length 9 (d.ak.map ab.cells)).holds w∧(rd pA d.aA.length 7 (d.aA.map aj.cells)).holds w∧(rd nA d.bk.length 3 (d.bk.map cH.cells)).holds w)∧d.bM=s.bM∧d.bP=s.bP:=by
 obtain ⟨⟨⟨ka,kn,kc⟩⟩,⟨pa,pn,pc⟩,⟨na,nn,nc⟩,tw,ra⟩:=s
 obtain ⟨ts,C,J,K,L,O⟩:=h1
 obtain ⟨ps,B,G,H,AA,N⟩:=h2
 obtain ⟨ns,A,D,E,F,M⟩:=h3
 simp only at C B A
 subst C B A
 exact ⟨⟨ts,ps,ns,tw,ra⟩,ka,kc,pa,pc,na,nc,U,⟨L,fun x hx=>hs x (K x hx),AA,fun x hx=>hp x (H x hx),F,fun x hx=>hn x (E x hx)⟩,⟨J,G,D⟩,U,U⟩
end
section
open Go.RowKit
theorem q_ {w:World} {R:World→Int→Prop}: ∀ {l:List aJ},(∀ x∈l,po iC 1 R w x)→ ∃ (ms:List (List Int)) (az:List RA),l.map sC=List.zipWith eI ms az∧ms.length=l.length∧az.length=l.length∧ ∀ X∈ei eY ms az,X.holds w
 |[],_=>⟨[],[],rfl,rfl,rfl,fun X hX=>by cases hX⟩
 |x::l,h=>by
  obtain ⟨ms,az,C,D,E,F⟩:=q_ (fun y hy=>h y (fA _ hy))
  obtain ⟨y,A,B,G,H,AA⟩:=h x sm
  refine ⟨y::ms,(x.a,x.c)::az,?_,by simp [D],by simp [E],fun X hX=>?_⟩
  ·obtain ⟨a,n,c⟩:=x
   simp only at A
   subst A
   simp only [List.map_cons,List.zipWith_cons_cons,C]
   rfl
  ·rcases e9.1 hX with hX|hX
   ·simp only [eY,cN] at hX
    subst hX; exact B
   ·exact F X hX
end
section
open Go.ChangeShapes Go.WideShapes Go.ChangeAt Go.RowKit
theorem HV:Tryz.prog.cellsOf 30=10:=by kernel_rfl
theorem DZ:Tryz.prog.cellsOf 24=1:=by kernel_rfl
theorem Il:Tryz.prog.cellsOf 22=1:=by kernel_rfl
theorem GK:Tryz.prog.cellsOf 73=9:=by kernel_rfl
theorem rm:Tryz.prog.cellsOf 3=1:=by kernel_rfl
def qU (w:World) (n:Int):Prop:=lQ n
theorem rk:mT Tryz.prog 3 Int iC qU:=En oe
theorem mU:Tryz.prog.cellsOf 28=2:=by kernel_rfl
structure m7 (w:World) (s:I):Prop where
 Lo:qU w s.Lo
 Hi:qU w s.Hi
theorem Jd:fL Tryz.prog 28=some [(3,0),(3,1)]:=by kernel_rfl
theorem nw:mT Tryz.prog 28 I I.cells m7:=fun {H} enc w base sp A fuel cs x h=>by
 obtain ⟨hl,hp⟩:=fU Jd h
 obtain ⟨M,O,F⟩:=hp 0 3 0 rfl
 obtain ⟨K,B,AA⟩:=rk _ _ _ _ _ _ _ _ F
 obtain ⟨N,P,G⟩:=hp 1 3 1 rfl
 obtain ⟨L,C,J⟩:=rk _ _ _ _ _ _ _ _ G
 refine ⟨⟨K,L⟩,?_,⟨AA,J⟩⟩
 have E:=eK (hl.trans mU) (by rw [rm]) C
 have D:=bN B (m:=1) (by rw [rm]) E
 exact D
theorem F0:Tryz.prog.cellsOf 5=1:=by kernel_rfl
def Fq (w:World) (n:Int):Prop:=0≤n∧n≤255
theorem Gu:mT Tryz.prog 5 Int zd Fq:=FC vX
structure DL (w:World) (s:ab):Prop where
 Id:qU w s.Id
 di:m7 w s.di
 dA:m7 w s.dA
 cg:m7 w s.cg
 ct:Fq w s.ct
 kF:qU w s.kF
theorem I7:fL Tryz.prog 73=some [(3,0),(28,1),(28,3),(28,5),(5,7),(3,8)]:=by kernel_rfl
theorem IC:mT Tryz.prog 73 ab ab.cells DL:=fun {H} enc w base sp A fuel cs x h=>by
 obtain ⟨hl,hp⟩:=fU I7 h
 obtain ⟨g,o,O⟩:=hp 0 3 0 rfl
 obtain ⟨a,B,AA⟩:=rk _ _ _ _ _ _ _ _ O
 obtain ⟨i,p,P⟩:=hp 1 28 1 rfl
 obtain ⟨b,C,V⟩:=nw _ _ _ _ _ _ _ _ P
 obtain ⟨j,q,Q⟩:=hp 2 28 3 rfl
 obtain ⟨c,D,W⟩:=nw _ _ _ _ _ _ _ _ Q
 obtain ⟨k,r,R⟩:=hp 3 28 5 rfl
 obtain ⟨d,E,X⟩:=nw _ _ _ _ _ _ _ _ R
 obtain ⟨l,s,S⟩:=hp 4 5 7 rfl
 obtain ⟨e,F,Y⟩:=Gu _ _ _ _ _ _ _ _ S
 obtain ⟨n,t,T⟩:=hp 5 3 8 rfl
 obtain ⟨f,G,Z⟩:=rk _ _ _ _ _ _ _ _ T
 refine ⟨⟨a,b,c,d,e,f⟩,?_,⟨AA,V,W,X,Y,Z⟩⟩
 have N:=eK (hl.trans GK) (by rw [rm]) G
 have M:=bN F (m:=8) (by rw [F0]) N
 have L:=bN E (m:=7) (by rw [mU]) M
 have K:=bN D (m:=5) (by rw [mU]) L
 have J:=bN C (m:=3) (by rw [mU]) K
 have AB:=bN B (m:=1) (by rw [rm]) J
 exact AB
def FV (w:World) (s:aJ):Prop:= ∃ l:List ab,s.n=l.length∧(rd s.a l.length 9 (l.map ab.cells)).holds w∧(∀ x∈l,DL w x)∧l.length≤maxLen∧s.n≤s.c
theorem I1:mT Tryz.prog 22 aJ (fun s=>[vS s.a s.n s.c]) FV:=ja EM GK IC
structure Ew (w:World) (s:ag):Prop where
 ic:FV w s.ic
theorem IK:fL Tryz.prog 24=some [(22,0)]:=by kernel_rfl
theorem Hd:mT Tryz.prog 24 ag ag.cells Ew:=fun {H} enc w base sp A fuel cs x h=>by
 obtain ⟨hl,hp⟩:=fU IK h
 obtain ⟨G,AA,D⟩:=hp 0 22 0 rfl
 obtain ⟨F,B,E⟩:=I1 _ _ _ _ _ _ _ _ D
 refine ⟨⟨F⟩,?_,⟨E⟩⟩
 have C:=eK (hl.trans DZ) (by rw [Il]) B
 exact C
theorem H6:Tryz.prog.cellsOf 25=1:=by kernel_rfl
theorem Hl:Tryz.prog.cellsOf 77=3:=by kernel_rfl
structure G0 (w:World) (s:bG):Prop where
 lH:m7 w s.lH
 v_:qU w s.v_
theorem HX:fL Tryz.prog 77=some [(28,0),(3,2)]:=by kernel_rfl
theorem Jc:mT Tryz.prog 77 bG bG.cells G0:=fun {H} enc w base sp A fuel cs x h=>by
 obtain ⟨hl,hp⟩:=fU HX h
 obtain ⟨M,O,F⟩:=hp 0 28 0 rfl
 obtain ⟨K,B,AA⟩:=nw _ _ _ _ _ _ _ _ F
 obtain ⟨N,P,G⟩:=hp 1 3 2 rfl
 obtain ⟨L,C,J⟩:=rk _ _ _ _ _ _ _ _ G
 refine ⟨⟨K,L⟩,?_,⟨AA,J⟩⟩
 have E:=eK (hl.trans Hl) (by rw [rm]) C
 have D:=bN B (m:=2) (by rw [mU]) E
 exact D
def Gz (w:World) (s:aJ):Prop:= ∃ l:List bG,s.n=l.length∧(rd s.a l.length 3 (l.map bG.cells)).holds w∧(∀ x∈l,G0 w x)∧l.length≤maxLen∧s.n≤s.c
theorem IH:mT Tryz.prog 25 aJ (fun s=>[vS s.a s.n s.c]) Gz:=ja ID Hl Jc
theorem Jf:Tryz.prog.cellsOf 26=1:=by kernel_rfl
theorem Hu:Tryz.prog.cellsOf 79=5:=by kernel_rfl
theorem JX:Tryz.prog.cellsOf 4=1:=by kernel_rfl
def Jw (w:World) (n:Bool):Prop:=True
theorem JO:mT Tryz.prog 4 Bool (fun b=>[vB b]) Jw:=BV IT
structure Hc (w:World) (s:aZ):Prop where
 kx:m7 w s.kx
 o7:qU w s.o7
 o2:qU w s.o2
 l7:Jw w s.l7
theorem Ii:fL Tryz.prog 79=some [(28,0),(3,2),(3,3),(4,4)]:=by kernel_rfl
theorem Jr:mT Tryz.prog 79 aZ aZ.cells Hc:=fun {H} enc w base sp A fuel cs x h=>by
 obtain ⟨hl,hp⟩:=fU Ii h
 obtain ⟨W,a,K⟩:=hp 0 28 0 rfl
 obtain ⟨S,B,O⟩:=nw _ _ _ _ _ _ _ _ K
 obtain ⟨X,b,L⟩:=hp 1 3 2 rfl
 obtain ⟨T,C,P⟩:=rk _ _ _ _ _ _ _ _ L
 obtain ⟨Y,c,M⟩:=hp 2 3 3 rfl
 obtain ⟨AA,D,Q⟩:=rk _ _ _ _ _ _ _ _ M
 obtain ⟨Z,d,N⟩:=hp 3 4 4 rfl
 obtain ⟨V,E,R⟩:=JO _ _ _ _ _ _ _ _ N
 refine ⟨⟨S,T,AA,V⟩,?_,⟨O,P,Q,R⟩⟩
 have J:=eK (hl.trans Hu) (by rw [JX]) E
 have AB:=bN D (m:=4) (by rw [rm]) J
 have G:=bN C (m:=3) (by rw [rm]) AB
 have F:=bN B (m:=2) (by rw [mU]) G
 exact F
def Hz (w:World) (s:aJ):Prop:= ∃ l:List aZ,s.n=l.length∧(rd s.a l.length 5 (l.map aZ.cells)).holds w∧(∀ x∈l,Hc w x)∧l.length≤maxLen∧s.n≤s.c
theorem Jp:mT Tryz.prog 26 aJ (fun s=>[vS s.a s.n s.c]) Hz:=ja H5 Hu Jr
structure IZ (w:World) (s:bV):Prop where
 ak:Ew w s.ak
 cr:Gz w s.cr
 bu:Hz w s.bu
 dC:m7 w s.dC
 cS:m7 w s.cS
 eZ:qU w s.eZ
 ep:qU w s.ep
 gb:qU w s.gb
theorem F5:fL Tryz.prog 30=some [(24,0),(25,1),(26,2),(28,3),(28,5),(3,7),(3,8),(3,9)]:=by kernel_rfl
theorem IY:mT Tryz.prog 30 bV bV.cells IZ:=fun {H} enc w base sp A fuel cs x h=>by
 obtain ⟨hl,hp⟩:=fU F5 h
 obtain ⟨s,y0,S⟩:=hp 0 24 0 rfl
 obtain ⟨j,B,a⟩:=Hd _ _ _ _ _ _ _ _ S
 obtain ⟨t,y1,T⟩:=hp 1 25 1 rfl
 obtain ⟨k,C,b⟩:=IH _ _ _ _ _ _ _ _ T
 obtain ⟨u,y2,AA⟩:=hp 2 26 2 rfl
 obtain ⟨l,D,c⟩:=Jp _ _ _ _ _ _ _ _ AA
 obtain ⟨v,y3,V⟩:=hp 3 28 3 rfl
 obtain ⟨n,E,d⟩:=nw _ _ _ _ _ _ _ _ V
 obtain ⟨y,y4,W⟩:=hp 4 28 5 rfl
 obtain ⟨o,F,e⟩:=nw _ _ _ _ _ _ _ _ W
 obtain ⟨z,y5,X⟩:=hp 5 3 7 rfl
 obtain ⟨p,G,f⟩:=rk _ _ _ _ _ _ _ _ X
 obtain ⟨n6,y6,Y⟩:=hp 6 3 8 rfl
 obtain ⟨q,AB,g⟩:=rk _ _ _ _ _ _ _ _ Y
 obtain ⟨n7,y7,Z⟩:=hp 7 3 9 rfl
 obtain ⟨r,J,i⟩:=rk _ _ _ _ _ _ _ _ Z
 refine ⟨⟨j,k,l,n,o,p,q,r⟩,?_,⟨a,b,c,d,e,f,g,i⟩⟩
 have R:=eK (hl.trans HV) (by rw [rm]) J
 have Q:=bN AB (m:=9) (by rw [rm]) R
 have P:=bN G (m:=8) (by rw [rm]) Q
 have O:=bN F (m:=7) (by rw [mU]) P
 have N:=bN E (m:=5) (by rw [mU]) O
 have M:=bN D (m:=3) (by rw [Jf]) N
 have L:=bN C (m:=2) (by rw [H6]) M
 have K:=bN B (m:=1) (by rw [DZ]) L
 exact K
theorem Ih:Tryz.prog.cellsOf 67=1:=by kernel_rfl
def FJ (w:World) (s:aJ):Prop:= ∃ l:List Int,s.n=l.length∧(rd s.a l.length 1 (l.map iC)).holds w∧(∀ x∈l,qU w x)∧l.length≤maxLen∧s.n≤s.c
theorem IE:mT Tryz.prog 67 aJ (fun s=>[vS s.a s.n s.c]) FJ:=ja CT rm rk
def IN (w:World) (s:aJ):Prop:= ∃ l:List aJ,s.n=l.length∧(rd s.a l.length 1 (l.map (fun s=>[vS s.a s.n s.c]))).holds w∧(∀ x∈l,FJ w x)∧l.length≤maxLen∧s.n≤s.c
theorem H2:mT Tryz.prog 31 aJ (fun s=>[vS s.a s.n s.c]) IN:=ja GY Ih IE
theorem Jk:Tryz.prog.cellsOf 33=11:=by kernel_rfl
structure Iw (w:World) (s:bL):Prop where
 Class:Fq w s.Class
 Start:m7 w s.Start
 sU:m7 w s.sU
 lG:m7 w s.lG
 Weight:m7 w s.Weight
 ly:m7 w s.ly
theorem FM:fL Tryz.prog 33=some [(5,0),(28,1),(28,3),(28,5),(28,7),(28,9)]:=by kernel_rfl
theorem Ja:mT Tryz.prog 33 bL bL.cells Iw:=fun {H} enc w base sp A fuel cs x h=>by
 obtain ⟨hl,hp⟩:=fU FM h
 obtain ⟨g,o,O⟩:=hp 0 5 0 rfl
 obtain ⟨a,B,AA⟩:=Gu _ _ _ _ _ _ _ _ O
 obtain ⟨i,p,P⟩:=hp 1 28 1 rfl
 obtain ⟨b,C,V⟩:=nw _ _ _ _ _ _ _ _ P
 obtain ⟨j,q,Q⟩:=hp 2 28 3 rfl
 obtain ⟨c,D,W⟩:=nw _ _ _ _ _ _ _ _ Q
 obtain ⟨k,r,R⟩:=hp 3 28 5 rfl
 obtain ⟨d,E,X⟩:=nw _ _ _ _ _ _ _ _ R
 obtain ⟨l,s,S⟩:=hp 4 28 7 rfl
 obtain ⟨e,F,Y⟩:=nw _ _ _ _ _ _ _ _ S
 obtain ⟨n,t,T⟩:=hp 5 28 9 rfl
 obtain ⟨f,G,Z⟩:=nw _ _ _ _ _ _ _ _ T
 refine ⟨⟨a,b,c,d,e,f⟩,?_,⟨AA,V,W,X,Y,Z⟩⟩
 have N:=eK (hl.trans Jk) (by rw [mU]) G
 have M:=bN F (m:=9) (by rw [mU]) N
 have L:=bN E (m:=7) (by rw [mU]) M
 have K:=bN D (m:=5) (by rw [mU]) L
 have J:=bN C (m:=3) (by rw [mU]) K
 have AB:=bN B (m:=1) (by rw [F0]) J
 exact AB
theorem It:Tryz.prog.cellsOf 39=7:=by kernel_rfl
theorem Js:Tryz.prog.cellsOf 34=1:=by kernel_rfl
theorem G1:Tryz.prog.cellsOf 75=7:=by kernel_rfl
theorem D9:Tryz.prog.cellsOf 37=3:=by kernel_rfl
structure EL (w:World) (s:ae):Prop where
 ax:qU w s.ax
 hG:m7 w s.hG
theorem I5:fL Tryz.prog 37=some [(3,0),(28,1)]:=by kernel_rfl
theorem GF:mT Tryz.prog 37 ae ae.cells EL:=fun {H} enc w base sp A fuel cs x h=>by
 obtain ⟨hl,hp⟩:=fU I5 h
 obtain ⟨M,O,F⟩:=hp 0 3 0 rfl
 obtain ⟨K,B,AA⟩:=rk _ _ _ _ _ _ _ _ F
 obtain ⟨N,P,G⟩:=hp 1 28 1 rfl
 obtain ⟨L,C,J⟩:=nw _ _ _ _ _ _ _ _ G
 refine ⟨⟨K,L⟩,?_,⟨AA,J⟩⟩
 have E:=eK (hl.trans D9) (by rw [mU]) C
 have D:=bN B (m:=1) (by rw [rm]) E
 exact D
structure Et (w:World) (s:aj):Prop where
 Id:qU w s.Id
 Kind:Fq w s.Kind
 de:EL w s.de
 j7:qU w s.j7
 nd:qU w s.nd
theorem H_:fL Tryz.prog 75=some [(3,0),(5,1),(37,2),(3,5),(3,6)]:=by kernel_rfl
theorem IL:mT Tryz.prog 75 aj aj.cells Et:=fun {H} enc w base sp A fuel cs x h=>by
 obtain ⟨hl,hp⟩:=fU H_ h
 obtain ⟨b,g,M⟩:=hp 0 3 0 rfl
 obtain ⟨W,B,R⟩:=rk _ _ _ _ _ _ _ _ M
 obtain ⟨c,i,N⟩:=hp 1 5 1 rfl
 obtain ⟨X,C,S⟩:=Gu _ _ _ _ _ _ _ _ N
 obtain ⟨d,j,O⟩:=hp 2 37 2 rfl
 obtain ⟨Y,D,T⟩:=GF _ _ _ _ _ _ _ _ O
 obtain ⟨e,k,P⟩:=hp 3 3 5 rfl
 obtain ⟨Z,E,AA⟩:=rk _ _ _ _ _ _ _ _ P
 obtain ⟨f,l,Q⟩:=hp 4 3 6 rfl
 obtain ⟨a,F,V⟩:=rk _ _ _ _ _ _ _ _ Q
 refine ⟨⟨W,X,Y,Z,a⟩,?_,⟨R,S,T,AA,V⟩⟩
 have L:=eK (hl.trans G1) (by rw [rm]) F
 have K:=bN E (m:=6) (by rw [rm]) L
 have J:=bN D (m:=5) (by rw [D9]) K
 have AB:=bN C (m:=2) (by rw [F0]) J
 have G:=bN B (m:=1) (by rw [rm]) AB
 exact G
def GP (w:World) (s:aJ):Prop:= ∃ l:List aj,s.n=l.length∧(rd s.a l.length 7 (l.map aj.cells)).holds w∧(∀ x∈l,Et w x)∧l.length≤maxLen∧s.n≤s.c
theorem IS:mT Tryz.prog 34 aJ (fun s=>[vS s.a s.n s.c]) GP:=ja IQ G1 IL
theorem Ir:Tryz.prog.cellsOf 35=1:=by kernel_rfl
theorem Dd:Tryz.prog.cellsOf 176=3:=by kernel_rfl
structure zR (w:World) (s:cH):Prop where
 ax:qU w s.ax
 Kind:Fq w s.Kind
 g_:qU w s.g_
theorem HB:fL Tryz.prog 176=some [(3,0),(5,1),(3,2)]:=by kernel_rfl
theorem F6:mT Tryz.prog 176 cH cH.cells zR:=fun {H} enc w base sp A fuel cs x h=>by
 obtain ⟨hl,hp⟩:=fU HB h
 obtain ⟨R,AA,AB⟩:=hp 0 3 0 rfl
 obtain ⟨O,B,L⟩:=rk _ _ _ _ _ _ _ _ AB
 obtain ⟨S,V,J⟩:=hp 1 5 1 rfl
 obtain ⟨P,C,M⟩:=Gu _ _ _ _ _ _ _ _ J
 obtain ⟨T,W,K⟩:=hp 2 3 2 rfl
 obtain ⟨Q,D,N⟩:=rk _ _ _ _ _ _ _ _ K
 refine ⟨⟨O,P,Q⟩,?_,⟨L,M,N⟩⟩
 have G:=eK (hl.trans Dd) (by rw [rm]) D
 have F:=bN C (m:=2) (by rw [F0]) G
 have E:=bN B (m:=1) (by rw [rm]) F
 exact E
def He (w:World) (s:aJ):Prop:= ∃ l:List cH,s.n=l.length∧(rd s.a l.length 3 (l.map cH.cells)).holds w∧(∀ x∈l,zR w x)∧l.length≤maxLen∧s.n≤s.c
theorem Iz:mT Tryz.prog 35 aJ (fun s=>[vS s.a s.n s.c]) He:=ja HT Dd F6
structure H9 (w:World) (s:aW):Prop where
 ak:Ew w s.ak
 aA:GP w s.aA
 bk:He w s.bk
 bM:EL w s.bM
 bP:qU w s.bP
theorem GH:fL Tryz.prog 39=some [(24,0),(34,1),(35,2),(37,3),(3,6)]:=by kernel_rfl
theorem Iu:mT Tryz.prog 39 aW aW.cells H9:=fun {H} enc w base sp A fuel cs x h=>by
 obtain ⟨hl,hp⟩:=fU GH h
 obtain ⟨b,g,M⟩:=hp 0 24 0 rfl
 obtain ⟨W,B,R⟩:=Hd _ _ _ _ _ _ _ _ M
 obtain ⟨c,i,N⟩:=hp 1 34 1 rfl
 obtain ⟨X,C,S⟩:=IS _ _ _ _ _ _ _ _ N
 obtain ⟨d,j,O⟩:=hp 2 35 2 rfl
 obtain ⟨Y,D,T⟩:=Iz _ _ _ _ _ _ _ _ O
 obtain ⟨e,k,P⟩:=hp 3 37 3 rfl
 obtain ⟨Z,E,AA⟩:=GF _ _ _ _ _ _ _ _ P
 obtain ⟨f,l,Q⟩:=hp 4 3 6 rfl
 obtain ⟨a,F,V⟩:=rk _ _ _ _ _ _ _ _ Q
 refine ⟨⟨W,X,Y,Z,a⟩,?_,⟨R,S,T,AA,V⟩⟩
 have L:=eK (hl.trans It) (by rw [rm]) F
 have K:=bN E (m:=6) (by rw [D9]) L
 have J:=bN D (m:=3) (by rw [Ir]) K
 have AB:=bN C (m:=2) (by rw [Js]) J
 have G:=bN B (m:=1) (by rw [DZ]) AB
 exact G
theorem FI:Tryz.prog.cellsOf 86=5:=by kernel_rfl
structure GN (w:World) (s:bj):Prop where
 Kind:Fq w s.Kind
 cc:qU w s.cc
 To:qU w s.To
 cM:m7 w s.cM
theorem HU:fL Tryz.prog 86=some [(5,0),(3,1),(3,2),(28,3)]:=by kernel_rfl
theorem H4:mT Tryz.prog 86 bj bj.cells GN:=fun {H} enc w base sp A fuel cs x h=>by
 obtain ⟨hl,hp⟩:=fU HU h
 obtain ⟨W,a,K⟩:=hp 0 5 0 rfl
 obtain ⟨S,B,O⟩:=Gu _ _ _ _ _ _ _ _ K
 obtain ⟨X,b,L⟩:=hp 1 3 1 rfl
 obtain ⟨T,C,P⟩:=rk _ _ _ _ _ _ _ _ L
 obtain ⟨Y,c,M⟩:=hp 2 3 2 rfl
 obtain ⟨AA,D,Q⟩:=rk _ _ _ _ _ _ _ _ M
 obtain ⟨Z,d,N⟩:=hp 3 28 3 rfl
 obtain ⟨V,E,R⟩:=nw _ _ _ _ _ _ _ _ N
 refine ⟨⟨S,T,AA,V⟩,?_,⟨O,P,Q,R⟩⟩
 have J:=eK (hl.trans FI) (by rw [mU]) E
 have AB:=bN D (m:=3) (by rw [rm]) J
 have G:=bN C (m:=2) (by rw [rm]) AB
 have F:=bN B (m:=1) (by rw [F0]) G
 exact F
def Ic (w:World) (s:aJ):Prop:= ∃ l:List bj,s.n=l.length∧(rd s.a l.length 5 (l.map bj.cells)).holds w∧(∀ x∈l,GN w x)∧l.length≤maxLen∧s.n≤s.c
theorem Jh:mT Tryz.prog 40 aJ (fun s=>[vS s.a s.n s.c]) Ic:=ja F3 FI H4
theorem o3:ownKnob Tryz.prog.godebug=none:=by kernel_rfl
theorem oi:laidOutB Tryz.prog=true:=by kernel_rfl
theorem m0 (os:Os) (started:os.Started) (H:Type) (enc:TypeId×Value→H):
 ReturnsInHanded {} Tryz.checked os 3 .any (Rows.topMeasuredSpec.pre6 enc Tryz.prog Tryz.f3 Rows.topMeasuredRow.domain false) (Rows.topMeasuredSpec.post enc Tryz.prog Tryz.f3 false true false false):=by
 refine returnsInHanded_of_change (C:=Tryz.checked) o3 started kr Tryz.func3
  (ChangeSpec.witness6 (enc:=enc) (C:=Tryz.checked) false ⟨#[],#[.agg #[(vS none 0 0),(vS none 0 0),(vS none 0 0),(vI 0),(vI 0),(vI 0),(vI 0),(vI 0),(vI 0),(vI 0)],vS none 0 0,.agg #[(Value.int .u8 0),(vI 0),(vI 0),(vI 0),(vI 0),(vI 0),(vI 0),(vI 0),(vI 0),(vI 0),(vI 0)],.agg #[(vS none 0 0),(vS none 0 0),(vS none 0 0),(vI 0),(vI 0),(vI 0),(vI 0)],vS none 0 0,Value.int .u16 0],[]⟩ 8 kr kr kr kr) ?_
 intro W base args ds gs before AB hW V _
 have B: ∀ (j:Nat) t v,Tryz.f3.params[j]? =some t→args[j]? =some v→Value.okWide Tryz.prog W .any base t v:=AB
 have hW':=hW
 obtain ⟨p,q,M,hV,rfl,AO,AR⟩:=hW
 have hA:DataW.TrodAll enc Tryz.prog W 0 (fun _=>true) true Tryz.f3.params.toList args.toList ds p:=M
 have J:=hA
 rw [Tryz.params3] at hA B
 obtain ⟨b,Ci,d0,l,p0,q0,N,rfl,rfl,u,r0⟩:=trodAll_cons hA
 obtain ⟨c,Ck,d1,m,p1,R,rfl,rfl,rfl,w,r1⟩:=trodAll_cons r0
 obtain ⟨f,Cp,d2,n,p2,S,rfl,rfl,rfl,y,r2⟩:=trodAll_cons r1
 obtain ⟨g,Cx,d3,o,p3,q3,rfl,rfl,rfl,z,r3⟩:=trodAll_cons r2
 obtain ⟨h,C0,d4,r,p4,q4,rfl,rfl,rfl,h4,r4⟩:=trodAll_cons r3
 obtain ⟨i,C1,d5,s,p5,q5,rfl,rfl,rfl,h5,r5⟩:=trodAll_cons r4
 obtain ⟨rfl,rfl,rfl⟩:=trodAll_nil r5
 obtain rfl:args= #[b,c,f,g,h,i]:=by cases args; simp_all
 obtain ⟨rfl,rfl⟩:=trodVars_none hV
 obtain ⟨s0,rfl,R0⟩:=mW F5 IY (B 0 30 b rfl rfl) u
 obtain ⟨s1,rfl,R1⟩:=rL H2 GY (B 1 31 c rfl rfl) w
 obtain ⟨s2,rfl,R2⟩:=mW FM Ja (B 2 33 f rfl rfl) y
 obtain ⟨s3,rfl,R3⟩:=mW GH Iu (B 3 39 g rfl rfl) z
 obtain ⟨s4,rfl,R4⟩:=rL Jh F3 (B 4 40 h rfl rfl) h4
 obtain ⟨s5,rfl,R5⟩:=Ce (k:= .u16) GM (B 5 41 i rfl rfl) h5
 simp only [List.append_nil] at hW' J
 obtain ⟨⟨⟨kA,kn,kC⟩⟩,⟨bdA,bn,bdC⟩,⟨O,hn,P⟩,we,la,ra,li,ba⟩:=s0
 obtain ⟨ts,Z,a,t3,_⟩:=R0.ak.ic
 obtain ⟨bs,T,AA,_⟩:=R0.cr
 obtain ⟨hs,R,S,_⟩:=R0.bu
 simp only at Z a T AA R S
 subst Z T R
 obtain ⟨plA,pn,plC⟩:=s1
 obtain ⟨ls,X,Y,l3,_⟩:=R1
 simp only at X Y
 subst X
 obtain ⟨pl,pz,m1,Q,m3,m4⟩:=q_ l3
 have l2b:(rd plA pl.length 1 (List.zipWith eI pl pz)).holds W:=by rw [Q,← m1]; exact Y
 obtain ⟨d,kgA,kgC,pgA,pgC,ngA,ngC,rfl,L,G,_⟩:=uS (R1:=DL) (R2:=Et) (R3:=zR) R3.ak.ic (fun x hx=>hx.ct) R3.aA (fun x hx=>hx.Kind) R3.bk (fun x hx=>hx.Kind)
 obtain ⟨lA,ln,lC⟩:=s4
 obtain ⟨ms,K,D,F,_⟩:=R4
 simp only at K D
 subst K
 have E:=(qN (dx.mk ts bs hs we la ra li ba) kA kC bdA bdC O P pl pz plA plC s2 d kgA kgC pgA pgC ngA ngC ms lA lC s5 (fun x hx=>(t3 x hx).ct) (m3.trans Q.symm) R2.Class L (fun x hx=>(F x hx).Kind) R5).run W (by intro A hA; simp only [bZ,List.not_mem_nil,or_false] at hA; rcases hA with rfl|rfl|rfl|rfl|rfl|rfl|rfl|rfl|rfl; exact a; exact AA; exact S; exact l2b; exact m4; exact G.1; exact G.2.1; exact G.2.2; exact D)
 rw [Q] at E
 refine (E).mono fun e W' ⟨he,hk⟩=>?_
 subst he
 exact ⟨_,U,yY oi hW' J U U kr hk.below kr IT⟩
/-- the statement -/
theorem topMeasured_said:Rows.TopMeasuredSaid:=
 OpenClaim.holds_of_wide 3 Tryz.f3 rfl rfl rfl rfl rfl rfl rfl ⟨rfl,rfl,rfl,rfl,rfl⟩ rfl rfl rfl rfl rfl kr Tryz.func3 kr
  (of_decide_eq_true kr) (by unfold Func.isWrapper; first|(rw [if_pos (by decide+kernel)]; kernel_rfl)|(rw [if_neg (by decide+kernel)]; exact ⟨rfl,rfl⟩))
  (fun os started H enc _=>m0 os started H enc)
#print axioms topMeasured_said
end
end Go.Proofs.YtkidpbhlgnalaaaGreat
