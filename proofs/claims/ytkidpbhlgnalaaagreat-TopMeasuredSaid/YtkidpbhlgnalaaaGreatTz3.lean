/-
 The statement topMeasured_said, part 3 of 5: B1, B4, B2, B3, B5, B6, P1, P2, P3, P4, P5, P6, RangeG, MarkD, MapD, S0, P7, P8, M1, M2, M3, P9, G1, W1.
 Conditions: none.
-/
import Derived.Test.YtkidpbhlgnalaaaGreatTz1
import Derived.Test.YtkidpbhlgnalaaaGreatTz2
namespace Go.Proofs.YtkidpbhlgnalaaaGreat
set_option maxRecDepth 100000
set_option maxHeartbeats 4000000
set_option linter.unusedVariables false
section
open Go.RowKit
theorem iy (n lo hi:Int):
 cz Tryz.prog 28 [(vI n),(vI lo),(vI hi)] [] (vB (decide (lo≤n∧n≤hi))):=by
 refine bf kr Tryz.func28 U U fun D Q hQ hN=>?_
 try dsimp only
 refine WS fun _ B=>aU 1 U<|RK B<|WS fun _ A=>rP 4 [] mn ?_
 refine bx (t:=10) U (aM fun C=>?_) (aL fun C=>?_)
 ·refine rP 5 [] mn ?_
  refine RK A<|an<|Q1 hQ U U U ?_
  exact cB (eH.2 om)
 refine rP 5 [] mn ?_
 refine RK A<|an<|Q1 hQ U U U ?_
 exact cB (aD om).symm
theorem kh (s:I) (lo hi:Int):
 cz Tryz.prog 29 [(vA (I.cells s)),(vI lo),(vI hi)] [] (vB (decide (s.Lo≤s.Hi∧lo≤s.Lo∧s.Hi≤hi))):=by
 refine bf kr Tryz.func29 U U fun E Q hQ hN=>?_
 try dsimp only
 refine WS fun _ B=>ej U fun D=>aU 1 U<|RK B<|WS fun _ A=>dE 5 [] (mc 0 U mn) U<|rS (CL (iy s.Lo lo s.Hi) (av) U)<|rP 1 [] mn ?_
 refine dq (t:=13) U (aL fun C=>?_) (aM fun C=>?_)
 ·refine rP 6 [] mn ?_
  refine RK A<|an<|Q1 hQ U U U ?_
  exact cB (aD om).symm
 refine rP 6 [] (mc 0 U mn) ?_
 refine RK A<|an<|Q1 hQ U U U ?_
 exact cB (eH.2 om)
theorem wy (t:List ab) (tA:OA) (tC:Nat):
 cz Tryz.prog 22 [(vA (ag.cells (ag.mk (aJ.mk tA t.length tC))))] [(rd tA t.length 9 (t.map ab.cells))] (vB (decide (20<(t.length:Int)))):=by
 refine bf kr Tryz.func22 U U fun D Q hQ hN=>?_
 try dsimp only
 refine WS fun _ A=>ej U fun C=>aU 1 U<|RK A<|WS fun _ B=>rP 5 [] (mc 0 U mn) ?_
 refine RK B<|an ?_
 exact Q1 hQ U U U U
theorem wV (l:List Int) (lA:OA) (lC:Nat) (f:Value) (p:Int→Bool) (X:au) (hf: ∀ x0,x0∈l→sR Tryz.prog f [.int .i64 x0] [X] (.bool (p x0))) (hlen:l.length≤1000000):
 cz Tryz.prog 109 [(vS lA l.length lC),f] [(rd lA l.length 1 (l.map iC)),X] (vI (eD p l)):=by
 refine bf kr Tryz.func109 U U fun R Q hQ hN=>?_
 try dsimp only
 refine WS fun _ G=>aU 1 U<|RK G<|al fun _ H=>WS fun _ AA=>rP 3 [] mn ?_
 refine RK AA<|ar ?_
 have B:(0≤l.length)∧((l.take 0).any p=false):=by simp
 refine br (ι:={z:Nat // (z≤l.length)∧((l.take z).any p=false)}) [0,1,7] [0,1] U U (fun z=>[(8,(vI (z.1:Int)))]) (fun z=>[]) (fun _=>rfl) (fun _=>rfl) (fun z=>l.length-z.1) ⟨0,B⟩ (bg U) (aN [0,1]) ?_
 clear B
 rintro ⟨i,⟨N,A⟩⟩ J4 F
 try dsimp only
 refine WS fun _ J=>rP 1 [] mn ?_
 refine RK J<|al fun _ K=>bH U (aL fun P=>?_) (aM fun P=>?_)
 ·refine bo<|ai<|ai<|aw<|KK H<|WS fun _ E=>rP 1 [] mn ?_
  refine RK E<|an<|Q1 hQ U U U ?_
  exact cI (hH om A).symm
 refine WK K<|al fun _ L=>ar<|WS fun _ M=>aU 2 U<|RK M<|WS fun _ C=>rP 3 [] mn ?_
 obtain ⟨x,hx⟩:=bh l i om
 have O:=bp iC hx
 refine rS (IA i U (ay 0 U) cK dc om om)<|rS (fT i 0 (vI x) U bQ (ay 0 U) O U dc U)<|rS (SX (kb U U U (hf x (aG hx)) (aX [1])) U U)<|RK C<|cd U (fun hp=>?_) (fun hp=>?_)
 ·refine WS fun _ D=>rP 2 [] mn ?_
  refine RK D<|an<|Q1 hQ U U U ?_
  exact cI (jH hx hp A).symm
 refine bS<|aI<|KK L<|ao<|rP 2 [] mn ?_
 refine aB ?_
 refine aY (F ⟨(i+1),⟨om,lY hx A hp⟩⟩ _ _ _ U os (bg U) (aN [0,1]))
theorem jI (l:List Int) (lA:OA) (lC:Nat) (f:Value) (p:Int→Bool) (X:au) (hf: ∀ x0,x0∈l→sR Tryz.prog f [.int .i64 x0] [X] (.bool (p x0))) (hlen:l.length≤1000000):
 cz Tryz.prog 74 [(vS lA l.length lC),f] [(rd lA l.length 1 (l.map iC)),X] (vB (l.any p)):=by
 refine bf kr Tryz.func74 U U fun C Q hQ hN=>?_
 try dsimp only
 refine WS fun _ A=>aU 1 U<|RK A<|WS fun _ B=>aU 2 U<|rS (CL (wV l lA lC f p X (by exact hf) hlen) (aX [0,1]) U)<|rP 2 [] mn ?_
 refine RK B<|an<|Q1 hQ U U U ?_
 exact cB kB
theorem w8 (n lo hi:Int) (g1 g2:Nat):
 cz Tryz.prog 99 [(vI n),(vP g1),(vP g2)] [(bm g1 3 [(vI lo)]),(bm g2 3 [(vI hi)])] (vB (decide (n<lo∨hi<n))):=by
 refine bf kr Tryz.func99 U U fun D Q hQ hN=>?_
 try dsimp only
 refine WS fun _ B=>aU 1 U<|RK B<|WS fun _ A=>rP 4 [] (mr 0 U mn) ?_
 refine bx (t:=8) U (aM fun C=>?_) (aL fun C=>?_)
 ·refine rP 5 [] mn ?_
  refine RK A<|an<|Q1 hQ U U U ?_
  exact cB (bY om).symm
 refine rP 5 [] (mr 1 U mn) ?_
 refine RK A<|an<|Q1 hQ U U U ?_
 exact cB (eH.2 om)
theorem iD (lo hi:Int) (l:List Int) (lA:OA) (lC:Nat) (hlen:l.length≤1000000):
 cz Tryz.prog 57 [(vI lo),(vI hi),(vS lA l.length lC)] [(rd lA l.length 1 (l.map iC))] (vB (jZ lo hi l)):=by
 refine bf kr Tryz.func57 U U fun F Q hQ hN=>?_
 try dsimp only
 refine WS fun _ D=>o4 U U fun A=>o4 U U fun B=>aU 1 U<|RK D<|WS fun _ E=>rP 1 [] mn ?_
 refine rS (FU U) ?_
 refine rS (CL (jI l lA lC (Value.func (.func 99) [].toArray [(vP A),(vP B)].toArray) (fun C=>(decide (C<lo∨hi<C))) (ky [(bm A 3 [(vI lo)]),(bm B 3 [(vI hi)])]) (by intro C _; exact hZ (fi:=[]) (ca:=[(vP A),(vP B)]) (gu (w8 C lo hi A B) (aX [0,1]))) hlen) (eM 2 U U<|aK (gJ (aX [1,0]))<|av) U) ?_
 refine rP 2 [] mn ?_
 refine RK E<|an ?_
 exact Q1 hQ U U U U
theorem nV (s:I) (lo hi:Int):
 cz Tryz.prog 58 [(vA (I.cells s)),(vI lo),(vI hi)] [] (vB (decide (s.Lo≤s.Hi∧lo≤s.Lo∧s.Hi≤hi))):=by
 refine bf kr Tryz.func58 U U fun F Q hQ hN=>?_
 try dsimp only
 refine WS fun _ B=>ej U fun E=>aU 1 U<|RK B<|WS fun _ A=>rP 6 [] (mc 0 U mn) ?_
 refine bX (xs:=[.tmp 10,.tmp 12]) (cs:=[(vI s.Lo),(vI s.Hi)]) U cK g6 U U U U (by simp [Value.cells]) U U fun C=>?_
 refine rS (CL (cz.eq (iD lo hi ([s.Lo,s.Hi]) (some ⟨C,0,none⟩) 2 (by (simp; done))) kq) (aK (aH 0 U U (by simp [bq]) U)<|av) U) ?_
 refine rP 1 [] mn ?_
 refine dq (t:=15) U (aL fun D=>?_) (aM fun D=>?_)
 ·refine rP 7 [] mn ?_
  refine RK A<|an<|Q1 hQ U U U ?_
  exact cB (aD om).symm
 refine rP 7 [] (mc 1 U mn) ?_
 refine RK A<|an<|Q1 hQ U U U ?_
 exact cB (eH.2 om)
theorem my (ts:List ab) (tsA:OA) (tsC:Nat) (hlen:ts.length≤1000000):
 cz Tryz.prog 45 [(vA (ag.cells (ag.mk (aJ.mk tsA ts.length tsC))))] [(rd tsA ts.length 9 (ts.map ab.cells))] (vB (a9 ts)):=by
 refine bf kr Tryz.func45 U U fun w0 Q hQ hN=>?_
 try dsimp only
 refine WS fun _ C0=>ej U fun b2=>aU 1 U<|RK C0<|al fun _ C1=>WS fun _ C2=>dE 3 [] (mc 0 U mn) U<|rS (CL (iy (ts.length:Int) 1 12) (av) U)<|rP 1 [] mn ?_
 refine RK C2<|cd U (aP fun h5=>?_) (aO fun h5=>?_)
 ·refine WS fun _ DA=>rP 1 [] mn ?_
  refine RK DA<|an<|Q1 hQ U U U ?_
  exact cB (j3 om).symm
 refine WK C1<|al fun _ DN=>WS fun _ Di=>rP 1 [] mn ?_
 refine RK Di<|ar ?_
 have E:(0≤ts.length)∧(cW (-1) ts=cW (eh ts 0) (ts.drop 0))∧(-1≤eh ts 0):=by (refine ⟨om,rfl,by simp [eh]⟩)
 refine br (ι:={z:Nat // (z≤ts.length)∧(cW (-1) ts=cW (eh ts z) (ts.drop z))∧(-1≤eh ts z)}) [1] [0,1] U U (fun z=>[(3,(vI (z.1:Int)))]) (fun z=>[]) (fun _=>rfl) (fun _=>rfl) (fun z=>ts.length-z.1) ⟨0,E⟩ (bg U) (aN [0,1]) ?_
 clear E
 rintro ⟨i,⟨Do,A,EI⟩⟩ J9 D
 try dsimp only
 have hz:i=0→eh ts i= -1:=tr
 refine al fun _ K=>WS fun _ L=>rP 5 [] (mc 0 U mn) ?_
 refine RK L<|bH U (aL fun v=>?_) (aM fun v=>?_)
 ·refine bo<|ai<|ai<|aw<|KK DN<|WS fun _ u=>rP 1 [] mn ?_
  refine RK u<|an<|Q1 hQ U U U ?_
  exact cB (oY A om om).symm
 refine WK K<|al fun _ C=>ar<|WS fun _ M=>rP 3 [] (mc 0 U mn) ?_
 obtain ⟨x,hx⟩:=bh ts i om
 have EQ:=bp ab.cells hx
 refine rS (IA i U (ay 1 U) l5 dc om om)<|rS (jq i 0 (ab.cells x) U bQ (ay 1 U) EQ U dc U U)<|AL U uP fun ET=>eC U Bv U<|RK M<|al fun _ F=>al fun _ B=>dF cx 38 kr<|jA 2 [] (mc 0 U mn) U<|dS (CL (iy x.Id 0 9999) (av) U)<|dP 2 [] mn ?_
 refine dY (t:=26) U (aP fun w=>?_) (aO fun w=>?_)
 ·refine fQ 11 U<|fQ 22 U<|cj<|RK B<|aC U<|WS fun _ N=>rP 1 [] mn ?_
  refine RK N<|an<|Q1 hQ U U U ?_
  exact cB (cP A hx (by simp only [a_,aF]; omega)).symm
 refine dP 3 [] mn ?_
 refine gj (t:=29) U (aL fun AC=>?_) (aM fun AC=>?_)
 ·refine fQ 8 U<|fQ 6 U<|dS (LP (I.cells x.di) 0 U bQ U U U)<|dS (CL (kh x.di 1 30000) (av) U)<|dP 3 [] mn ?_
  refine dY (t:=48) U (aP fun A7=>?_) (aO fun A7=>?_)
  ·refine fQ 11 U<|cj<|RK B<|aC U<|WS fun _ e=>rP 1 [] mn ?_
   refine RK e<|an<|Q1 hQ U U U ?_
   exact cB (cP A hx (by simp only [a_,aF]; omega)).symm
  refine fQ 1 U<|dS (LP (I.cells x.dA) 0 U bQ U U U)<|dS (CL (kh x.dA 0 5000) (av) U)<|dP 3 [] mn ?_
  refine dY (t:=54) U (aP fun A8=>?_) (aO fun A8=>?_)
  ·refine fQ 5 U<|cj<|RK B<|aC U<|WS fun _ f=>rP 1 [] mn ?_
   refine RK f<|an<|Q1 hQ U U U ?_
   exact cB (cP A hx (by simp only [a_,aF]; omega)).symm
  refine jA 2 [] (mc 0 U mn) U<|dS (CL (iy x.kF 0 5000) (av) U)<|dP 2 [] mn ?_
  refine cj<|RK B<|cd U (aP fun A9=>?_) (aO fun A9=>?_)
  ·refine WS fun _ g=>rP 1 [] mn ?_
   refine RK g<|an<|Q1 hQ U U U ?_
   exact cB (cP A hx (by simp only [a_,aF]; omega)).symm
  refine WK F<|WS fun _ h=>dE 2 [] (mc 0 U mn) U<|RK h<|ar<|WS fun _ j=>rS (BI U j5)<|rP 1 [] mn ?_
  refine RK j<|cd U (aM fun Bf=>?_) (aL fun Bf=>?_)
  ·refine WS fun _ AB=>rP 5 [] (mc 0 U mn) ?_
   refine bx (t:=68) U (aP fun Bl=>?_) (aO fun Bl=>?_)
   ·refine aU 5 U<|RK AB<|aC U<|WS fun _ k=>rP 1 [] mn ?_
    refine RK k<|an<|Q1 hQ U U U ?_
    exact cB (cP A hx (by simp only [a_,aF]; omega)).symm
   refine rP 5 [] (mc 0 U mn) ?_
   refine RK AB<|bH U (aO fun Bs=>?_) (aP fun Bs=>?_)
   ·refine bS<|aI<|aI<|KK C<|ao<|rP 3 [] mn ?_
    refine aB ?_
    refine aY (D ⟨(i+1),⟨om,eG A hx (by simp only [a_,aF]; omega),by rw [eg hx]; omega⟩⟩ _ _ _ U os (bg U) (aN [1,2]))
   refine WS fun _ l=>rP 1 [] mn ?_
   refine RK l<|an<|Q1 hQ U U U ?_
   exact cB (cP A hx (by simp only [a_,aF]; omega)).symm
  refine al fun _ J=>WS fun _ m=>rS (BI U j5)<|rP 1 [] mn ?_
  refine RK m<|cd U (aM fun B9=>?_) (aL fun B9=>?_)
  ·refine WK J<|bH U (aL fun Ci=>?_) (aM fun Ci=>?_)
   ·refine WS fun _ p=>rP 1 [] mn ?_
    refine RK p<|an<|Q1 hQ U U U ?_
    exact cB (j3 om).symm
   refine WS fun _ n=>aU 1 U<|rS (LP (I.cells x.cg) 0 U bQ U U U)<|rS (CL (kh x.cg 500 20000) (av) U)<|rP 1 [] mn ?_
   refine RK n<|bH U (aO fun Ck=>?_) (aP fun Ck=>?_)
   ·refine bS<|aI<|aI<|KK C<|ao<|rP 3 [] mn ?_
    refine aB ?_
    refine aY (D ⟨(i+1),⟨om,eG A hx (by simp only [a_,aF]; omega),by rw [eg hx]; omega⟩⟩ _ _ _ U os (bg U) (aN [1,2]))
   refine WS fun _ o=>rP 1 [] mn ?_
   refine RK o<|an<|Q1 hQ U U U ?_
   exact cB (cP A hx (by simp only [a_,aF]; omega)).symm
  refine ao<|rS (BI U j5)<|rP 1 [] mn ?_
  refine RK J<|bH U (aL fun Cp=>?_) (aM fun Cp=>?_)
  ·refine WS fun _ s=>rP 1 [] mn ?_
   refine RK s<|an<|Q1 hQ U U U ?_
   exact cB (cP A hx (by simp only [a_,aF]; omega)).symm
  refine WS fun _ q=>aU 1 U<|rS (LP (I.cells x.cg) 0 U bQ U U U)<|rS (CL (kh x.cg 500 20000) (av) U)<|rP 1 [] mn ?_
  refine RK q<|bH U (aO fun Cx=>?_) (aP fun Cx=>?_)
  ·refine bS<|aI<|aI<|KK C<|ao<|rP 3 [] mn ?_
   refine aB ?_
   refine aY (D ⟨(i+1),⟨om,eG A hx (by simp only [a_,aF]; omega),by rw [eg hx]; omega⟩⟩ _ _ _ U os (bg U) (aN [1,2]))
  refine WS fun _ r=>rP 1 [] mn ?_
  refine RK r<|an<|Q1 hQ U U U ?_
  exact cB (cP A hx (by simp only [a_,aF]; omega)).symm
 refine dP 6 [0,1] (mc 0 U (mc 1 U mn)) ?_
 obtain ⟨y,hy⟩:=bh ts (i-1) om
 have ER:=bp ab.cells hy
 refine dS (IA (i-1) U (ay 2 U) l5 dc om om)<|dS (lp ((i-1)*9) U (ay 2 U) (Nat.mul_pos om dc) fh U) ?_
 have E2:=uT om hy
 refine dS (fT (i-1) 0 (vI y.Id) U bQ (ay 2 U) ER U dc U)<|dP 4 [] mn ?_
 refine dY (t:=42) U (aM fun AH=>?_) (aL fun AH=>?_)
 ·refine fQ 17 U<|cj<|RK B<|aC U<|WS fun _ O=>rP 1 [] mn ?_
  refine RK O<|an<|Q1 hQ U U U ?_
  exact cB (cP A hx (by simp only [a_,aF]; omega)).symm
 refine fQ 1 U<|dS (LP (I.cells x.di) 0 U bQ U U U)<|dS (CL (kh x.di 1 30000) (av) U)<|dP 3 [] mn ?_
 refine dY (t:=48) U (aP fun AO=>?_) (aO fun AO=>?_)
 ·refine fQ 11 U<|cj<|RK B<|aC U<|WS fun _ P=>rP 1 [] mn ?_
  refine RK P<|an<|Q1 hQ U U U ?_
  exact cB (cP A hx (by simp only [a_,aF]; omega)).symm
 refine fQ 1 U<|dS (LP (I.cells x.dA) 0 U bQ U U U)<|dS (CL (kh x.dA 0 5000) (av) U)<|dP 3 [] mn ?_
 refine dY (t:=54) U (aP fun AR=>?_) (aO fun AR=>?_)
 ·refine fQ 5 U<|cj<|RK B<|aC U<|WS fun _ R=>rP 1 [] mn ?_
  refine RK R<|an<|Q1 hQ U U U ?_
  exact cB (cP A hx (by simp only [a_,aF]; omega)).symm
 refine jA 2 [] (mc 0 U mn) U<|dS (CL (iy x.kF 0 5000) (av) U)<|dP 2 [] mn ?_
 refine cj<|RK B<|cd U (aP fun Ak=>?_) (aO fun Ak=>?_)
 ·refine WS fun _ S=>rP 1 [] mn ?_
  refine RK S<|an<|Q1 hQ U U U ?_
  exact cB (cP A hx (by simp only [a_,aF]; omega)).symm
 refine WK F<|WS fun _ T=>dE 2 [] (mc 0 U mn) U<|RK T<|ar<|WS fun _ AA=>rS (BI U j5)<|rP 1 [] mn ?_
 refine RK AA<|cd U (aM fun Ay=>?_) (aL fun Ay=>?_)
 ·refine WS fun _ G=>rP 5 [] (mc 0 U mn) ?_
  refine bx (t:=68) U (aP fun A0=>?_) (aO fun A0=>?_)
  ·refine aU 5 U<|RK G<|aC U<|WS fun _ V=>rP 1 [] mn ?_
   refine RK V<|an<|Q1 hQ U U U ?_
   exact cB (cP A hx (by simp only [a_,aF]; omega)).symm
  refine rP 5 [] (mc 0 U mn) ?_
  refine RK G<|bH U (aO fun A1=>?_) (aP fun A1=>?_)
  ·refine bS<|aI<|aI<|KK C<|ao<|rP 3 [] mn ?_
   refine aB ?_
   refine aY (D ⟨(i+1),⟨om,eG A hx (by simp only [a_,aF]; omega),by rw [eg hx]; omega⟩⟩ _ _ _ U os (bg U) (aN [1,2]))
  refine WS fun _ W=>rP 1 [] mn ?_
  refine RK W<|an<|Q1 hQ U U U ?_
  exact cB (cP A hx (by simp only [a_,aF]; omega)).symm
 refine al fun _ H=>WS fun _ X=>rS (BI U j5)<|rP 1 [] mn ?_
 refine RK X<|cd U (aM fun A2=>?_) (aL fun A2=>?_)
 ·refine WK H<|bH U (aL fun A3=>?_) (aM fun A3=>?_)
  ·refine WS fun _ a=>rP 1 [] mn ?_
   refine RK a<|an<|Q1 hQ U U U ?_
   exact cB (j3 om).symm
  refine WS fun _ Y=>aU 1 U<|rS (LP (I.cells x.cg) 0 U bQ U U U)<|rS (CL (kh x.cg 500 20000) (av) U)<|rP 1 [] mn ?_
  refine RK Y<|bH U (aO fun A4=>?_) (aP fun A4=>?_)
  ·refine bS<|aI<|aI<|KK C<|ao<|rP 3 [] mn ?_
   refine aB ?_
   refine aY (D ⟨(i+1),⟨om,eG A hx (by simp only [a_,aF]; omega),by rw [eg hx]; omega⟩⟩ _ _ _ U os (bg U) (aN [1,2]))
  refine WS fun _ Z=>rP 1 [] mn ?_
  refine RK Z<|an<|Q1 hQ U U U ?_
  exact cB (cP A hx (by simp only [a_,aF]; omega)).symm
 refine ao<|rS (BI U j5)<|rP 1 [] mn ?_
 refine RK H<|bH U (aL fun A5=>?_) (aM fun A5=>?_)
 ·refine WS fun _ d=>rP 1 [] mn ?_
  refine RK d<|an<|Q1 hQ U U U ?_
  exact cB (cP A hx (by simp only [a_,aF]; omega)).symm
 refine WS fun _ b=>aU 1 U<|rS (LP (I.cells x.cg) 0 U bQ U U U)<|rS (CL (kh x.cg 500 20000) (av) U)<|rP 1 [] mn ?_
 refine RK b<|bH U (aO fun A6=>?_) (aP fun A6=>?_)
 ·refine bS<|aI<|aI<|KK C<|ao<|rP 3 [] mn ?_
  refine aB ?_
  refine aY (D ⟨(i+1),⟨om,eG A hx (by simp only [a_,aF]; omega),by rw [eg hx]; omega⟩⟩ _ _ _ U os (bg U) (aN [1,2]))
 refine WS fun _ c=>rP 1 [] mn ?_
 refine RK c<|an<|Q1 hQ U U U ?_
 exact cB (cP A hx (by simp only [a_,aF]; omega)).symm
theorem kN (ts:List ab) (tsA:OA) (tsC:Nat) (hlen:ts.length≤1000000) (hside: ∀ x∈ts,0≤x.ct∧x.ct≤255):
 cz Tryz.prog 65 [(vA (ag.cells (ag.mk (aJ.mk tsA ts.length tsC))))] [(rd tsA ts.length 9 (ts.map ab.cells))] (vI (if a9 ts=true then 0 else 10)):=by
 refine bf kr Tryz.func65 U U fun w0 Q hQ hN=>?_
 try dsimp only
 refine WS fun _ v=>ej U fun b2=>aU 1 U<|RK v<|sD U<|al fun _ w=>WS fun _ y=>rP 3 [] (mc 0 U mn) ?_
 refine bX (xs:=[.tmp 11]) (cs:=[(vI (ts.length:Int))]) U cK g6 U U U U (by simp [Value.cells]) U U fun b5=>?_
 refine rS (CL (cz.eq (iD 1 12 ([(ts.length:Int)]) (some ⟨b5,0,none⟩) 1 (by (simp; done))) bR) (aK (aH 0 U U (by simp [bq]) U)<|av) U) ?_
 refine rP 1 [] mn ?_
 refine RK y<|cd U (aP fun h6=>?_) (aO fun h6=>?_)
 ·refine WS fun _ AC=>rP 1 [] mn ?_
  refine RK AC<|an<|Q1 hQ U U U ?_
  exact cI (if_neg (by rw [j3 om]; decide)).symm
 refine WK w<|WS fun _ AH=>aU 1 U<|RK AH<|WS fun _ AO=>aU 1 U<|RK AO<|al fun _ J=>sb<|KK J<|al fun _ B=>WS fun _ K=>rP 4 [] (mc 1 U mn) ?_
 refine RK K<|ar ?_
 have D:(0≤ts.length)∧(cW (-1) ts=cW (eh ts 0) (ts.drop 0))∧(-1≤eh ts 0)∧(eh ts 0≤9999):=by (refine ⟨om,rfl,by simp [eh],by simp [eh]⟩)
 refine br (ι:={z:Nat // (z≤ts.length)∧(cW (-1) ts=cW (eh ts z) (ts.drop z))∧(-1≤eh ts z)∧(eh ts z≤9999)}) [1,4,16,17] [1,2] U U (fun z=>[(3,(vI (eh ts z.1))),(18,(vI (z.1:Int)))]) (fun z=>[]) (fun _=>rfl) (fun _=>rfl) (fun z=>ts.length-z.1) ⟨0,D⟩ (bg U) (aN [1,2]) ?_
 clear D
 rintro ⟨i,⟨AR,A,Ak,Ay⟩⟩ J13 E
 try dsimp only
 refine WS fun _ L=>rP 1 [] mn ?_
 refine RK L<|al fun _ M=>bH U (aL fun k=>?_) (aM fun k=>?_)
 ·refine bo<|ai<|ai<|aw<|KK B<|WS fun _ O=>rP 2 [] mn ?_
  refine RK O<|an<|Q1 hQ U U U ?_
  exact cI (if_pos (oY A om om)).symm
 refine WK M<|al fun _ F=>ar<|WS fun _ N=>?_
 obtain ⟨x,hx⟩:=bh ts i om
 have A0:=bp ab.cells hx
 refine rS (IA i U (ay 1 U) l5 dc om om) ?_
 have A4:=hside x (aG hx)
 refine rS (jq i 0 (ab.cells x) U bQ (ay 1 U) A0 U dc U U)<|AL U uP fun A1=>eC U Bv U<|RK N ?_
 refine pt (ι:=Unit) [1,3,4,6,16,17,18] [0,1,2] U U (fun z=>[(7,(vB (decide (x.ct=0∧x.cg.Lo=0∧x.cg.Hi=0))))]) (fun z=>[]) (fun _=>rfl) (fun _=>rfl) ?_ fun K20 G=>?_
 ·intro _
  try dsimp only
  refine pt (ι:=Unit) [1,3,4,6,7,16,17,18] [0,1,2] U U (fun z=>[(8,(vB (decide ((1≤x.ct∧x.ct≤2)∧x.cg.Lo≤x.cg.Hi∧500≤x.cg.Lo∧x.cg.Hi≤20000))))]) (fun z=>[]) (fun _=>rfl) (fun _=>rfl) ?_ fun K21 H=>?_
  ·intro _
   try dsimp only
   refine al fun _ AB=>WS fun _ C=>rP 4 [] (mc 0 U mn) ?_
   refine bX (xs:=[.tmp 44]) (cs:=[(vI x.Id)]) U cK g6 U U U U (by simp [Value.cells]) U U fun h=>?_
   refine rS (CL (cz.eq (iD ((eh ts i)+1) 9999 ([x.Id]) (some ⟨h,0,none⟩) 1 (by (simp; done))) bR) (aK (aH 0 U U (by simp [bq]) U)<|av) U) ?_
   refine rP 2 [] mn ?_
   refine bx (t:=48) U (aP fun o=>?_) (aO fun o=>?_)
   ·refine aU 26 U<|RK C<|aC U<|WS fun _ P=>aU 1 U<|RK P<|bo<|ai<|fq U<|ai<|ai<|aw<|KK B<|WS fun _ R=>rP 2 [] mn ?_
    refine RK R<|an<|Q1 hQ U U U ?_
    exact cI (if_neg (by rw [cP A hx (by simp only [a_,aF]; omega)]; decide)).symm
   refine aU 1 U<|rS (LP (I.cells x.di) 1 U bQ U U U)<|rS (CL (nV x.di 1 30000) (av) U)<|rP 3 [] mn ?_
   refine bx (t:=54) U (aP fun p=>?_) (aO fun p=>?_)
   ·refine aU 20 U<|RK C<|aC U<|WS fun _ S=>aU 1 U<|RK S<|bo<|ai<|fq U<|ai<|ai<|aw<|KK B<|WS fun _ T=>rP 2 [] mn ?_
    refine RK T<|an<|Q1 hQ U U U ?_
    exact cI (if_neg (by rw [cP A hx (by simp only [a_,aF]; omega)]; decide)).symm
   refine aU 1 U<|rS (LP (I.cells x.dA) 1 U bQ U U U)<|rS (CL (nV x.dA 0 5000) (av) U)<|rP 3 [] mn ?_
   refine bx (t:=60) U (aP fun q=>?_) (aO fun q=>?_)
   ·refine aU 14 U<|RK C<|aC U<|WS fun _ AA=>aU 1 U<|RK AA<|bo<|ai<|fq U<|ai<|ai<|aw<|KK B<|WS fun _ V=>rP 2 [] mn ?_
    refine RK V<|an<|Q1 hQ U U U ?_
    exact cI (if_neg (by rw [cP A hx (by simp only [a_,aF]; omega)]; decide)).symm
   refine rP 2 [] (mc 1 U mn) ?_
   refine bX (xs:=[.tmp 62]) (cs:=[(vI x.kF)]) U cK g6 U U U U (by simp [Value.cells]) U U fun j=>?_
   refine rS (CL (cz.eq (iD 0 5000 ([x.kF]) (some ⟨j,0,none⟩) 1 (by (simp; done))) bR) (aK (aH 0 U U (by simp [bq]) U)<|av) U) ?_
   refine rP 3 [] mn ?_
   refine bx (t:=67) U (aP fun r=>?_) (aO fun r=>?_)
   ·refine aU 7 U<|RK C<|aC U<|WS fun _ W=>aU 1 U<|RK W<|bo<|ai<|fq U<|ai<|ai<|aw<|KK B<|WS fun _ X=>rP 2 [] mn ?_
    refine RK X<|an<|Q1 hQ U U U ?_
    exact cI (if_neg (by rw [cP A hx (by simp only [a_,aF]; omega)]; decide)).symm
   refine rP 3 [] mn ?_
   refine dq (t:=70) U (aO fun s=>?_) (aP fun s=>?_)
   ·refine aU 4 U<|RK C<|bw U<|WK AB<|ao<|dE 3 [] (mc 2 U mn) U<|aB<|aI<|KK F<|ao<|rP 2 [] mn ?_
    refine aB ?_
    have f:(vI (eh ts (i+1)))=(vI x.Id):=by rw [eg hx]
    refine aY (E ⟨(i+1),⟨om,eG A hx (by simp only [a_,aF]; omega),by rw [eg hx]; omega,by rw [eg hx]; omega⟩⟩ _ _ _ U os (b_ 4<|aR U f<|bg U) (aN [3,4]))
   refine rP 4 [] mn ?_
   refine RK C<|bH U (aO fun u=>?_) (aP fun u=>?_)
   ·refine WK AB<|ao<|dE 3 [] (mc 2 U mn) U<|aB<|aI<|KK F<|ao<|rP 2 [] mn ?_
    refine aB ?_
    have e:(vI (eh ts (i+1)))=(vI x.Id):=by rw [eg hx]
    refine aY (E ⟨(i+1),⟨om,eG A hx (by simp only [a_,aF]; omega),by rw [eg hx]; omega,by rw [eg hx]; omega⟩⟩ _ _ _ U os (b_ 4<|aR U e<|bg U) (aN [3,4]))
   refine WS fun _ Y=>aU 1 U<|RK Y<|bo<|ai<|fq U<|ai<|ai<|aw<|KK B<|WS fun _ Z=>rP 2 [] mn ?_
   refine RK Z<|an<|Q1 hQ U U U ?_
   exact cI (if_neg (by rw [cP A hx (by simp only [a_,aF]; omega)]; decide)).symm
  refine ao<|rP 2 [] (mc 0 U mn) ?_
  refine rS (SX (fP (m:=x.ct) U U vX oe (eo (by first|assumption|omega))) U U)<|bX (xs:=[.tmp 33]) (cs:=[(vI x.ct)]) U cK g6 U U U U (by simp [Value.cells]) U U fun g=>?_
  refine rS (CL (cz.eq (iD 1 2 ([x.ct]) (some ⟨g,0,none⟩) 1 (by (simp; done))) bR) (aK (aH 0 U U (by simp [bq]) U)<|av) U) ?_
  refine rP 1 [] mn ?_
  refine dq (t:=36) U (aL fun n=>?_) (aM fun n=>?_)
  ·refine rP 5 [] mn ?_
   refine aB ?_
   have d:(decide ((1≤x.ct∧x.ct≤2)∧x.cg.Lo≤x.cg.Hi∧500≤x.cg.Lo∧x.cg.Hi≤20000))=false:=aD om
   refine aY (j9 (b_ 8<|jO U d<|cL.nil _) (aN [1,2,3]) (H ()))
  refine aU 1 U<|rS (LP (I.cells x.cg) 1 U bQ U U U)<|rS (CL (nV x.cg 500 20000) (av) U)<|rP 2 [] mn ?_
  refine aB ?_
  have c:(decide ((1≤x.ct∧x.ct≤2)∧x.cg.Lo≤x.cg.Hi∧500≤x.cg.Lo∧x.cg.Hi≤20000))=(decide (x.cg.Lo≤x.cg.Hi∧500≤x.cg.Lo∧x.cg.Hi≤20000)):=eH.2 om
  refine aY (j9 (b_ 8<|jO U c<|cL.nil _) (aN [1,2,3]) (H ()))
 refine ao<|dE 2 [] (mc 0 U mn) U<|rS (BI U j5)<|rP 1 [] mn ?_
 refine dq (t:=25) U (aL fun l=>?_) (aM fun l=>?_)
 ·refine rP 6 [] mn ?_
  refine aB ?_
  have b:(decide (x.ct=0∧x.cg.Lo=0∧x.cg.Hi=0))=false:=aD om
  refine aY (j9 (b_ 7<|jO U b<|cL.nil _) (aN [0,1,2]) (G ()))
 refine aU 1 U<|rS (LP (I.cells x.cg) 0 U bQ U U U)<|rS (SX (aS (xs:=[]) (cs:=(I.cells (I.mk 0 0))) U U (aT fm U)) U U)<|rS (BI U (Aq _ _ x.cg (I.mk 0 0)))<|rP 2 [] mn ?_
 refine aB ?_
 have a:(decide (x.ct=0∧x.cg.Lo=0∧x.cg.Hi=0))=(decide (x.cg=(I.mk 0 0))):=eH.2 (by (simp only [I.ext_iff] at *; omega))
 refine aY (j9 (b_ 7<|jO U a<|cL.nil _) (aN [0,1,2]) (G ()))
theorem oQ (la:List I) (laA:OA) (laC:Nat) (lb:List I) (lbA:OA) (lbC:Nat) (h1:la.length≤1000000) (h2:lb.length≤1000000):
 cz Tryz.prog 98 [(vS laA la.length laC),(vS lbA lb.length lbC)] [(rd laA la.length 2 (la.map I.cells)),(rd lbA lb.length 2 (lb.map I.cells))] (vB (decide (la=lb))):=by
 refine bf kr Tryz.func98 U U fun V Q hQ hN=>?_
 try dsimp only
 refine WS fun _ J=>aU 1 U<|RK J<|al fun _ K=>WS fun _ L=>rP 5 [] mn ?_
 refine RK L<|cd U (aP fun hl=>?_) (aO fun hl=>?_)
 ·refine WS fun _ M=>rP 1 [] mn ?_
  refine RK M<|an<|Q1 hQ U U U ?_
  first|exact cB (aD (qv hx hy h)).symm|exact cB (bY (qH om A om)).symm|exact cB (aD (fun e=>by subst e; omega)).symm
 refine WK K<|al fun _ N=>WS fun _ O=>rP 1 [] mn ?_
 refine RK O<|ar ?_
 have B:(0≤la.length)∧(la.take 0=lb.take 0):=by simp
 refine br (ι:={z:Nat // (z≤la.length)∧(la.take z=lb.take z)}) [0,1] [0,1] U U (fun z=>[(5,(vI (z.1:Int)))]) (fun z=>[]) (fun _=>rfl) (fun _=>rfl) (fun z=>la.length-z.1) ⟨0,B⟩ (bg U) (aN [0,1]) ?_
 clear B
 rintro ⟨i,⟨S,A⟩⟩ J7 AC
 try dsimp only
 refine al fun _ P=>WS fun _ R=>rP 4 [] mn ?_
 refine RK R<|bH U (aL fun H=>?_) (aM fun H=>?_)
 ·refine bo<|ai<|ai<|aw<|KK N<|WS fun _ F=>rP 1 [] mn ?_
  refine RK F<|an<|Q1 hQ U U U ?_
  first|exact cB (aD (qv hx hy h)).symm|exact cB (bY (qH om A om)).symm|exact cB (aD (fun e=>by subst e; omega)).symm
 refine WK P<|al fun _ C=>ar<|al fun _ D=>dF cx 9 kr<|dP 2 [] mn ?_
 obtain ⟨x,hx⟩:=bh la i om
 have T:=bp I.cells hx
 refine dS (IA i U (ay 0 U) hU dc om om)<|dS (jq i 0 (I.cells x) U bQ (ay 0 U) T U dc U U)<|dP 2 [] mn ?_
 obtain ⟨y,hy⟩:=bh lb i om
 have AB:=bp I.cells hy
 refine dS (IA i U (ay 1 U) hU dc om om)<|dS (jq i 0 (I.cells y) U bQ (ay 1 U) AB U dc U U)<|dS (BI U (AA _ _ x y))<|cj<|RK D<|cd U (aP fun h=>?_) (aO fun h=>?_)
 ·refine WS fun _ E=>rP 1 [] mn ?_
  refine RK E<|an<|Q1 hQ U U U ?_
  first|exact cB (aD (qv hx hy h)).symm|exact cB (bY (qH om A om)).symm|exact cB (aD (fun e=>by subst e; omega)).symm
 refine bS<|aI<|KK C<|ao<|rP 3 [] mn ?_
 refine aB ?_
 have G:(vI (((i+1):Nat):Int))=(vI ((i:Int)+1)):=by exact cI om
 refine aY (AC ⟨(i+1),⟨om,wX A hx hy h⟩⟩ _ _ _ U os (cL.cons U<|cL.cons U<|aR U G<|cL.nil _) (aN [0,1]))
end
section
open Go.RowKit
theorem zf (n lo hi:Int) (g1 g2:Nat):
 cz Tryz.prog 81 [(vI n),(vP g1),(vP g2)] [(bm g1 3 [(vI lo)]),(bm g2 3 [(vI hi)])] (vB (decide (n<lo∨hi<n))):=by
 refine bf kr Tryz.func81 U U fun D Q hQ hN=>?_
 try dsimp only
 refine WS fun _ B=>aU 1 U<|RK B<|WS fun _ A=>rP 4 [] (mr 0 U mn) ?_
 refine bx (t:=8) U (aM fun C=>?_) (aL fun C=>?_)
 ·refine rP 5 [] mn ?_
  refine RK A<|an<|Q1 hQ U U U ?_
  exact cB (bY om).symm
 refine rP 5 [] (mr 1 U mn) ?_
 refine RK A<|an<|Q1 hQ U U U ?_
 exact cB (eH.2 om)
theorem hE (lo hi:Int) (l:List Int) (lA:OA) (lC:Nat) (hlen:l.length≤1000000):
 cz Tryz.prog 42 [(vI lo),(vI hi),(vS lA l.length lC)] [(rd lA l.length 1 (l.map iC))] (vB (jZ lo hi l)):=by
 refine bf kr Tryz.func42 U U fun F Q hQ hN=>?_
 try dsimp only
 refine WS fun _ D=>o4 U U fun A=>o4 U U fun B=>aU 1 U<|RK D<|WS fun _ E=>rP 1 [] mn ?_
 refine rS (FU U) ?_
 refine rS (CL (jI l lA lC (Value.func (.func 81) [].toArray [(vP A),(vP B)].toArray) (fun C=>(decide (C<lo∨hi<C))) (ky [(bm A 3 [(vI lo)]),(bm B 3 [(vI hi)])]) (by intro C _; exact hZ (fi:=[]) (ca:=[(vP A),(vP B)]) (gu (zf C lo hi A B) (aX [0,1]))) hlen) (eM 2 U U<|aK (gJ (aX [1,0]))<|av) U) ?_
 refine rP 2 [] mn ?_
 refine RK E<|an ?_
 exact Q1 hQ U U U U
theorem Ia (n d:Int) (hd:2≤d):
 cz Tryz.prog 43 [(vI n),(vI d)] [] (vI (Gi n d)):=by
 refine bf kr Tryz.func43 U U fun C Q hQ hN=>?_
 try dsimp only
 refine WS fun _ A=>aU 1 U<|RK A<|WS fun _ B=>aU 2 U<|rS (BI U DW)<|rS (BI U Aa)<|aU 1 U<|rS (BI U (D4 om (Ey (FB _) hd)))<|rP 1 [] mn ?_
 refine RK B<|an ?_
 exact Q1 hQ U U U U
theorem FW (n d:Int) (hd:1≤d∧d≤1000000) (hn:0≤n∧n≤1000000000000000):
 cz Tryz.prog 43 [(vI n),(vI d)] [] (vI (CE n d)):=by
 refine bf kr Tryz.func43 U U fun C Q hQ hN=>?_
 try dsimp only
 refine WS fun _ A=>aU 1 U<|RK A<|WS fun _ B=>aU 5 U<|rS (BI U (oP om om om))<|rP 1 [] mn ?_
 refine RK B<|an ?_
 exact Q1 hQ U U U U
theorem Ex (c:bK) (sA:OA) (sC:Nat) (hlen:c.bO.length≤1000000) (hcap:c.bO.length≤sC):
 cz Tryz.prog 118 [(vA (e_.cells (e_.mk c.gp (aJ.mk sA c.bO.length sC))))] [(rd sA c.bO.length 3 (c.bO.map dN.cells))] (vB (decide (fj c))):=by
 refine bf kr Tryz.func118 U U fun w0 Q hQ hN=>?_
 try dsimp only
 refine WS fun _ A7=>ej U fun b2=>aU 1 U<|RK A7<|sD U<|al fun _ A8=>WS fun _ q=>rP 2 [] (mc 0 U mn) ?_
 refine bX (xs:=[.tmp 11]) (cs:=[(vI c.gp)]) U cK g6 U U U U (by simp [Value.cells]) U U fun b5=>?_
 refine rS (CL (cz.eq (hE 0 1000 ([c.gp]) (some ⟨b5,0,none⟩) 1 (by (simp; done))) bR) (aK (aH 0 U U (by simp [bq]) U)<|av) U) ?_
 refine rP 2 [] mn ?_
 refine bx (t:=15) U (aP fun AB=>?_) (aO fun AB=>?_)
 ·refine aU 7 U<|RK q<|aC U<|WS fun _ A9=>rP 1 [] mn ?_
  refine RK A9<|an<|Q1 hQ U U U ?_
  exact cB (aD fun h=>AB h.zX).symm
 refine rP 3 [] (mc 1 U mn) ?_
 refine bX (xs:=[.tmp 18]) (cs:=[(vI (c.bO.length:Int))]) U cK g6 U U U U (by simp [Value.cells]) U U fun b7=>?_
 refine rS (CL (cz.eq (hE 1 5 ([(c.bO.length:Int)]) (some ⟨b7,0,none⟩) 1 (by (simp; done))) bR) (aK (aH 0 U U (by simp [bq]) U)<|av) U) ?_
 refine rP 2 [] mn ?_
 refine RK q<|cd U (aP fun O=>?_) (aO fun O=>?_)
 ·refine WS fun _ Bf=>rP 1 [] mn ?_
  refine RK Bf<|an<|Q1 hQ U U U ?_
  exact cB (aD fun h=>O (by have:=h.len; omega)).symm
 refine WK A8<|WS fun _ Bl=>aU 1 U<|RK Bl<|WS fun _ R=>aU 1 U<|RK R<|al fun _ S=>sb<|KK S<|al fun _ K=>WS fun _ T=>rP 4 [] (mc 2 U mn) ?_
 refine RK T<|ar ?_
 have B:(0≤c.bO.length)∧(mX c 0):=by exact ⟨Nat.zero_le _,x3⟩
 have r:(vI (gT c 0))=(vI (-1)):=by rw [ek rfl]
 refine br (ι:={z:Nat // (z≤c.bO.length)∧(mX c z)}) [1,2,4,24,25] [2,3] U U (fun z=>[(3,(vI (gT c z.1))),(26,(vI (z.1:Int)))]) (fun z=>[]) (fun _=>rfl) (fun _=>rfl) (fun z=>c.bO.length-z.1) ⟨0,B⟩ (aR U r<|bg U) (aN [2,3]) ?_
 clear B
 rintro ⟨i,⟨L,C⟩⟩ J15 P
 try dsimp only
 have C1: -1≤gT c i∧gT c i≤86400000:=Eh L C
 refine WS fun _ AA=>rP 1 [] mn ?_
 refine RK AA<|al fun _ V=>bH U (aL fun A2=>?_) (aM fun A2=>?_)
 ·refine bo<|ai<|ai<|aw<|KK K<|WS fun _ f=>rP 2 [] mn ?_
  refine RK f<|an<|Q1 hQ U U U ?_
  exact cB (bY (xo AB om (by have e:i=c.bO.length:=om; rw [← e]; exact C))).symm
 refine WK V<|al fun _ W=>ar<|WS fun _ X=>rP 1 [] mn ?_
 obtain ⟨x,hx⟩:=bh c.bO i om
 have Ci:=bp dN.cells hx
 refine rS (IA i U (ay 1 U) oS dc om om)<|rS (jq i 0 (dN.cells x) U bQ (ay 1 U) Ci U dc U U)<|AL U oM fun Ck=>rP 1 [] mn ?_
 refine eC U qx U<|RK X ?_
 refine pt (ι:=Unit) [1,2,3,5,6,24,25,26] [0,1,2] U U (fun z=>[(4,(vB (decide (dR c i x))))]) (fun z=>[]) (fun _=>rfl) (fun _=>rfl) ?_ fun K22 G=>?_
 ·intro _
  try dsimp only
  refine al fun _ Y=>WS fun _ Z=>dE 3 [] (mc 1 U mn) U<|rS (HK i U oS om om)<|rP 2 [] mn ?_
  refine RK Z<|ar ?_
  have B:(0≤i)∧((decide (dR c i x))=(decide (iS c i x 0))):=by exact ⟨Nat.zero_le _,eH.2 vH.symm⟩
  refine br (ι:={z:Nat×Bool // (z.1≤i)∧(z.2=(decide (iS c i x z.1)))}) [1,2,3,5,6,24,25,26,59,60] [0,1,2] U U (fun z=>[(4,(vB z.1.2)),(61,(vI (z.1.1:Int)))]) (fun z=>[]) (fun _=>rfl) (fun _=>rfl) (fun z=>i-z.1.1) ⟨(0,(decide (dR c i x))),B⟩ (bg U) (aN [0,1,2]) ?_
  clear B
  rintro ⟨⟨k,b⟩,⟨M,A⟩⟩ J25 F
  try dsimp only at M A
  try dsimp only
  refine WS fun _ a=>rP 1 [] mn ?_
  refine RK a<|al fun _ d=>bH U (aL fun A4=>?_) (aM fun A4=>?_)
  ·refine bo<|ai<|ai<|aw<|KK Y<|al fun _ m=>WS fun _ n=>rP 2 [] mn ?_
   refine RK n<|cd U (fun D=>?_) (fun D=>?_)
   ·rw [Bool.not_eq_true'] at D
    refine bo<|ai<|fq U<|ai<|ai<|aw<|KK K<|WS fun _ p=>rP 2 [] mn ?_
    refine RK p<|an<|Q1 hQ U U U ?_
    exact cB (by have e:k=i:=om; rw [e] at A; rw [D] at A ⊢; exact (aD (As hx (of_decide_eq_false A.symm))).symm)
   rw [Bool.not_eq_false'] at D
   refine WK m<|ao<|dE 3 [] (mc 0 U mn) U<|aB<|aI<|KK W<|ao<|rP 2 [] mn ?_
   refine aB ?_
   have AO:(vB true)=(vB b):=by exact cB D.symm
   have AR:(vI (gT c (i+1)))=(vI x.At):=by rw [me hx]
   have Ak:(vI (((i+1):Nat):Int))=(vI ((i:Int)+1)):=by exact cI om
   refine aY (P ⟨(i+1),⟨om,xK C hx (by have e:k=i:=om; rw [e] at A; exact of_decide_eq_true (A.symm.trans D))⟩⟩ _ _ _ U os (cL.cons U<|cL.cons U<|aR U AO<|cL.cons U<|cL.cons U<|aR U AR<|aR U Ak<|cL.nil _) (aN [1,2]))
  refine WK d<|al fun _ H=>ar<|WS fun _ g=>?_
  obtain ⟨o,ho⟩:=bh c.bO k om
  have Bs:=bp dN.cells ho
  refine rS (JN k U (ay 2 U) oS dc om om om)<|rS (jq k 0 (dN.cells o) U bQ (ay 2 U) Bs U dc U U)<|AL U oM fun Cp=>eC U qx U<|RK g<|WS fun _ l=>dE 6 [0,1,2] (mc 2 U (mc 1 U (mc 0 U mn))) U<|rS (BI U Aa)<|rS (BI U EP)<|rS (CL (Ia (sS (c.gp*(sS (x.At-o.At)))) 1000000 om) (av) U)<|aU 1 U<|RK l<|ao<|rP 2 [] mn ?_
  refine dq (t:=75) U (fun J=>?_) (fun J=>?_)
  ·refine aU 6 U<|aU 16 U<|aB<|aI<|KK H<|ao<|rP 2 [] mn ?_
   refine aB ?_
   have AH:(vI (((k+1):Nat):Int))=(vI ((k:Int)+1)):=by exact cI om
   refine aY (F ⟨((k+1),false),⟨om,by exact (aD fun h=>by have h2:=((mV ho).1 h).1; rw [A] at J; exact absurd (bY h2) (by rw [J]; decide)).symm⟩⟩ _ _ _ U os (b_ 11<|aR U AH<|cL.nil _) (aN [1,2,3]))
  refine rP 6 [0,1] (mc 1 U (mc 0 U mn)) ?_
  have Ay:iS c i x k:=of_decide_eq_true (A.symm.trans J)
  obtain ⟨B9,C2,DA⟩:=oG (fun j y hj hy=>(C j y hj hy).1) hx Ay.1 om ho
  have N:=B8 AB B9
  refine rP 5 [] mn ?_
  refine dq (t:=86) U (aL fun E=>?_) (aM fun E=>?_)
  ·refine aU 11 U<|aB<|aI<|KK H<|ao<|rP 2 [] mn ?_
   refine aB ?_
   have AC:(vI (((k+1):Nat):Int))=(vI ((k:Int)+1)):=by exact cI om
   refine aY (F ⟨((k+1),false),⟨om,by exact (aD fun h=>by have h2:=((mV ho).1 h).2; rw [N] at E; exact E h2.1).symm⟩⟩ _ _ _ U os (b_ 11<|aR U AC<|cL.nil _) (aN [1,2,3]))
  refine dE 11 [0,1] (mc 0 U (mc 1 U mn)) U<|aB<|aI<|KK H<|ao<|rP 2 [] mn ?_
  refine aB ?_
  have w:(vI (((k+1):Nat):Int))=(vI ((k:Int)+1)):=by exact cI om
  refine aY (F ⟨((k+1),(decide ((o.fX.Lo-x.fX.Hi)≤(Gi (sS (c.gp*(sS (x.At-o.At)))) 1000000)))),⟨om,by exact eH.2 (by rw [mV ho,N]; rw [N] at E; exact ⟨fun h=>⟨Ay,E,h⟩,fun h=>h.2.2⟩)⟩⟩ _ _ _ U os (b_ 11<|aR U w<|cL.nil _) (aN [1,2,3]))
 refine ao<|rP 4 [] (mc 0 U mn) ?_
 refine bX (xs:=[.tmp 34]) (cs:=[(vI x.At)]) U cK g6 U U U U (by simp [Value.cells]) U U fun A0=>?_
 refine rS (CL (cz.eq (hE ((gT c i)+1) 86400000 ([x.At]) (some ⟨A0,0,none⟩) 1 (by (simp; done))) bR) (aK (aH 0 U U (by simp [bq]) U)<|av) U) ?_
 refine rP 1 [] mn ?_
 refine dq (t:=37) U (aL fun A5=>?_) (aM fun A5=>?_)
 ·refine rP 19 [] mn ?_
  refine aB ?_
  have v:(decide (dR c i x))=false:=aD (by unfold dR; omega)
  refine aY (j9 (b_ 8<|jO U v<|cL.nil _) (aN [1,2,3]) (G ()))
 refine rP 6 [] (mc 1 U mn) ?_
 refine bX (xs:=[.tmp 40,.tmp 43]) (cs:=[(vI x.fX.Lo),(vI x.fX.Hi)]) U cK g6 U U U U (by simp [Value.cells]) U U fun A1=>?_
 refine rS (CL (cz.eq (hE (-10000) 10000 ([x.fX.Lo,x.fX.Hi]) (some ⟨A1,0,none⟩) 2 (by (simp; done))) kq) (aK (aH 0 U U (by simp [bq]) U)<|av) U) ?_
 refine rP 2 [] mn ?_
 refine dq (t:=47) U (aL fun A6=>?_) (aM fun A6=>?_)
 ·refine rP 9 [] mn ?_
  refine aB ?_
  have u:(decide (dR c i x))=false:=aD (by unfold dR; omega)
  refine aY (j9 (b_ 8<|jO U u<|cL.nil _) (aN [2,3,4]) (G ()))
 refine rP 9 [] (mc 2 U mn) ?_
 refine aB ?_
 have s:(decide (dR c i x))=(decide (x.fX.Lo≤x.fX.Hi)):=eH.2 (by unfold dR; omega)
 refine aY (j9 (b_ 8<|jO U s<|cL.nil _) (aN [2,3,4]) (G ()))
theorem Hm (ms:List bK) (az:List RA) (k:Nat) (m:bK) (a:RA) (hm:ms[k]? =some m) (ha:az[k]? =some a) (hc:m.bO.length≤a.2∧m.bO.length≤1000000):
 cz Tryz.prog 117 [(vA (e_.cells (e_.mk m.gp (aJ.mk a.1 m.bO.length a.2))))] [(ky (ei bK.Bf ms az))] (vB (!(decide (fj m)))):=by
 obtain ⟨C,D⟩:=hc
 refine bf kr Tryz.func117 U U fun F Q hQ hN=>?_
 try dsimp only
 refine WS fun _ A=>ej U fun E=>aU 1 U<|RK A<|WS fun _ B=>dE 1 [] (mc 0 U mn) U<|rS (CL (Ex m a.1 a.2 asm asm) (aK (show iK _ (rd a.1 m.bO.length 3 (m.bO.map dN.cells)).holds from (dD 1 U (cR hm ha (by simp [bK.Bf]))))<|av) U)<|rP 2 [] mn ?_
 refine RK B<|an ?_
 exact Q1 hQ U U U U
theorem yo (l:List bK) (az:List RA) (lA:OA) (lC:Nat) (f:Value) (p:bK→Bool) (X:au) (hf: ∀ (k:Nat) m a,l[k]? =some m→az[k]? =some a→sR Tryz.prog f [.agg (bK.cells m a).toArray] [X] (.bool (p m))) (hlen:l.length≤1000000) (has:az.length=l.length):
 cz Tryz.prog 149 [(vS lA l.length lC),f] [(rd lA l.length 2 (List.zipWith bK.cells l az)),(ky (ei bK.Bf l az)),X] (vI (eD p l)):=by
 refine bf kr Tryz.func149 U U fun T Q hQ hN=>?_
 try dsimp only
 refine WS fun _ AA=>aU 1 U<|RK AA<|al fun _ J=>WS fun _ K=>rP 3 [] mn ?_
 refine RK K<|ar ?_
 have B:(0≤l.length)∧((l.take 0).any p=false):=by simp
 refine br (ι:={z:Nat // (z≤l.length)∧((l.take z).any p=false)}) [0,1,7] [0,1,2] U U (fun z=>[(8,(vI (z.1:Int)))]) (fun z=>[]) (fun _=>rfl) (fun _=>rfl) (fun z=>l.length-z.1) ⟨0,B⟩ (bg U) (aN [0,1,2]) ?_
 clear B
 rintro ⟨i,⟨P,A⟩⟩ J4 H
 try dsimp only
 refine WS fun _ L=>rP 1 [] mn ?_
 refine RK L<|al fun _ M=>bH U (aL fun S=>?_) (aM fun S=>?_)
 ·refine bo<|ai<|ai<|aw<|KK J<|WS fun _ E=>rP 1 [] mn ?_
  refine RK E<|an<|Q1 hQ U U U ?_
  exact cI (hH om A).symm
 refine WK M<|al fun _ N=>ar<|WS fun _ O=>aU 2 U<|RK O<|WS fun _ C=>rP 3 [] mn ?_
 obtain ⟨x,hx⟩:=bh l i om
 obtain ⟨xa,G⟩:=bh az i om
 have R:(List.zipWith bK.cells l az)[i]? =some (bK.cells x xa):=jv hx G
 refine rS (IA i U (ay 0 U) DX dc om om)<|rS (jq i 0 (e_.cells (e_.mk x.gp (aJ.mk xa.1 x.bO.length xa.2))) U bQ (ay 0 U) R U dc U U)<|rS (SX (kb U U U (hf i x xa hx G) (aX [2])) U U)<|RK C<|cd U (fun hp=>?_) (fun hp=>?_)
 ·refine WS fun _ D=>rP 2 [] mn ?_
  refine RK D<|an<|Q1 hQ U U U ?_
  exact cI (jH hx hp A).symm
 refine bS<|aI<|KK N<|ao<|rP 2 [] mn ?_
 refine aB ?_
 have F:(vI (((i+1):Nat):Int))=(vI ((i:Int)+1)):=by exact cI om
 refine aY (H ⟨(i+1),⟨om,lY hx A hp⟩⟩ _ _ _ U os (b_ 3<|aR U F<|cL.nil _) (aN [0,1,2]))
theorem r8 (l:List bK) (az:List RA) (lA:OA) (lC:Nat) (f:Value) (p:bK→Bool) (X:au) (hf: ∀ (k:Nat) m a,l[k]? =some m→az[k]? =some a→sR Tryz.prog f [.agg (bK.cells m a).toArray] [X] (.bool (p m))) (hlen:l.length≤1000000) (has:az.length=l.length):
 cz Tryz.prog 116 [(vS lA l.length lC),f] [(rd lA l.length 2 (List.zipWith bK.cells l az)),(ky (ei bK.Bf l az)),X] (vB (l.any p)):=by
 refine bf kr Tryz.func116 U U fun C Q hQ hN=>?_
 try dsimp only
 refine WS fun _ A=>aU 1 U<|RK A<|WS fun _ B=>aU 2 U<|rS (CL (yo l az lA lC f p X (by exact hf) hlen has) (x_ 0 1 2 U U U U U U) U)<|rP 2 [] mn ?_
 refine RK B<|an<|Q1 hQ U U U ?_
 exact cB kB
theorem xg (l:List dU) (lA:OA) (lC:Nat) (f:Value) (p:dU→Bool) (X:au) (hf: ∀ x0,x0∈l→sR Tryz.prog f [.agg (dU.cells x0).toArray] [X] (.bool (p x0))) (hlen:l.length≤1000000):
 cz Tryz.prog 150 [(vS lA l.length lC),f] [(rd lA l.length 4 (l.map dU.cells)),X] (vI (eD p l)):=by
 refine bf kr Tryz.func150 U U fun S Q hQ hN=>?_
 try dsimp only
 refine WS fun _ H=>aU 1 U<|RK H<|al fun _ AA=>WS fun _ J=>rP 3 [] mn ?_
 refine RK J<|ar ?_
 have B:(0≤l.length)∧((l.take 0).any p=false):=by simp
 refine br (ι:={z:Nat // (z≤l.length)∧((l.take z).any p=false)}) [0,1,7] [0,1] U U (fun z=>[(8,(vI (z.1:Int)))]) (fun z=>[]) (fun _=>rfl) (fun _=>rfl) (fun z=>l.length-z.1) ⟨0,B⟩ (bg U) (aN [0,1]) ?_
 clear B
 rintro ⟨i,⟨O,A⟩⟩ J4 G
 try dsimp only
 refine WS fun _ K=>rP 1 [] mn ?_
 refine RK K<|al fun _ L=>bH U (aL fun R=>?_) (aM fun R=>?_)
 ·refine bo<|ai<|ai<|aw<|KK AA<|WS fun _ E=>rP 1 [] mn ?_
  refine RK E<|an<|Q1 hQ U U U ?_
  exact cI (hH om A).symm
 refine WK L<|al fun _ M=>ar<|WS fun _ N=>aU 2 U<|RK N<|WS fun _ C=>rP 3 [] mn ?_
 obtain ⟨x,hx⟩:=bh l i om
 have P:=bp dU.cells hx
 refine rS (IA i U (ay 0 U) sx dc om om)<|rS (jq i 0 (dU.cells x) U bQ (ay 0 U) P U dc U U)<|rS (SX (kb U U U (hf x (aG hx)) (aX [1])) U U)<|RK C<|cd U (fun hp=>?_) (fun hp=>?_)
 ·refine WS fun _ D=>rP 2 [] mn ?_
  refine RK D<|an<|Q1 hQ U U U ?_
  exact cI (jH hx hp A).symm
 refine bS<|aI<|KK M<|ao<|rP 2 [] mn ?_
 refine aB ?_
 have F:(vI (((i+1):Nat):Int))=(vI ((i:Int)+1)):=by exact cI om
 refine aY (G ⟨(i+1),⟨om,lY hx A hp⟩⟩ _ _ _ U os (b_ 3<|aR U F<|cL.nil _) (aN [0,1]))
theorem sL (l:List dU) (lA:OA) (lC:Nat) (f:Value) (p:dU→Bool) (X:au) (hf: ∀ x0,x0∈l→sR Tryz.prog f [.agg (dU.cells x0).toArray] [X] (.bool (p x0))) (hlen:l.length≤1000000):
 cz Tryz.prog 120 [(vS lA l.length lC),f] [(rd lA l.length 4 (l.map dU.cells)),X] (vB (l.any p)):=by
 refine bf kr Tryz.func120 U U fun C Q hQ hN=>?_
 try dsimp only
 refine WS fun _ A=>aU 1 U<|RK A<|WS fun _ B=>aU 2 U<|rS (CL (xg l lA lC f p X (by exact hf) hlen) (aX [0,1]) U)<|rP 2 [] mn ?_
 refine RK B<|an<|Q1 hQ U U U ?_
 exact cB kB
end
section
open Go.RowKit
theorem lg (a:I) (l:List I) (lA:OA) (lC:Nat) (ha:iJ a) (hl: ∀ z∈l,iJ z) (hlen:l.length≤4):
 cz Tryz.prog 124 [(vA (I.cells a)),(vS lA l.length lC)] [(rd lA l.length 2 (l.map I.cells))] (vA (I.cells (g7 a l))):=by
 refine bf kr Tryz.func124 U U fun AA Q hQ hN=>?_
 try dsimp only
 refine WS fun _ AB=>ej U fun R=>AL U cv fun T=>RK AB<|al fun _ J=>WS fun _ K=>rP 3 [] mn ?_
 refine RK K<|ar ?_
 have A:(0≤l.length):=by exact Nat.zero_le _
 refine br (ι:={z:Nat // (z≤l.length)}) [2,4,7,8] [0,2] U U (fun z=>[(9,(vI (z.1:Int)))]) (fun z=>[(bm R 28 (I.cells (g7 a (l.take z.1))))]) (fun _=>rfl) (fun _=>rfl) (fun z=>l.length-z.1) ⟨0,A⟩ (bg U) (aN [0,2,1]) ?_
 clear A
 rintro ⟨i,N⟩ J6 H
 try dsimp only
 refine WS fun _ L=>rP 1 [] mn ?_
 refine RK L<|al fun _ M=>bH U (aL fun S=>?_) (aM fun S=>?_)
 ·refine bo<|ai<|ai<|aw<|KK J<|al fun _ D=>?_
  have G:(I.cells (g7 a (l.take i)))=(I.cells (g7 a l)):=by rw [zS om]
  rw [G]
  refine ao<|rP 1 [] (mc 2 U mn) ?_
  refine eC U cn U<|RK D<|an ?_
  exact D7 hQ [0] (mc 0 U mn) U U
 refine WK M<|al fun _ B=>ar<|WS fun _ C=>?_
 obtain ⟨x,hx⟩:=bh l i om
 have O:=bp I.cells hx
 refine rS (IA i U (ay 1 U) hU dc om om)<|rS (jq i 0 (I.cells x) U bQ (ay 1 U) O U dc U U)<|AL U cv fun P=>eC U cn U<|RK C<|ao ?_
 have hb:=DY ha hl i
 have hz:=hl x (aG hx)
 unfold iJ at hz
 refine rP 10 [0,1,0,1] (mc 3 U (mc 0 U mn)) ?_
 refine rS (SX (aS (xs:=[(0,.tmp 17),(1,.tmp 22)]) (cs:=(I.cells (I.mk (((g7 a (l.take i)).Lo)+x.Lo) (((g7 a (l.take i)).Hi)+x.Hi)))) U U (aT fm U)) U U)<|BG U cn U<|aB<|aI<|KK B ?_
 have E:(I.cells (I.mk (((g7 a (l.take i)).Lo)+x.Lo) (((g7 a (l.take i)).Hi)+x.Hi)))=(I.cells (g7 a (l.take (i+1)))):=by rw [rz hx]; rfl
 rw [E]
 refine ao<|rP 2 [] mn ?_
 refine aB ?_
 have F:(vI ((i+1):Int))=(vI ((i:Int)+1)):=by exact cI om
 refine aY (H ⟨(i+1),(by first|omega|(simp only []; omega))⟩ _ _ _ U os (b_ 4<|aR U F<|cL.nil _) (aN [1,2,3]))
theorem pq (ts:List ab) (tsA:OA) (tsC:Nat) (hlen:ts.length≤1000000) (hside: ∀ x∈ts,0≤x.ct∧x.ct≤255):
 cz Tryz.prog 55 [(vA (ag.cells (ag.mk (aJ.mk tsA ts.length tsC))))] [(rd tsA ts.length 9 (ts.map ab.cells))] (vT [(vA (cO.cells (cO.mk (ag.mk (aJ.mk tsA ts.length tsC))))),(vI (if a9 ts=true then 0 else 10))]):=by
 refine bf kr Tryz.func55 U U fun E Q hQ hN=>?_
 try dsimp only
 refine WS fun _ A=>ej U fun C=>AL U uN fun D=>aU 1 U<|RK A<|al fun _ B=>dF cx 4 kr<|jA 1 [] (mc 1 U mn) U<|dS (SX (aS (xs:=[(0,.tmp 4)]) (cs:=(cO.cells (cO.mk (ag.mk (aJ.mk tsA ts.length tsC))))) U U (aT Im U)) U U)<|jA 1 [] (mc 1 U mn) U<|dS (CL (kN ts tsA tsC hlen hside) (aX [2]) U)<|cj<|eC U vj U<|rP 1 [] mn ?_
 refine RK B<|an ?_
 exact l6 hQ [0] (mc 0 U mn) U U
theorem B2 (f:Int) (tsA:OA) (tsN tsC:Nat):
 lx Tryz.prog 108 [(vA (cO.cells (cO.mk (ag.mk (aJ.mk tsA tsN tsC))))),(vI f)] [] (fun (x:Nat×Nat)=>(Value.func (.func 145) [].toArray [(Value.pointer (some ⟨x.1,0,none⟩)),(Value.pointer (some ⟨x.2,0,none⟩))].toArray)) (fun (x:Nat×Nat)=>True) (fun (x:Nat×Nat)=>[(bm x.1 3 [(vI f)]),(bm x.2 88 (cO.cells (cO.mk (ag.mk (aJ.mk tsA tsN tsC)))))]):=by
 refine dT kr Tryz.func108 U U fun E Q hQ hN=>?_
 try dsimp only
 refine WS fun _ A=>ej U fun C=>o4 U U fun D=>aU 1 U<|RK A<|WS fun _ B=>rS (FU U)<|rP 1 [] mn ?_
 refine RK B<|an<|LX hQ (D,C) [0,1] [] mn U U U U ?_
 trivial
theorem xZ (ts:List ab) (tsA:OA) (tsC:Nat) (f:Int) (g1 g2:Nat) (hst: ∀ x∈ts,a_ x) (hlen:ts.length≤12) (hf:0≤f∧f≤ts.length):
 x6 Tryz.prog 145 [] [(vP g1),(vP g2)] [(rd tsA ts.length 9 (ts.map ab.cells)),(bm g1 3 [(vI f)]),(bm g2 88 (cO.cells (cO.mk (ag.mk (aJ.mk tsA ts.length tsC)))))] (nS ts f.toNat):=by
 refine pg kr Tryz.func145 U U fun l J Z A0 p Q hY g d hQ hN=>?_
 try dsimp only
 refine WS fun _ h=>AL U cv fun n=>AL U cv fun o=>RK h<|WS fun _ i=>rP 2 [] (mr 4 U mn) ?_
 refine RK i<|ar ?_
 have P:(0≤ts.length-f.toNat)∧(J 0 A0)∧(Fo A0 p A0):=by exact ⟨Nat.zero_le _,g,d⟩
 have m:(vI (f+(0:Int)))=(vI f):=by exact cI om
 refine br (ι:={z:Nat×au // (z.1≤ts.length-f.toNat)∧(J z.1 z.2)∧(Fo A0 p z.2)}) [0,1,2,4,5] [3,4,5] U U (fun z=>[(6,(vI (f+(z.1.1:Int))))]) (fun z=>[(bm o 28 (I.cells (ea ts f.toNat z.1.1))),(bm n 28 (I.cells (bW ts f.toNat z.1.1))),z.1.2]) (fun _=>rfl) (fun _=>rfl) (fun z=>ts.length-f.toNat-z.1.1) ⟨(0,A0),P⟩ (aR U m<|cL.nil _) (aN [3,4,5,0,1,2]) ?_
 clear P
 rintro ⟨⟨k,A⟩,⟨W,R,S⟩⟩ J6 V
 try dsimp only at W R S
 try dsimp only
 refine al fun _ j=>WS fun _ X=>rP 3 [0,1] (mc 4 U (mc 3 U mn)) ?_
 refine mD 5 hY R S U U U (rr om) U U (fun B9 C B=>?_) (fun B9 C B=>?_)
 rotate_left 1
 ·refine rP 8 [] mn ?_
  refine RK X<|bw U<|bo<|ai<|ai<|aw ?_
  refine hN _ _ _ (fH (vs:=[]) trivial fun w hs=>rh 5 U C B hs)
 refine rP 8 [] (mr 2 U mn) ?_
 refine RK X<|bH U (aL fun c=>?_) (aM fun c=>?_)
 ·refine bo<|ai<|ai<|aw ?_
  refine hN _ _ _ (fH (vs:=[]) trivial fun w hs=>BL 5 U (by rw [nQ]; have e:ts.length-f.toNat+1=k+1:=om; rw [e]; exact C) B hs)
 refine WK j<|al fun _ M=>ar<|mH cx [0,1,2,3,4,5,6,7,10,11,12,13,14,15,16,17] [8,9,18,19,20,21] [true,false,false,false,false,false,false,false,true,false,false,false,false,false,false,false] [8,9,18] [(rd tsA ts.length 9 (ts.map ab.cells)).ro,(bm g1 3 [(vI f)]).ro,(bm g2 88 (cO.cells (cO.mk (ag.mk (aJ.mk tsA ts.length tsC))))).ro,B9] [(rd tsA ts.length 9 (ts.map ab.cells)).ro,(bm g1 3 [(vI f)]).ro,(bm g2 88 (cO.cells (cO.mk (ag.mk (aJ.mk tsA ts.length tsC))))).ro,(bm o 28 (I.cells (ea ts f.toNat k))),(bm n 28 (I.cells (bW ts f.toNat k))),B9] kr (aN [0,1,2,5]) (aN [0,1,2,3,4,5])<|fS U (LW 4 U bQ U U)<|eS U (FA 0 U fh U)<|eS U (FA 0 U fh U)<|eS U (Dp (vS tsA ts.length tsC) 2 U bQ U U)<|eS U (MV U) ?_
 obtain ⟨x,hx⟩:=bh ts (f.toNat+k) om
 have a:=bp ab.cells hx
 refine eS U (IA (f.toNat+k) U (ay 0 U) l5 dc om om) ?_
 have L:=hst x (aG hx)
 refine eS U (lp (((f.toNat+k)*9)+1) U (ay 0 U) (Nat.mul_pos om dc) fh U)<|eS U (jq (f.toNat+k) 1 (I.cells x.di) U bQ (ay 0 U) a U dc U U)<|fS U (LW 3 U bQ U U)<|eS U (FA 0 U fh U)<|eS U (FA 0 U fh U)<|eS U (Dp (vS tsA ts.length tsC) 2 U bQ U U)<|eS U (MV U)<|eS U (IA (f.toNat+k) U (ay 0 U) l5 dc om om)<|eS U (lp (((f.toNat+k)*9)+3) U (ay 0 U) (Nat.mul_pos om dc) fh U)<|eS U (jq (f.toNat+k) 3 (I.cells x.dA) U bQ (ay 0 U) a U dc U U)<|eJ U<|dz [8,18] kr (bD ?_<|bD ?_<|en)
 rotate_left 1
 ·refine oU (rem':=[8,9,19,20,21]) U kr fun T14 N=>bX (xs:=[.tmp 39]) (cs:=(I.cells x.dA)) U hU cv U U U U (by simp [Value.cells,I.aq]) U U fun T=>aB (N _ _ (aN [1,2,3,6]) (aN [1,2,3,4,5,6]) ?_)
  refine N1 8<|oU (rem':=[9,19,20,21]) U kr fun T16 D=>bX (xs:=[.tmp 29]) (cs:=(I.cells x.di)) U hU cv U U U U (by simp [Value.cells,I.aq]) U U fun AA=>aB (D _ _ (aN [2,3,4,7]) (aN [2,3,4,5,6,7]) ?_)
  refine N1 9<|oU (rem':=[19,20,21]) U kr fun T18 O=>?_
  refine rS (CL (cz.eq (lg (bW ts f.toNat k) ([x.di]) (some ⟨AA,0,none⟩) 1 (by exact lU hst om) (by intro z hz; simp only [cN] at hz; subst hz; exact oz L) sm) jC) (aK (aH 0 rfl rfl (by simp [I.aq]) rfl)<|av) rfl) ?_
  refine aB (O _ _ (aN [2,3,4,7]) (aN [2,3,4,5,6,7]) ?_)
  refine N1 19<|NO U U [20,21] fun T19 E=>?_
  refine rS (CL (cz.eq (lg (ea ts f.toNat k) ([x.dA]) (some ⟨T,0,none⟩) 1 (by exact pM hst om) (by intro z hz; simp only [cN] at hz; subst hz; exact ot L) sm) jC) (aK (aH 1 rfl rfl (by simp [I.aq]) rfl)<|av) rfl) ?_
  refine aB (E _ _ (aN [2,3,4,7]) ?_)
  refine N1 20<|NO U U [21] fun T20 F=>HS U cn U<|aB (F _ _ (aN [2,3,4,7]) ?_)
  refine N1 21<|NO U U [] fun T21 G=>Db U cn U<|aB (G _ _ (aN [2,3,4,7]) ?_)
  refine mQ<|aI<|KK M ?_
  have H:(I.cells (fG (bW ts f.toNat k) x.di))=(I.cells (bW ts f.toNat (k+1))):=by rw [jK hx]
  rw [H]
  have AB:(I.cells (fG (ea ts f.toNat k) x.dA))=(I.cells (ea ts f.toNat (k+1))):=by rw [kY hx]
  rw [AB]
  refine ao<|rP 3 [] mn ?_
  refine aB ?_
  have K:(vI (f+(((k+1):Nat):Int)))=(vI ((f+(k:Int))+1)):=by exact cI om
  refine aY (V ⟨((k+1),B9),⟨om,C,B⟩⟩ _ _ _ U os (b_ 5<|aR U K<|cL.nil _) (aN [2,3,4,5,6,7]))
 refine oU (rem':=[9,18,19,20,21]) U kr fun T14 N=>bX (xs:=[.tmp 29]) (cs:=(I.cells x.di)) U hU cv U U U U (by simp [Value.cells,I.aq]) U U fun T=>aB (N _ _ (aN [1,2,3,6]) (aN [1,2,3,4,5,6]) ?_)
 refine dz [9,18] kr (bD ?_<|bD ?_<|en)
 rotate_left 1
 ·refine oU (rem':=[9,19,20,21]) U kr fun T16 D=>bX (xs:=[.tmp 39]) (cs:=(I.cells x.dA)) U hU cv U U U U (by simp [Value.cells,I.aq]) U U fun AA=>aB (D _ _ (aN [2,3,4,7]) (aN [2,3,4,5,6,7]) ?_)
  refine N1 9<|oU (rem':=[19,20,21]) U kr fun T18 O=>?_
  refine rS (CL (cz.eq (lg (bW ts f.toNat k) ([x.di]) (some ⟨T,0,none⟩) 1 (by exact lU hst om) (by intro z hz; simp only [cN] at hz; subst hz; exact oz L) sm) jC) (aK (aH 1 rfl rfl (by simp [I.aq]) rfl)<|av) rfl) ?_
  refine aB (O _ _ (aN [2,3,4,7]) (aN [2,3,4,5,6,7]) ?_)
  refine N1 19<|NO U U [20,21] fun T19 E=>?_
  refine rS (CL (cz.eq (lg (ea ts f.toNat k) ([x.dA]) (some ⟨AA,0,none⟩) 1 (by exact pM hst om) (by intro z hz; simp only [cN] at hz; subst hz; exact ot L) sm) jC) (aK (aH 0 rfl rfl (by simp [I.aq]) rfl)<|av) rfl) ?_
  refine aB (E _ _ (aN [2,3,4,7]) ?_)
  refine N1 20<|NO U U [21] fun T20 F=>HS U cn U<|aB (F _ _ (aN [2,3,4,7]) ?_)
  refine N1 21<|NO U U [] fun T21 G=>Db U cn U<|aB (G _ _ (aN [2,3,4,7]) ?_)
  refine mQ<|aI<|KK M ?_
  have H:(I.cells (fG (bW ts f.toNat k) x.di))=(I.cells (bW ts f.toNat (k+1))):=by rw [jK hx]
  rw [H]
  have AB:(I.cells (fG (ea ts f.toNat k) x.dA))=(I.cells (ea ts f.toNat (k+1))):=by rw [kY hx]
  rw [AB]
  refine ao<|rP 3 [] mn ?_
  refine aB ?_
  have K:(vI (f+(((k+1):Nat):Int)))=(vI ((f+(k:Int))+1)):=by exact cI om
  refine aY (V ⟨((k+1),B9),⟨om,C,B⟩⟩ _ _ _ U os (b_ 5<|aR U K<|cL.nil _) (aN [2,3,4,5,6,7]))
 refine oU (rem':=[18,19,20,21]) U kr fun T16 D=>?_
 refine rS (CL (cz.eq (lg (bW ts f.toNat k) ([x.di]) (some ⟨T,0,none⟩) 1 (by exact lU hst om) (by intro z hz; simp only [cN] at hz; subst hz; exact oz L) sm) jC) (aK (aH 0 rfl rfl (by simp [I.aq]) rfl)<|av) rfl) ?_
 refine aB (D _ _ (aN [1,2,3,6]) (aN [1,2,3,4,5,6]) ?_)
 refine N1 18<|oU (rem':=[19,20,21]) U kr fun T17 Y=>bX (xs:=[.tmp 39]) (cs:=(I.cells x.dA)) U hU cv U U U U (by simp [Value.cells,I.aq]) U U fun b=>aB (Y _ _ (aN [2,3,4,7]) (aN [2,3,4,5,6,7]) ?_)
 refine N1 19<|NO U U [20,21] fun T19 E=>?_
 refine rS (CL (cz.eq (lg (ea ts f.toNat k) ([x.dA]) (some ⟨b,0,none⟩) 1 (by exact pM hst om) (by intro z hz; simp only [cN] at hz; subst hz; exact ot L) sm) jC) (aK (aH 0 rfl rfl (by simp [I.aq]) rfl)<|av) rfl) ?_
 refine aB (E _ _ (aN [2,3,4,7]) ?_)
 refine N1 20<|NO U U [21] fun T20 F=>HS U cn U<|aB (F _ _ (aN [2,3,4,7]) ?_)
 refine N1 21<|NO U U [] fun T21 G=>Db U cn U<|aB (G _ _ (aN [2,3,4,7]) ?_)
 refine mQ<|aI<|KK M ?_
 have H:(I.cells (fG (bW ts f.toNat k) x.di))=(I.cells (bW ts f.toNat (k+1))):=by rw [jK hx]
 rw [H]
 have AB:(I.cells (fG (ea ts f.toNat k) x.dA))=(I.cells (ea ts f.toNat (k+1))):=by rw [kY hx]
 rw [AB]
 refine ao<|rP 3 [] mn ?_
 refine aB ?_
 have K:(vI (f+(((k+1):Nat):Int)))=(vI ((f+(k:Int))+1)):=by exact cI om
 refine aY (V ⟨((k+1),B9),⟨om,C,B⟩⟩ _ _ _ U os (b_ 5<|aR U K<|cL.nil _) (aN [2,3,4,5,6,7]))
theorem uY (ts:List ab) (tsA:OA) (tsC:Nat) (f t:Int) (hst: ∀ x∈ts,a_ x) (hlen:ts.length≤12) (hf:0≤f∧f≤t∧t≤ts.length):
 cz Tryz.prog 73 [(vA (cO.cells (cO.mk (ag.mk (aJ.mk tsA ts.length tsC))))),(vI f),(vI t)] [(rd tsA ts.length 9 (ts.map ab.cells))] (vT [(vA (I.cells (bW ts f.toNat (t-f).toNat))),(vA (I.cells (ea ts f.toNat (t-f).toNat)))]):=by
 refine bf kr Tryz.func73 U U fun w0 Q hQ hN=>?_
 try dsimp only
 refine WS fun _ M=>ej U fun a=>o4 U U fun b=>o4 U U fun d=>AL U cv fun e=>AL U cv fun g=>RK M<|al fun _ AA=>WS fun _ V=>rP 2 [0,1] (mc 4 U (mc 3 U mn)) ?_
 refine cX (B2 f tsA ts.length tsC) (av) U fun u n=>?_
 obtain ⟨B,C⟩:=u
 try dsimp only
 refine RK V<|ar<|jS 7 U (by exact fun _ h=>h) ?_
 refine nY (L0:=[(3,(vP a)),(4,(vP b)),(5,(vP d)),(6,(vP e)),(7,(vP g))]) (F:=[(rd tsA ts.length 9 (ts.map ab.cells)).ro,(bm B 3 [(vI f)]),(bm C 88 (cO.cells (cO.mk (ag.mk (aJ.mk tsA ts.length tsC)))))]) (xs:=(nS ts f.toNat)) (fun k (y:I×I×Int)=>(k≤(t-f).toNat)∧(y.2.2=f+(k:Int))) (fun k y=>[(bm g 28 (I.cells y.2.1)),(bm e 28 (I.cells y.1)),(bm d 3 [(vI t)]),(bm b 3 [(vI y.2.2)]),(bm a 88 (cO.cells (cO.mk (ag.mk (aJ.mk tsA ts.length tsC))))),(rd tsA ts.length 9 (ts.map ab.cells)).ro]) (fun c (z:Unit)=>(c= .exit 0)) (fun _ z=>[(bm g 28 (I.cells (ea ts f.toNat (t-f).toNat))),(bm e 28 (I.cells (bW ts f.toNat (t-f).toNat))),(bm d 3 [(vI t)]),(bm b 3 [(vI t)]),(bm a 88 (cO.cells (cO.mk (ag.mk (aJ.mk tsA ts.length tsC))))),(rd tsA ts.length 9 (ts.map ab.cells)).ro]) [3,4,5,6,7,8] [0,1,2] (gl,gl,f) U U (xZ ts tsA tsC f B C (by first|assumption|omega|(simp; done)) (by first|assumption|omega|(simp; done)) om) U U U (by exact ⟨Nat.zero_le _,sm⟩) (by simp only [List.forall_mem_cons,List.not_mem_nil,false_imp_iff,implies_true,and_true]; exact ⟨⟨_,sm,(fg (cm _))⟩,⟨_,sm,(cm _)⟩,⟨_,sm,(cm _)⟩⟩) (by exact vd) U (bg U) ?_ ?_ ?_ ?_
 rotate_left 1
 ·rintro q ⟨v,z2,m⟩ J
  obtain ⟨A,K⟩:=J
  try dsimp only at A K
  try dsimp only
  exfalso; rw [nQ] at A; omega
 ·rintro r id _ Y
  have hc:=Y
  cases hc
  try dsimp only
  refine aw<|KK AA<|al fun _ D=>dK cx [2,3] [] [] [0,1,2,3,4,5,6,7,8,9] [] U U U U U<|eS U (LW 5 U bQ U U)<|eS U (LW 4 U bQ U U)<|eJ U<|bU U fun T30 E=>Db U cn U<|aB (E _ _ (aN [0,1,2,3,4,5,6,7,8,9]) ?_)
  refine bU U fun T31 G=>Jn U cn U<|aB (G _ _ (aN [0,1,2,3,4,5,6,7,8,9]) ?_)
  refine fx U<|KK D<|an<|hQ _ _ _ (oA 0 U U<|fH (vs:=[(vA (I.cells (bW ts f.toNat (t-f).toNat))),(vA (I.cells (ea ts f.toNat (t-f).toNat)))]) ⟨⟨_,U,.inl ⟨_,_,bQ,mg (vs:=(I.cells (bW ts f.toNat (t-f).toNat))) 5 U U,U,U⟩⟩,⟨_,U,.inl ⟨_,_,bQ,mg (vs:=(I.cells (ea ts f.toNat (t-f).toNat))) 4 U U,U,U⟩⟩,trivial⟩ fun w hs=>xM ?_ hs)
  show (vT [(vA (I.cells (bW ts f.toNat (t-f).toNat))),(vA (I.cells (ea ts f.toNat (t-f).toNat)))])=(vT [(vA (I.cells (bW ts f.toNat (t-f).toNat))),(vA (I.cells (ea ts f.toNat (t-f).toNat)))])
  clear hs w hQ hN G T31 E T30 D V AA M
  rfl
 ·rintro s _ Z
  cases Z
 rintro k x ⟨v,z2,m⟩ l ra rb S w1 K13 Qr14 hx AB N H L j
 obtain ⟨hk,rfl⟩:=x5 hx
 obtain ⟨A,K⟩:=AB
 try dsimp only at A K
 try dsimp only
 refine WS fun _ O=>AL U cv fun o=>eC U cn U<|RK O<|ao<|AL U cv fun p=>eC U cn U<|aB<|j9 (fun _ _ h=>h) (aN [2,0,1,3,4,5,6,7,8])<|aY (N _ _ ?_)
 refine ar<|al fun _ P=>al fun _ R=>dK cx [2,3] [] [] [0,1,2,5,6,7,8] [] U U U U U<|eS U (LW 2 U bQ U U)<|eS U (LW 1 U bQ U U)<|eJ U<|bU U fun T21 W=>Jn U cn U<|aB (W _ _ (aN [0,1,2,5,6,7,8]) ?_)
 refine bU U fun T22 X=>BG U cn U<|aB (X _ _ (aN [0,1,2,5,6,7,8]) ?_)
 refine fx U<|KK R<|WS fun _ T=>rP 3 [0,1] (mc 6 U (mc 5 U mn)) ?_
 refine RK T<|cd U (aM fun i=>?_) (aL fun i=>?_)
 ·refine bo<|ai<|fq U ?_
  rw [show m=t from by omega]
  obtain rfl:k=(t-f).toNat:=by omega
  exact L _ () _ _ (by exact U) (aN [0,3,4,5,6,7,8])
 refine WK P<|ao<|rP 2 [] (mc 6 U mn) ?_
 refine JU U vw U U<|aB<|aI ?_
 exact H ((bW ts f.toNat k),(ea ts f.toNat k),(m+1)) _ _ (by refine ⟨om,?_⟩; dsimp only; omega) (aN [0,3,4,5,6,7,8])
theorem Aj (ts:List ab) (tsA:OA) (tsC:Nat) (f t:Int) (hlen:ts.length≤1000000) (hside: ∀ x∈ts,0≤x.ct∧x.ct≤255):
 cz Tryz.prog 37 [(vA (ag.cells (ag.mk (aJ.mk tsA ts.length tsC)))),(vI f),(vI t)] [(rd tsA ts.length 9 (ts.map ab.cells))] (vT [(vA (I.cells (j2 ts f t))),(vA (I.cells (rj ts f t))),(vI (lB ts f t))]):=by
 refine bf kr Tryz.func37 U U fun Y Q hQ hN=>?_
 try dsimp only
 refine WS fun _ M=>ej U fun AA=>AL U cv fun V=>AL U cv fun W=>aU 1 U<|RK M<|WS fun _ N=>dE 1 [] (mc 2 U mn) U<|rS (CL (pq ts tsA tsC hlen hside) (aX [3]) U)<|aU 3 U<|AL U uN fun X=>eC U vj U<|aU 1 U<|RK N<|al fun _ O=>WS fun _ P=>rP 2 [] mn ?_
 refine RK P<|cd U (aP fun he=>?_) (aO fun he=>?_)
 ·refine WS fun _ R=>rS (SX (aS (xs:=[]) (cs:=(I.cells (I.mk 0 0))) U U (aT fm U)) U U)<|rS (SX (aS (xs:=[]) (cs:=(I.cells (I.mk 0 0))) U U (aT fm U)) U U)<|aU 1 U<|sT U cn U<|oa U cn U<|rP 1 [] mn ?_
  refine RK R<|an<|l6 hQ [0,1] (mc 2 U (mc 1 U mn)) U ?_
  first|(have e:=mu (f:=f) (t:=t) (er he).1; rw [e.1,e.2.1,e.2.2,(er he).2]; rfl)|(have e:=mB (f:=f) (t:=t) A om; rw [e.1,e.2.1,e.2.2]; rfl)|(have e:=kE (f:=f) (t:=t) A om; rw [e.1,e.2.1,e.2.2])
 refine WK O<|al fun _ C=>WS fun _ B=>?_
 have A:=qL he
 have T:=bT A
 have S:=cw A
 refine rP 5 [] (mc 3 U mn) ?_
 refine bX (xs:=[.tmp 23,.tmp 24]) (cs:=[(vI f),(vI t)]) U cK g6 U U U U (by simp [Value.cells]) U U fun J=>?_
 refine rS (CL (cz.eq (iD 0 (ts.length:Int) ([f,t]) (some ⟨J,0,none⟩) 2 sd) kq) (aK (aH 0 U U (by simp [bq]) U)<|av) U) ?_
 refine rP 2 [] mn ?_
 refine bx (t:=28) U (aP fun K=>?_) (aO fun K=>?_)
 ·refine aU 4 U<|RK B<|aC U<|WS fun _ D=>rS (SX (aS (xs:=[]) (cs:=(I.cells (I.mk 0 0))) U U (aT fm U)) U U)<|rS (SX (aS (xs:=[]) (cs:=(I.cells (I.mk 0 0))) U U (aT fm U)) U U)<|BG U cn U<|sT U cn U<|rP 1 [] mn ?_
  refine RK D<|an<|l6 hQ [0,1] (mc 3 U (mc 2 U mn)) U ?_
  first|(have e:=mu (f:=f) (t:=t) (er he).1; rw [e.1,e.2.1,e.2.2,(er he).2]; rfl)|(have e:=mB (f:=f) (t:=t) A om; rw [e.1,e.2.1,e.2.2]; rfl)|(have e:=kE (f:=f) (t:=t) A om; rw [e.1,e.2.1,e.2.2])
 refine rP 4 [] mn ?_
 refine RK B<|cd U (aM fun L=>?_) (aL fun L=>?_)
 ·refine WS fun _ E=>rS (SX (aS (xs:=[]) (cs:=(I.cells (I.mk 0 0))) U U (aT fm U)) U U)<|rS (SX (aS (xs:=[]) (cs:=(I.cells (I.mk 0 0))) U U (aT fm U)) U U)<|BG U cn U<|sT U cn U<|rP 1 [] mn ?_
  refine RK E<|an<|l6 hQ [0,1] (mc 3 U (mc 2 U mn)) U ?_
  first|(have e:=mu (f:=f) (t:=t) (er he).1; rw [e.1,e.2.1,e.2.2,(er he).2]; rfl)|(have e:=mB (f:=f) (t:=t) A om; rw [e.1,e.2.1,e.2.2]; rfl)|(have e:=kE (f:=f) (t:=t) A om; rw [e.1,e.2.1,e.2.2])
 refine WK C<|WS fun _ F=>rP 3 [] (mc 1 U mn) ?_
 refine rS (CL (uY ts tsA tsC f t sd sd sd) (aX [5]) U) ?_
 refine rP 3 [] mn ?_
 refine BG U cn U<|sT U cn U<|RK F<|al fun _ G=>dK cx [2,3] [] [] [0,1,2,3,4,5] [] U U U U U<|eS U (LW 3 U bQ U U)<|eS U (LW 2 U bQ U U)<|eS U (AG U)<|eJ U<|bU U fun T17 H=>BG U cn U<|aB (H _ _ (aN [0,1,2,3,4,5]) ?_)
 refine bU U fun T18 AB=>sT U cn U<|aB (AB _ _ (aN [0,1,2,3,4,5]) ?_)
 refine fx U<|KK G<|an<|l6 hQ [0,1] (mc 3 U (mc 2 U mn)) U ?_
 first|(have e:=mu (f:=f) (t:=t) (er he).1; rw [e.1,e.2.1,e.2.2,(er he).2]; rfl)|(have e:=mB (f:=f) (t:=t) A om; rw [e.1,e.2.1,e.2.2]; rfl)|(have e:=kE (f:=f) (t:=t) A om; rw [e.1,e.2.1,e.2.2])
end
section
open Go.RowKit
theorem xh (i:Int) (s:ae) (ts:List ab) (tsA:OA) (tsC g1:Nat) (hst: ∀ x∈ts,a_ x) (hlen:ts.length≤12):
 cz Tryz.prog 152 [(vI i),(vA (ae.cells s)),(vP g1)] [(rd tsA ts.length 9 (ts.map ab.cells)),(bm g1 88 (cO.cells (cO.mk (ag.mk (aJ.mk tsA ts.length tsC)))))] (vB (!(decide (cD ts s)))):=by
 refine bf kr Tryz.func152 U U fun AA Q hQ hN=>?_
 try dsimp only
 refine WS fun _ C=>ej U fun G=>rP 1 [] mn ?_
 refine RK C<|al fun _ A=>mH cx [0,1,2,3,4,5,6] [7,8,9,10,11,12,13,14,15,16,17,18,19,20,21,22,23,24,25,26] [false,false,false,false,false,false,false] [] [(bm G 37 (ae.cells s)),(rd tsA ts.length 9 (ts.map ab.cells)).ro,(bm g1 88 (cO.cells (cO.mk (ag.mk (aJ.mk tsA ts.length tsC))))).ro] [] kr (aN [0,1,2]) (aN [])<|eS U (FA 0 U fh U)<|eS U (FA 0 U fh U)<|eS U (Dp (vS tsA ts.length tsC) 2 U bQ U U)<|eS U (LN U EM)<|eS U (BI U (pK ⟨om,om⟩))<|eS U (FA 0 U fh U)<|eS U (L1 (vI s.ax) 0 U bQ U U)<|eJ U<|N1 7<|NO U U [8,9,10,11,12,13,14,15,16,17,18,19,20,21,22,23,24,25,26] fun T4 D=>bX (xs:=[.tmp 12]) (cs:=[(vI s.ax)]) U cK g6 U U U U (by simp [Value.cells]) U U fun H=>RD D 1 U<|Ac [14,15,16,17,18,19,20,21,22,23,24,25,26,27,28,29,30,31,5] kr kr U _ U U (aN [1,2,3]) ?_
 refine dS (CL (cz.eq (iD 0 ((ts.length:Int)-1) ([s.ax]) (some ⟨H,0,none⟩) 1 (by (simp; done))) bR) (aK (aH 0 U U (by simp [bq]) U)<|av) U) ?_
 refine dP 2 [] mn ?_
 refine dY (t:=16) U (aP fun B=>?_) (aO fun B=>?_)
 ·refine fQ 9 U<|dP 7 [] mn ?_
  refine cj<|RK A<|an<|Q1 hQ U U U ?_
  (refine cB ?_; rw [aD (ti om)]; rfl)
 refine fQ 1 U<|dS (LP (I.cells s.hG) 1 U bQ U U U)<|dP 5 [0,1] (mr 3 U (mc 1 U mn)) ?_
 obtain ⟨x,hx⟩:=bh ts ((s.ax).toNat) om
 have E:=bp ab.cells hx
 refine dS (IA ((s.ax).toNat) U (ay 2 U) l5 dc om om)<|dS (lp ((((s.ax).toNat)*9)+1) U (ay 2 U) (Nat.mul_pos om dc) fh U) ?_
 have F:=(hst x (aG hx)).2.1
 simp only [aF] at F
 refine dS (lp ((((s.ax).toNat)*9)+1) U (ay 2 U) (Nat.mul_pos om dc) fh U)<|dS (fT ((s.ax).toNat) 1 (vI x.di.Lo) U bQ (ay 2 U) E U dc U)<|fQ 1 U<|dS (CL (nV s.hG 0 (x.di.Lo-1)) (av) U)<|dP 3 [] mn ?_
 refine cj<|RK A<|an<|Q1 hQ U U U ?_
 exact congrArg (fun b=>vB (!b)) (eH.2 (tR om hx).symm)
theorem vp (l:List ae) (lA:OA) (lC:Nat) (f:Value) (p:Int→ae→Bool) (X:au) (hf: ∀ x0 x1,(∃ k:Nat,x0=(k:Int)∧l[k]? =some x1)→sR Tryz.prog f [.int .i64 x0,.agg (ae.cells x1).toArray] [X] (.bool (p x0 x1))) (hlen:l.length≤1000000):
 lx Tryz.prog 151 [(vS lA l.length lC),f] [(rd lA l.length 3 (l.map ae.cells)),X] (fun (x:(OA)×Nat)=>(vS x.1 ((Az (fun jj yy=>p (jj:Int) yy) l).length) x.2)) (fun (x:(OA)×Nat)=>True) (fun (x:(OA)×Nat)=>[(own x.1 x.2 3 1 ((Az (fun jj yy=>p (jj:Int) yy) l).map iC))]):=by
 refine dT kr Tryz.func151 U U fun W Q hQ hN=>?_
 try dsimp only
 refine WS fun _ L=>aU 1 U<|RK L<|WS fun _ M=>aU 1 U<|RK M<|al fun _ N=>WS fun _ O=>rP 3 [] mn ?_
 refine RK O<|ar<|f_ 3 1 ?_
 have A:(0≤l.length):=by exact Nat.zero_le _
 refine br (ι:={z:Nat×(OA)×Nat // (z.1≤l.length)}) [0,1,8,9] [1,2] U U (fun z=>[(5,(vS z.1.2.1 ((nm (fun jj yy=>p (jj:Int) yy) l z.1.1).length) z.1.2.2)),(10,(vI (z.1.1:Int)))]) (fun z=>[(own z.1.2.1 z.1.2.2 3 1 ((nm (fun jj yy=>p (jj:Int) yy) l z.1.1).map iC))]) (fun _=>rfl) (fun _=>rfl) (fun z=>l.length-z.1.1) ⟨(0,none,0),A⟩ (bg U) (aN [1,2,0]) ?_
 clear A
 rintro ⟨⟨i,a,c⟩,B⟩ J5 C
 try dsimp only at B
 try dsimp only
 refine WS fun _ P=>rP 1 [] mn ?_
 refine RK P<|al fun _ R=>bH U (aL fun V=>?_) (aM fun V=>?_)
 ·refine bo<|ai<|ai<|aw<|KK N<|WS fun _ F=>?_
  rw [Ca (p:=fun (i:Nat) x=>p (i:Int) x) (show i=l.length by omega)]
  refine rP 2 [] mn ?_
  refine RK F<|an<|LX hQ (a,c) [2] [] mn U U U U ?_
  trivial
 refine WK R<|al fun _ G=>ar<|WS fun _ D=>rP 1 [] mn ?_
 obtain ⟨x,hx⟩:=bh l i om
 have S:=bp ae.cells hx
 refine rS (IA i U (ay 0 U) p7 dc om om)<|rS (jq i 0 (ae.cells x) U bQ (ay 0 U) S U dc U U)<|AL U yw fun T=>aU 1 U<|eC U F_ U<|RK D<|WS fun _ E=>rP 3 [] (mc 0 U mn) ?_
 refine rS (SX (kb U U U (hf (i:Int) x ⟨i,U,hx⟩) (aX [2])) U U)<|RK E<|bH U (fun hp=>?_) (fun hp=>?_)
 ·refine bS<|aI<|KK G<|ao ?_
  rw [← B_ (p:=fun (i:Nat) x=>p (i:Int) x) hx hp]
  refine rP 2 [] mn ?_
  refine aB ?_
  have AB:(vI (((i+1):Nat):Int))=(vI ((i:Int)+1)):=by exact cI om
  refine aY (C ⟨((i+1),a,c),(by first|omega|(simp only []; omega))⟩ _ _ _ U os (b_ 5<|aR U AB<|cL.nil _) (aN [1,2,3]))
 refine ao<|rP 2 [] mn ?_
 refine bX (xs:=[.tmp 20]) (cs:=[(vI (i:Int))]) U cK g6 U U U U (by simp [Value.cells]) U U fun AA=>?_
 refine eN (es2:=(List.map iC (nm (fun jj yy=>p (jj:Int) yy) l (i+1)))) (m':=(nm (fun jj yy=>p (jj:Int) yy) l (i+1)).length) 4 U U U od U U sm (aH (es:=List.map iC [(i:Int)]) 0 U U (by simp [bq]) U) (lk _) (by have:=uw (p:=fun (i:Nat) x=>p (i:Int) x) (l:=l) (n:=i); simp; omega) (by have:=uw (p:=fun (i:Nat) x=>p (i:Int) x) (l:=l) (n:=i); simp only [maxLen]; omega) (by rw [yU hx hp]; simp) sm U fun J K=>?_
 try dsimp only
 refine aU 1 U<|aB<|aI<|KK G<|ao<|rP 2 [] mn ?_
 refine aB ?_
 have H:(vI (((i+1):Nat):Int))=(vI ((i:Int)+1)):=by exact cI om
 refine aY (C ⟨((i+1),J,K),(by first|omega|(simp only []; omega))⟩ _ _ _ U os (b_ 5<|aR U H<|cL.nil _) (aN [2,3,4]))
theorem sX (ts:List ab) (tsA:OA) (tsC:Nat) (l:List ae) (lA:OA) (lC:Nat) (hst: ∀ x∈ts,a_ x) (hlen:ts.length≤12) (hl:l.length≤4):
 cz Tryz.prog 123 [(vA (cO.cells (cO.mk (ag.mk (aJ.mk tsA ts.length tsC))))),(vS lA l.length lC)] [(rd tsA ts.length 9 (ts.map ab.cells)),(rd lA l.length 3 (l.map ae.cells))] (vB (decide (∀ s∈l,cD ts s))):=by
 refine bf kr Tryz.func123 U U fun J Q hQ hN=>?_
 try dsimp only
 refine WS fun _ B=>ej U fun A=>aU 1 U<|RK B<|WS fun _ C=>rP 1 [] mn ?_
 refine rS (FU U) ?_
 refine cX (vp l lA lC (Value.func (.func 152) [].toArray [(vP A)].toArray) (fun E D=>(!(decide (cD ts D)))) (ky [(rd tsA ts.length 9 (ts.map ab.cells)),(bm A 88 (cO.cells (cO.mk (ag.mk (aJ.mk tsA ts.length tsC)))))]) (by intro E D _; exact hZ (fi:=[]) (ca:=[(vP A)]) (gu (xh E D ts tsA tsC A (by first|assumption|omega) (by first|assumption|omega)) (aX [0,1]))) om) (eM 2 U U<|aK (gJ (aX [1,0]))<|av) U fun G F=>?_
 obtain ⟨H,AA⟩:=G
 try dsimp only
 refine rP 3 [] mn ?_
 refine RK C<|an<|Q1 hQ U U U ?_
 exact congrArg Value.bool (decide_eq_decide.2 (by rw [show ∀ n:Nat,((n:Int)=0)↔n=0 from fun n=>by omega,xp]; simp only [Bool.not_eq_false',decide_eq_true_eq]; exact ⟨fun h s hs=>by obtain ⟨k,hk⟩:=List.getElem?_of_mem hs; exact h k s hk,fun h k s hk=>h s (List.mem_of_getElem? hk)⟩))
theorem u2 (z:I) (hz:iJ z):
 cz Tryz.prog 125 [(vA (I.cells z))] [] (vA (I.cells (ik z))):=by
 unfold iJ at hz
 refine bf kr Tryz.func125 U U fun E Q hQ hN=>?_
 try dsimp only
 refine WS fun _ A=>ej U fun C=>AL U cv fun D=>RK A<|WS fun _ B=>dE 2 [] (mc 1 U mn) U<|rS (NG U ⟨om,om⟩)<|rP 2 [] (mc 1 U mn) ?_
 refine rS (NG U ⟨om,om⟩)<|rS (SX (aS (xs:=[(0,.tmp 5),(1,.tmp 8)]) (cs:=(I.cells (I.mk (-z.Hi) (-z.Lo)))) U U (aT fm U)) U U)<|eC U cn U<|RK B<|an ?_
 exact D7 hQ [0] (mc 0 U mn) U U
theorem Ec (ts:List ab) (tsA:OA) (tsC:Nat) (s:ae) (hlen:ts.length≤1000000) (hside: ∀ x∈ts,0≤x.ct∧x.ct≤255):
 cz Tryz.prog 82 [(vA (ag.cells (ag.mk (aJ.mk tsA ts.length tsC)))),(vA (ae.cells s))] [(rd tsA ts.length 9 (ts.map ab.cells))] (vT [(vA (I.cells (D0 ts s))),(vI (wB ts s))]):=by
 refine bf kr Tryz.func82 U U fun Z Q hQ hN=>?_
 try dsimp only
 refine WS fun _ K=>ej U fun V=>ej U fun W=>AL U cv fun X=>aU 1 U<|RK K<|WS fun _ L=>dE 1 [] (mc 2 U mn) U<|rS (CL (pq ts tsA tsC hlen hside) (aX [3]) U)<|aU 3 U<|AL U uN fun Y=>eC U vj U<|aU 1 U<|RK L<|al fun _ M=>WS fun _ N=>rP 2 [] mn ?_
 refine RK N<|cd U (aP fun he=>?_) (aO fun he=>?_)
 ·refine WS fun _ O=>rS (SX (aS (xs:=[]) (cs:=(I.cells (I.mk 0 0))) U U (aT fm U)) U U)<|aU 1 U<|oa U cn U<|rP 1 [] mn ?_
  refine RK O<|an<|l6 hQ [0] (mc 1 U mn) U ?_
  (have e:=AD (s:=s) (er he).1; rw [e.1,e.2,(er he).2]<;>rfl)
 refine WK M<|al fun _ C=>WS fun _ D=>?_
 have B:=qL he
 have H:=bT B
 have R:=cw B
 refine rP 2 [0,1] (mc 0 U (mc 2 U mn)) ?_
 refine bX (xs:=[.tmp 20]) (cs:=(ae.cells s)) U p7 yw U U U U (by simp [Value.cells,ae.aq]) U U fun AB=>?_
 refine rS (CL (cz.eq (sX ts tsA tsC ([s]) (some ⟨AB,0,none⟩) 1 asm asm (by (simp; done))) vu) (eM 5 U U<|aK (aH 0 U U (by simp [ae.aq]) U)<|av) U) ?_
 refine rP 1 [] mn ?_
 refine RK D<|cd U (aP fun A=>?_) (aO fun A=>?_)
 ·refine WS fun _ E=>rS (SX (aS (xs:=[]) (cs:=(I.cells (I.mk 0 0))) U U (aT fm U)) U U)<|sT U cn U<|rP 1 [] mn ?_
  refine RK E<|an<|l6 hQ [0] (mc 2 U mn) U ?_
  (have e:=zl B A; rw [e.1,e.2]<;>rfl)
 refine WK C<|WS fun _ F=>?_
 have AA:=A.1
 have P:=lS H A
 refine dE 3 [0,1] (mc 1 U (mc 3 U mn)) U<|rS (CL (uY ts tsA tsC 0 s.ax asm asm om) (aX [5]) U)<|aU 3 U<|AL U cv fun S=>AL U cv fun T=>oa U cn U<|eC U cn U<|RK F<|WS fun _ G=>rP 2 [] (mc 1 U mn) ?_
 refine rS (LP (I.cells s.hG) 5 U bQ U U U)<|bX (xs:=[.tmp 34]) (cs:=(I.cells s.hG)) U hU cv U U U U (by simp [Value.cells,I.aq]) U U fun J=>?_
 refine rS (CL (cz.eq (lg (bW ts (0:Int).toNat (s.ax-0).toNat) ([s.hG]) (some ⟨J,0,none⟩) 1 (by exact lU H om) (by intro z hz; simp only [cN] at hz; subst hz; exact P) sm) jC) (aK (aH 0 rfl rfl (by simp [I.aq]) rfl)<|av) rfl) ?_
 refine Db U cn U<|rP 1 [] mn ?_
 refine RK G<|an<|l6 hQ [0] (mc 5 U mn) U ?_
 (have e:=qn B A; rw [e.1,e.2]; unfold v7; rw [show (s.ax-0).toNat=s.ax.toNat by rw [Int.sub_zero]]<;>rfl)
theorem pb (ts:List ab) (tsA:OA) (tsC:Nat) (p:ae) (q:ae) (hlen:ts.length≤1000000) (hside: ∀ x∈ts,0≤x.ct∧x.ct≤255):
 cz Tryz.prog 83 [(vA (ag.cells (ag.mk (aJ.mk tsA ts.length tsC)))),(vA (ae.cells p)),(vA (ae.cells q))] [(rd tsA ts.length 9 (ts.map ab.cells))] (vT [(vA (I.cells (eb ts p q))),(vI (iQ ts p q))]):=by
 refine bf kr Tryz.func83 U U fun w Q hQ hN=>?_
 try dsimp only
 refine WS fun _ c=>ej U fun r=>ej U fun s=>ej U fun t=>AL U cv fun u=>aU 1 U<|RK c<|WS fun _ d=>dE 1 [] (mc 3 U mn) U<|rS (CL (pq ts tsA tsC hlen hside) (aX [4]) U)<|aU 3 U<|AL U uN fun v=>eC U vj U<|aU 1 U<|RK d<|al fun _ g=>WS fun _ h=>rP 2 [] mn ?_
 refine RK h<|cd U (aP fun he=>?_) (aO fun he=>?_)
 ·refine WS fun _ G=>rS (SX (aS (xs:=[]) (cs:=(I.cells (I.mk 0 0))) U U (aT fm U)) U U)<|aU 1 U<|oa U cn U<|rP 1 [] mn ?_
  refine RK G<|an<|l6 hQ [0] (mc 1 U mn) U ?_
  (have e:=oc (a:=p) (b:=q) (er he).1; rw [e.1,e.2,(er he).2]<;>rfl)
 refine WK g<|al fun _ H=>WS fun _ AB=>?_
 have A:=qL he
 have F:=bT A
 have j:=cw A
 refine rP 3 [0,1,2] (mc 0 U (mc 3 U (mc 2 U mn))) ?_
 refine bX (xs:=[.tmp 22,.tmp 23]) (cs:=((ae.cells p)++(ae.cells q))) U p7 yw U U U U (by simp [Value.cells,ae.aq]) U U fun X=>?_
 refine rS (CL (cz.eq (sX ts tsA tsC ([p,q]) (some ⟨X,0,none⟩) 2 asm asm (by (simp; done))) u3) (eM 6 U U<|aK (aH 0 U U (by simp [ae.aq]) U)<|av) U) ?_
 refine rP 1 [] mn ?_
 refine RK AB<|cd U (aP fun D=>?_) (aO fun D=>?_)
 ·refine WS fun _ J=>rS (SX (aS (xs:=[]) (cs:=(I.cells (I.mk 0 0))) U U (aT fm U)) U U)<|sT U cn U<|rP 1 [] mn ?_
  refine RK J<|an<|l6 hQ [0] (mc 2 U mn) U ?_
  (have e:=kJ A D; rw [e.1,e.2]<;>rfl)
 refine WK H<|WS fun _ K=>?_
 obtain ⟨hp,hq⟩:=D
 have n:=hp.1
 have o:=hq.1
 have i:=lS F hp
 have W:=lS F hq
 have V:=sQ i
 have B:=lU F (f:=(min p.ax q.ax).toNat) (k:=(max p.ax q.ax-min p.ax q.ax).toNat) om
 refine dE 5 [0,1,2] (mc 1 U (mc 4 U (mc 3 U mn))) U<|rS (MN U)<|dE 4 [0,1] (mc 4 U (mc 3 U mn)) U<|rS (MX U)<|rS (CL (uY ts tsA tsC (min p.ax q.ax) (max p.ax q.ax) asm asm om) (aX [6]) U)<|aU 3 U<|AL U cv fun l=>AL U cv fun m=>oa U cn U<|eC U cn U<|RK K<|al fun _ C=>WS fun _ L=>rP 5 [0,1] (mc 5 U (mc 6 U mn)) ?_
 refine RK L<|bH U (aL fun E=>?_) (aM fun E=>?_)
 ·refine WK C<|al fun _ N=>dK cx [6,7,8] [] [] [0,1,2,3,5,6,7,8] [] U U U U U<|eS U (LW 1 U bQ U U)<|eS U (FA 1 U fh U)<|eS U (LP (I.cells q.hG) 4 U bQ U U U)<|eS U (FA 1 U fh U)<|eS U (LP (I.cells p.hG) 5 U bQ U U U)<|eS U (CL (u2 p.hG asm) (av) U)<|eS U (AG U)<|eJ U<|bU U fun T26 S=>bX (xs:=[.tmp 52,.tmp 55]) (cs:=((I.cells q.hG)++(I.cells (ik p.hG)))) U hU cv U U U U (by simp [Value.cells,I.aq]) U U fun Z=>aB (S _ _ (aN [1,2,3,4,6,7,8,9]) ?_)
  refine bU U fun T28 T=>?_
  refine rS (CL (cz.eq (lg (bW ts (min p.ax q.ax).toNat ((max p.ax q.ax)-(min p.ax q.ax)).toNat) ([q.hG,(ik p.hG)]) (some ⟨Z,0,none⟩) 2 (by first|exact B|exact sQ B) (by intro z hz; simp only [bZ,List.not_mem_nil,or_false] at hz; rcases hz with rfl|rfl; exact W; exact V) sm) t_) (aK (aH 0 rfl rfl (by simp [I.aq]) rfl)<|av) rfl) ?_
  refine aB (T _ _ (aN [1,2,3,4,6,7,8,9]) ?_)
  refine bU U fun T29 AA=>Db U cn U<|aB (AA _ _ (aN [1,2,3,4,6,7,8,9]) ?_)
  refine fx U<|KK N<|an<|l6 hQ [0] (mc 5 U mn) U ?_
  (have e:=fR A ⟨hp,hq⟩; rw [e.1,e.2]; unfold dQ mL; rw [if_neg E]<;>rfl)
 refine ao<|rP 1 [] (mc 1 U mn) ?_
 refine rS (CL (u2 (bW ts (min p.ax q.ax).toNat ((max p.ax q.ax)-(min p.ax q.ax)).toNat) asm) (av) U)<|oa U cn U<|RK C<|al fun _ M=>dK cx [6,7,8] [] [] [0,1,2,3,5,6,7,8] [] U U U U U<|eS U (LW 1 U bQ U U)<|eS U (FA 1 U fh U)<|eS U (LP (I.cells q.hG) 4 U bQ U U U)<|eS U (FA 1 U fh U)<|eS U (LP (I.cells p.hG) 5 U bQ U U U)<|eS U (CL (u2 p.hG asm) (av) U)<|eS U (AG U)<|eJ U<|bU U fun T21 O=>bX (xs:=[.tmp 52,.tmp 55]) (cs:=((I.cells q.hG)++(I.cells (ik p.hG)))) U hU cv U U U U (by simp [Value.cells,I.aq]) U U fun Y=>aB (O _ _ (aN [1,2,3,4,6,7,8,9]) ?_)
 refine bU U fun T23 P=>?_
 refine rS (CL (cz.eq (lg (ik (bW ts (min p.ax q.ax).toNat ((max p.ax q.ax)-(min p.ax q.ax)).toNat)) ([q.hG,(ik p.hG)]) (some ⟨Y,0,none⟩) 2 (by first|exact B|exact sQ B) (by intro z hz; simp only [bZ,List.not_mem_nil,or_false] at hz; rcases hz with rfl|rfl; exact W; exact V) sm) t_) (aK (aH 0 rfl rfl (by simp [I.aq]) rfl)<|av) rfl) ?_
 refine aB (P _ _ (aN [1,2,3,4,6,7,8,9]) ?_)
 refine bU U fun T24 R=>Db U cn U<|aB (R _ _ (aN [1,2,3,4,6,7,8,9]) ?_)
 refine fx U<|KK M<|an<|l6 hQ [0] (mc 5 U mn) U ?_
 (have e:=fR A ⟨hp,hq⟩; rw [e.1,e.2]; unfold dQ mL; rw [if_pos E]<;>rfl)
theorem ju (ts:List ab) (tsA:OA) (tsC:Nat) (s:ae) (hst: ∀ x∈ts,a_ x) (hlen:ts.length≤12):
 cz Tryz.prog 84 [(vA (ag.cells (ag.mk (aJ.mk tsA ts.length tsC)))),(vA (ae.cells s))] [(rd tsA ts.length 9 (ts.map ab.cells))] (vB (decide (cD ts s))):=by
 refine bf kr Tryz.func84 U U fun H Q hQ hN=>?_
 try dsimp only
 refine WS fun _ C=>ej U fun F=>ej U fun G=>aU 1 U<|RK C<|al fun _ A=>dF cx 22 kr<|jA 6 [0,1] (mc 0 U (mc 1 U mn)) U<|dS (CL (iy s.ax 0 ((ts.length:Int)-1)) (av) U)<|dP 1 [] mn ?_
 refine gj (t:=12) U (aL fun B=>?_) (aM fun B=>?_)
 ·refine fQ 8 U<|dP 6 [] mn ?_
  refine cj<|RK A<|an<|Q1 hQ U U U ?_
  (refine cB ?_; rw [aD (ti om)])
 refine fQ 1 U<|dS (LP (I.cells s.hG) 0 U bQ U U U)<|dP 4 [0,1] (mc 1 U (mc 0 U mn)) ?_
 obtain ⟨x,hx⟩:=bh ts ((s.ax).toNat) om
 have D:=bp ab.cells hx
 refine dS (IA ((s.ax).toNat) U (ay 2 U) l5 dc om om)<|dS (lp ((((s.ax).toNat)*9)+1) U (ay 2 U) (Nat.mul_pos om dc) fh U) ?_
 have E:=(hst x (aG hx)).2.1
 simp only [aF] at E
 refine dS (lp ((((s.ax).toNat)*9)+1) U (ay 2 U) (Nat.mul_pos om dc) fh U)<|dS (fT ((s.ax).toNat) 1 (vI x.di.Lo) U bQ (ay 2 U) D U dc U)<|fQ 1 U<|dS (CL (kh s.hG 0 (x.di.Lo-1)) (av) U)<|dP 2 [] mn ?_
 refine cj<|RK A<|an<|Q1 hQ U U U ?_
 exact cB (eH.2 (tR om hx).symm)
theorem su (ts:List ab) (tsA:OA) (tsC:Nat) (f t:Int) (hst: ∀ x∈ts,a_ x) (hlen:ts.length≤12) (hf:0≤f∧f≤t∧t≤ts.length):
 cz Tryz.prog 166 [(vA (ag.cells (ag.mk (aJ.mk tsA ts.length tsC)))),(vI f),(vI t)] [(rd tsA ts.length 9 (ts.map ab.cells))] (vT [(vA (I.cells (bW ts f.toNat (t-f).toNat))),(vA (I.cells (ea ts f.toNat (t-f).toNat)))]):=by
 refine bf kr Tryz.func166 U U fun i Q hQ hN=>?_
 try dsimp only
 refine WS fun _ R=>ej U fun e=>AL U cv fun g=>AL U cv fun h=>RK R<|WS fun _ S=>AL U cv fun a=>AL U cv fun b=>RK S<|al fun _ T=>WS fun _ AA=>rP 2 [] mn ?_
 refine RK AA<|ar ?_
 have A:(0≤(t-f).toNat):=by exact Nat.zero_le _
 have K:(vI (f+(0:Int)))=(vI f):=by exact cI om
 refine br (ι:={z:Nat // (z≤(t-f).toNat)}) [1,2,3,6,7,8,9] [2,3,4,5] U U (fun z=>[(10,(vI (f+(z.1:Int))))]) (fun z=>[(bm b 28 (I.cells (ea ts f.toNat z.1))),(bm a 28 (I.cells (bW ts f.toNat z.1)))]) (fun _=>rfl) (fun _=>rfl) (fun z=>(t-f).toNat-z.1) ⟨0,A⟩ (aR U K<|cL.nil _) (aN [2,3,4,5,0,1]) ?_
 clear A
 rintro ⟨k,V⟩ J11 B
 try dsimp only
 refine al fun _ C=>WS fun _ D=>rP 3 [] mn ?_
 refine RK D<|bH U (aL fun P=>?_) (aM fun P=>?_)
 ·refine bo<|ai<|ai<|aw<|KK T<|al fun _ H=>dK cx [2,3] [] [] [2,3,4,5] [] U U U U U<|eS U (LW 3 U bQ U U)<|eS U (LW 2 U bQ U U)<|eJ U<|bU U fun T23 AB=>oa U cn U<|aB (AB _ _ (aN [2,3,4,5]) ?_)
  refine bU U fun T24 J=>eC U cn U<|aB (J _ _ (aN [2,3,4,5]) ?_)
  refine fx U<|KK H<|an<|l6 hQ [0,1] (mc 1 U (mc 0 U mn)) U ?_
  obtain rfl:k=(t-f).toNat:=om; rfl
 refine WK C<|al fun _ E=>ar<|WS fun _ F=>rP 3 [] (mc 2 U mn) ?_
 obtain ⟨x,hx⟩:=bh ts (f.toNat+k) om
 have Y:=bp ab.cells hx
 refine rS (IA (f.toNat+k) U (ay 3 U) l5 dc om om)<|rS (jq (f.toNat+k) 0 (ab.cells x) U bQ (ay 3 U) Y U dc U U)<|AL U uP fun Z=>eC U Bv U<|RK F<|WS fun _ G=>?_
 have O:=hst x (aG hx)
 have d:=fr hst f.toNat k
 have c:=wx hst f.toNat k
 have W:=O.2.1
 have X:=O.2.2.1
 simp only [aF] at W X
 refine dE 12 [0,1,0,1] (mc 6 U (mc 0 U mn)) U<|rS (SX (aS (xs:=[(0,.tmp 28),(1,.tmp 34)]) (cs:=(I.cells (I.mk (((bW ts f.toNat k).Lo)+x.di.Lo) (((bW ts f.toNat k).Hi)+x.di.Hi)))) U U (aT fm U)) U U)<|HS U cn U<|RK G<|ao<|rP 12 [0,1,0,1] (mc 5 U (mc 0 U mn)) ?_
 refine rS (SX (aS (xs:=[(0,.tmp 41),(1,.tmp 47)]) (cs:=(I.cells (I.mk (((ea ts f.toNat k).Lo)+x.dA.Lo) (((ea ts f.toNat k).Hi)+x.dA.Hi)))) U U (aT fm U)) U U)<|Db U cn U<|aB<|aI<|KK E ?_
 have L:(I.cells (I.mk (((bW ts f.toNat k).Lo)+x.di.Lo) (((bW ts f.toNat k).Hi)+x.di.Hi)))=(I.cells (bW ts f.toNat (k+1))):=by rw [jK hx]; rfl
 rw [L]
 have M:(I.cells (I.mk (((ea ts f.toNat k).Lo)+x.dA.Lo) (((ea ts f.toNat k).Hi)+x.dA.Hi)))=(I.cells (ea ts f.toNat (k+1))):=by rw [kY hx]; rfl
 rw [M]
 refine ao<|rP 3 [] mn ?_
 refine aB ?_
 have N:(vI (f+(((k+1):Nat):Int)))=(vI ((f+(k:Int))+1)):=by exact cI om
 refine aY (B ⟨(k+1),(by first|omega|(simp only []; omega))⟩ _ _ _ U os (b_ 7<|aR U N<|cL.nil _) (aN [1,2,3,4,5,6]))
end
section
open Go.RowKit
theorem EZ (l:dk) (kA:OA) (kC:Nat) (az:List RA) (cA:OA) (cC:Nat) (bA:OA) (bC:Nat) (hin:gi l az):
 cz Tryz.prog 114 [(vA (fy.cells (yE l kA kC cA cC bA bC)))] (zO l kA az cA bA) (vB (decide (ff l))):=by
 have R:=hin.jP
 have P:=hin.yz
 have N:=hin.yC
 have O:=hin.yB
 refine bf kr Tryz.func114 U U fun T Q hQ hN=>?_
 try dsimp only
 refine WS fun _ G=>ej U fun S=>aU 1 U<|RK G<|WS fun _ A=>rP 2 [] (mc 0 U mn) ?_
 refine bX (xs:=[.tmp 4]) (cs:=[(vI l.nx)]) U cK g6 U U U U (by simp [Value.cells]) U U fun H=>?_
 refine rS (CL (cz.eq (hE 1 5000 ([l.nx]) (some ⟨H,0,none⟩) 1 (by (simp; done))) bR) (aK (aH 0 U U (by simp [bq]) U)<|av) U) ?_
 refine rP 1 [] mn ?_
 refine dq (t:=7) U (aL fun K=>?_) (aM fun K=>?_)
 ·refine rP 36 [] mn ?_
  refine RK A<|an<|Q1 hQ U U U ?_
  exact cB (aD (by unfold ff; omega)).symm
 refine rP 3 [] (mc 1 U mn) ?_
 refine bX (xs:=[.tmp 10]) (cs:=[(vI (l.dy.length:Int))]) U cK g6 U U U U (by simp [Value.cells]) U U fun AA=>?_
 refine rS (CL (cz.eq (hE 1 4 ([(l.dy.length:Int)]) (some ⟨AA,0,none⟩) 1 (by (simp; done))) bR) (aK (aH 0 U U (by simp [bq]) U)<|av) U) ?_
 refine rP 2 [] mn ?_
 refine dq (t:=14) U (aL fun L=>?_) (aM fun L=>?_)
 ·refine rP 29 [] mn ?_
  refine RK A<|an<|Q1 hQ U U U ?_
  exact cB (aD (by unfold ff; omega)).symm
 refine rP 3 [] (mc 2 U mn) ?_
 refine bX (xs:=[.tmp 17]) (cs:=[(vI (l.ck.length:Int))]) U cK g6 U U U U (by simp [Value.cells]) U U fun J=>?_
 refine rS (CL (cz.eq (hE 1 6 ([(l.ck.length:Int)]) (some ⟨J,0,none⟩) 1 (by (simp; done))) bR) (aK (aH 0 U U (by simp [bq]) U)<|av) U) ?_
 refine rP 2 [] mn ?_
 refine dq (t:=21) U (aL fun M=>?_) (aM fun M=>?_)
 ·refine rP 22 [] mn ?_
  refine RK A<|an<|Q1 hQ U U U ?_
  exact cB (aD (by unfold ff; omega)).symm
 refine rP 6 [] (mc 3 U mn) ?_
 refine bX (xs:=[.tmp 27]) (cs:=[(vI l.kU)]) U cK g6 U U U U (by simp [Value.cells]) U U fun B=>?_
 refine rS (CL (cz.eq (hE 0 ((l.ck.length:Int)-1) ([l.kU]) (some ⟨B,0,none⟩) 1 (by (simp; done))) bR) (aK (aH 0 U U (by simp [bq]) U)<|av) U) ?_
 refine rP 2 [] mn ?_
 refine dq (t:=31) U (aL fun E=>?_) (aM fun E=>?_)
 ·refine rP 12 [] mn ?_
  refine RK A<|an<|Q1 hQ U U U ?_
  exact cB (aD (by unfold ff; omega)).symm
 refine rP 2 [] (mc 4 U mn) ?_
 refine bX (xs:=[.tmp 33]) (cs:=[(vI l.nE)]) U cK g6 U U U U (by simp [Value.cells]) U U fun C=>?_
 refine rS (CL (cz.eq (hE 0 3 ([l.nE]) (some ⟨C,0,none⟩) 1 (by (simp; done))) bR) (aK (aH 0 U U (by simp [bq]) U)<|av) U) ?_
 refine rP 2 [] mn ?_
 refine dq (t:=37) U (aL fun F=>?_) (aM fun F=>?_)
 ·refine rP 6 [] mn ?_
  refine RK A<|an<|Q1 hQ U U U ?_
  exact cB (aD (by unfold ff; omega)).symm
 refine rP 2 [] (mc 5 U mn) ?_
 refine bX (xs:=[.tmp 39]) (cs:=[(vI l.lj)]) U cK g6 U U U U (by simp [Value.cells]) U U fun D=>?_
 refine rS (CL (cz.eq (hE 0 3 ([l.lj]) (some ⟨D,0,none⟩) 1 (by (simp; done))) bR) (aK (aH 0 U U (by simp [bq]) U)<|av) U) ?_
 refine rP 2 [] mn ?_
 refine RK A<|an<|Q1 hQ U U U ?_
 exact cB (eH.2 (by unfold ff; omega))
theorem EO (l:dk) (kA:OA) (kC:Nat) (az:List RA) (cA:OA) (cC:Nat) (bA:OA) (bC:Nat) (hin:gi l az):
 cz Tryz.prog 115 [(vA (fy.cells (yE l kA kC cA cC bA bC)))] (zO l kA az cA bA) (vB (decide (∀ c∈l.dy,fj c))):=by
 have H:=hin.jP
 have G:=hin.yz
 have E:=hin.yC
 have F:=hin.yB
 refine bf kr Tryz.func115 U U fun K Q hQ hN=>?_
 try dsimp only
 refine WS fun _ C=>ej U fun J=>aU 1 U<|RK C<|WS fun _ D=>rP 2 [] (mc 0 U mn) ?_
 refine rS (CL (r8 l.dy az cA cC (Value.func (.func 117) [].toArray [].toArray) (fun m=>(!(decide (fj m)))) (ky (ei bK.Bf l.dy az)) (by intro AA m a B A; exact hZ (fi:=[]) (ca:=[]) (Hm l.dy az AA m a (by exact B) (by exact A) (by exact hin.H8 _ _ _ B A))) asm asm) (x_ 2 3 3 U U U U U U) U) ?_
 refine rP 2 [] mn ?_
 refine RK D<|an<|Q1 hQ U U U ?_
 exact cB (by rw [Bool.eq_iff_iff,decide_eq_true_eq]; exact vz)
theorem DK (b:dU) (l:dk) (kA:OA) (kC:Nat) (az:List RA) (cA:OA) (cC:Nat) (bA:OA) (bC g1:Nat) (hin:gi l az) (htr:a9 l.ak=true):
 cz Tryz.prog 121 [(vA (dU.cells b)),(vP g1)] ((zO l kA az cA bA)++[(bm g1 59 (fy.cells (yE l kA kC cA cC bA bC)))]) (vB (!(decide (gG l b)))):=by
 have J:=hin.jP
 have H:=hin.yz
 have F:=hin.yC
 have G:=hin.yB
 have AA:=hin.side
 refine bf kr Tryz.func121 U U fun M Q hQ hN=>?_
 try dsimp only
 refine WS fun _ C=>ej U fun K=>aU 1 U<|RK C<|WS fun _ D=>aU 1 U<|rS (Fp (ag.cells (ag.mk (aJ.mk kA l.ak.length kC))) 5 U bQ U U U)<|aU 1 U<|rS (LP (ae.cells b.de) 0 U bQ U U U)<|rS (CL (Ec l.ak kA kC b.de asm asm) (aX [1]) U)<|aU 3 U<|AL U cv fun L=>eC U cn U<|aU 1 U<|RK D<|WS fun _ B=>rP 3 [] mn ?_
 refine bx (t:=16) U (aP fun A=>?_) (aO fun A=>?_)
 ·refine rP 11 [] mn ?_
  refine RK B<|an<|Q1 hQ U U U ?_
  (refine cB ?_; rw [aD (fun h:gG l b=>A ((sh htr).2 h.1))]; rfl)
 refine rP 6 [0,1] (mr 6 U (mc 1 U mn)) ?_
 refine bX (xs:=[.tmp 22]) (cs:=[(vI b.pI)]) U cK g6 U U U U (by simp [Value.cells]) U U fun E=>?_
 refine rS (CL (cz.eq (hE 0 ((l.dy.length:Int)-1) ([b.pI]) (some ⟨E,0,none⟩) 1 (by (simp; done))) bR) (aK (aH 0 U U (by simp [bq]) U)<|av) U) ?_
 refine rP 3 [] mn ?_
 refine RK B<|an<|Q1 hQ U U U ?_
 (refine cB ?_; refine congrArg Bool.not (eH.2 ⟨fun h=>⟨(sh htr).1 A,om,om⟩,fun h=>by have:=h.2; omega⟩))
theorem Eg (l:dk) (kA:OA) (kC:Nat) (az:List RA) (cA:OA) (cC:Nat) (bA:OA) (bC:Nat) (hin:gi l az) (htr:a9 l.ak=true):
 cz Tryz.prog 119 [(vA (fy.cells (yE l kA kC cA cC bA bC)))] (zO l kA az cA bA) (vB (decide (∀ b∈l.ck,gG l b))):=by
 have H:=hin.jP
 have G:=hin.yz
 have E:=hin.yC
 have F:=hin.yB
 refine bf kr Tryz.func119 U U fun AA Q hQ hN=>?_
 try dsimp only
 refine WS fun _ B=>ej U fun A=>aU 1 U<|RK B<|WS fun _ C=>rP 2 [] (mc 0 U mn) ?_
 refine rS (FU U) ?_
 refine rS (CL (sL l.ck bA bC (Value.func (.func 121) [].toArray [(vP A)].toArray) (fun D=>(!(decide (gG l D)))) (ky [(rd kA l.ak.length 9 (l.ak.map ab.cells)),(rd cA l.dy.length 2 (List.zipWith bK.cells l.dy az)),(ky (ei bK.Bf l.dy az)),(rd bA l.ck.length 4 (l.ck.map dU.cells)),(bm A 59 (fy.cells (yE l kA kC cA cC bA bC)))]) (by intro D _; exact hZ (fi:=[]) (ca:=[(vP A)]) (gu (DK D l kA kC az cA cC bA bC A (by first|assumption|omega) (by first|assumption|omega)) (aX [0,1,2,3,4]))) asm) (eM 4 U U<|aK (gJ (aX [1,2,3,4,0]))<|av) U) ?_
 refine rP 2 [] mn ?_
 refine RK C<|an<|Q1 hQ U U U ?_
 exact cB (by rw [Bool.eq_iff_iff,decide_eq_true_eq]; exact yh)
theorem Df (l:dk) (kA:OA) (kC:Nat) (az:List RA) (cA:OA) (cC:Nat) (bA:OA) (bC:Nat) (n:Int) (hin:gi l az) (htr:a9 l.ak=true) (hbk: ∀ b∈l.ck,gG l b) (hn:0≤n∧n<(l.ck.length:Int)):
 cz Tryz.prog 44 [(vA (fy.cells (yE l kA kC cA cC bA bC))),(vI n)] (zO l kA az cA bA) (vI (jx l n.toNat)):=by
 have P:=hin.jP
 have N:=hin.yz
 have L:=hin.yC
 have M:=hin.yB
 have O:=hin.side
 refine bf kr Tryz.func44 U U fun AA Q hQ hN=>?_
 try dsimp only
 refine WS fun _ E=>ej U fun R=>aU 1 U<|RK E<|WS fun _ F=>rP 3 [] (mc 0 U mn) ?_
 obtain ⟨x,hx⟩:=bh l.ck ((n).toNat) om
 have J:=bp dU.cells hx
 refine rS (IA ((n).toNat) U (ay 4 U) sx dc om om)<|rS (lp (((n).toNat)*4) U (ay 4 U) (Nat.mul_pos om dc) fh U)<|rS (jq ((n).toNat) 0 (ae.cells x.de) U bQ (ay 4 U) J U dc U U)<|AL U yw fun S=>eC U F_ U<|RK F<|WS fun _ G=>aU 1 U<|rS (LP (ag.cells (ag.mk (aJ.mk kA l.ak.length kC))) 1 U bQ U U U)<|dE 1 [] (mc 0 U mn) U<|rS (CL (Ec l.ak kA kC x.de asm asm) (aX [2]) U)<|aU 3 U<|AL U cv fun T=>eC U cn U<|aU 1 U<|RK G<|al fun _ C=>WS fun _ H=>rP 2 [] mn ?_
 refine RK H<|bH U (aL fun D=>?_) (aM fun D=>?_)
 ·refine WK C<|WS fun _ B=>rP 3 [] (mc 0 U mn) ?_
  refine RK B<|an<|Q1 hQ U U U ?_
  (refine congrArg (Value.int .i64) ?_; rw [show n.toNat=0 by omega] at hx ⊢; rw [oB hx,(qn htr (hbk _ (List.mem_of_getElem? hx)).1).2])
 refine dK cx [14] [] [] [1,2,3,4,5,6] [] U U U U U<|eS U (FA 0 U fh U)<|eS U (LP (ag.cells (ag.mk (aJ.mk kA l.ak.length kC))) 1 U bQ U U U)<|eS U (FA 3 U fh U)<|eS U (L1 (vS bA l.ck.length bC) 1 U bQ U U)<|eS U (MV U)<|eS U (BI U (pK ⟨om,om⟩)) ?_
 obtain ⟨y,hy⟩:=bh l.ck (((n-1)).toNat) om
 have K:=bp dU.cells hy
 refine eS U (IA (((n-1)).toNat) U (ay 5 U) sx dc om om)<|eS U (lp ((((n-1)).toNat)*4) U (ay 5 U) (Nat.mul_pos om dc) fh U)<|eS U (jq (((n-1)).toNat) 0 (ae.cells y.de) U bQ (ay 5 U) K U dc U U)<|eS U (LW 0 U bQ U U)<|eS U (CL (pb l.ak kA kC y.de x.de asm asm) (aX [2]) U)<|eS U (MV U)<|eS U (EX U)<|eS U (EX U)<|eJ U<|bU U fun T9 AB=>eC U cn U<|aB (AB _ _ (aN [1,2,3,4,5,6]) ?_)
 refine fx U<|KK C<|WS fun _ A=>rP 3 [] (mc 0 U mn) ?_
 refine RK A<|an<|Q1 hQ U U U ?_
 (refine congrArg (Value.int .i64) ?_; rw [ue om hx (by rw [show n.toNat-1=(n-1).toNat by omega]; exact hy),(fR htr ⟨(hbk _ (List.mem_of_getElem? hy)).1,(hbk _ (List.mem_of_getElem? hx)).1⟩).2])
theorem E7 (l:dk) (kA:OA) (kC:Nat) (az:List RA) (cA:OA) (cC:Nat) (bA:OA) (bC:Nat) (hin:gi l az) (htr:a9 l.ak=true) (hbk: ∀ b∈l.ck,gG l b):
 cz Tryz.prog 122 [(vA (fy.cells (yE l kA kC cA cC bA bC)))] (zO l kA az cA bA) (vB (decide (∀ i,i<l.ck.length→1≤jx l i))):=by
 have V:=hin.jP
 have AA:=hin.yz
 have S:=hin.yC
 have T:=hin.yB
 refine bf kr Tryz.func122 U U fun X Q hQ hN=>?_
 try dsimp only
 refine WS fun _ J=>ej U fun W=>aU 1 U<|RK J<|al fun _ K=>WS fun _ L=>rP 4 [] (mc 0 U mn) ?_
 refine RK L<|ar ?_
 have A:(0≤l.ck.length)∧(∀ j,j<0→1≤jx l j):=by exact ⟨Nat.zero_le _,fun j hj=>absurd hj (Nat.not_lt_zero _)⟩
 refine br (ι:={z:Nat // (z≤l.ck.length)∧(∀ j,j<z→1≤jx l j)}) [1,6] [0,1,2,3,4] U U (fun z=>[(7,(vI (z.1:Int)))]) (fun z=>[]) (fun _=>rfl) (fun _=>rfl) (fun z=>l.ck.length-z.1) ⟨0,A⟩ (bg U) (aN [0,1,2,3,4]) ?_
 clear A
 rintro ⟨i,⟨P,B⟩⟩ J5 AB
 try dsimp only
 refine WS fun _ M=>rP 1 [] mn ?_
 refine RK M<|al fun _ N=>bH U (aL fun R=>?_) (aM fun R=>?_)
 ·refine bo<|ai<|ai<|aw<|KK K<|WS fun _ G=>rP 1 [] mn ?_
  refine RK G<|an<|Q1 hQ U U U ?_
  exact cB (bY (fun j hj=>B j om)).symm
 refine WK N<|al fun _ O=>ar<|WS fun _ D=>aU 2 U<|RK D<|WS fun _ E=>dE 2 [] (mc 0 U mn) U<|rS (CL (Df l kA kC az cA cC bA bC (i:Int) hin htr hbk om) (aX [1,2,3,4]) U)<|rP 1 [] mn ?_
 refine RK E<|cd U (aM fun C=>?_) (aL fun C=>?_)
 ·refine WS fun _ F=>rP 1 [] mn ?_
  refine RK F<|an<|Q1 hQ U U U ?_
  exact cB (aD (fun h=>by have:=h i om; simp only [Int.toNat_natCast] at C; omega)).symm
 refine bS<|aI<|KK O<|ao<|rP 2 [] mn ?_
 refine aB ?_
 have H:(vI (((i+1):Nat):Int))=(vI ((i:Int)+1)):=by exact cI om
 refine aY (AB ⟨(i+1),⟨om,fun j hj=>by rcases Nat.lt_or_ge j i with q|q; exact B j q; (obtain rfl:j=i:=by omega); simp only [Int.toNat_natCast] at C; omega⟩⟩ _ _ _ rfl os (cL.cons rfl<|cL.cons rfl<|aR rfl H<|cL.nil _) (aN [0,1,2,3,4]))
end
section
open Go.RowKit
theorem DU:
 cz Tryz.prog 80 [] [] (vA ((eE.cells (eE.mk (Value.func (.func 114) [].toArray [].toArray)))++(eE.cells (eE.mk (Value.func (.func 115) [].toArray [].toArray)))++(eE.cells (eE.mk (Value.func (.func 119) [].toArray [].toArray)))++(eE.cells (eE.mk (Value.func (.func 122) [].toArray [].toArray))))):=by
 refine bf kr Tryz.func80 U U fun D Q hQ hN=>?_
 try dsimp only
 refine WS fun _ A=>AL U FF fun C=>RK A<|WS fun _ B=>rS (SX (aS (xs:=[(0,.func 114)]) (cs:=(eE.cells (eE.mk (Value.func (.func 114) [].toArray [].toArray)))) U U (aT wk U)) U U)<|rS (SX (aS (xs:=[(0,.func 115)]) (cs:=(eE.cells (eE.mk (Value.func (.func 115) [].toArray [].toArray)))) U U (aT wk U)) U U)<|rS (SX (aS (xs:=[(0,.func 119)]) (cs:=(eE.cells (eE.mk (Value.func (.func 119) [].toArray [].toArray)))) U U (aT wk U)) U U)<|rS (SX (aS (xs:=[(0,.func 122)]) (cs:=(eE.cells (eE.mk (Value.func (.func 122) [].toArray [].toArray)))) U U (aT wk U)) U U)<|rS (SX (aS (xs:=[(0,.tmp 1),(1,.tmp 2),(2,.tmp 3),(3,.tmp 4)]) (cs:=((eE.cells (eE.mk (Value.func (.func 114) [].toArray [].toArray)))++(eE.cells (eE.mk (Value.func (.func 115) [].toArray [].toArray)))++(eE.cells (eE.mk (Value.func (.func 119) [].toArray [].toArray)))++(eE.cells (eE.mk (Value.func (.func 122) [].toArray [].toArray))))) U U (aT FZ U)) U U)<|eC U Gt U<|RK B<|an ?_
 exact D7 hQ [0] (mc 0 U mn) U U
theorem zB (l:dk) (kA:OA) (kC:Nat) (az:List RA) (cA:OA) (cC:Nat) (bA:OA) (bC:Nat) (hin:gi l az):
 cz Tryz.prog 41 [(vA (fy.cells (yE l kA kC cA cC bA bC)))] (zO l kA az cA bA) (vI (gP l)):=by
 have Ay:=hin.jP
 have AR:=hin.yz
 have AH:=hin.yC
 have AO:=hin.yB
 have Ak:=hin.side
 refine bf kr Tryz.func41 U U fun w0 Q hQ hN=>?_
 try dsimp only
 refine WS fun _ m=>ej U fun b2=>aU 1 U<|RK m<|al fun _ n=>WS fun _ o=>aU 1 U<|rS (LP (ag.cells (ag.mk (aJ.mk kA l.ak.length kC))) 0 U bQ U U U)<|rS (CL (kN l.ak kA kC asm asm) (aX [1]) U)<|aU 1 U<|RK o<|WS fun _ p=>rP 2 [] mn ?_
 refine RK p<|cd U (aP fun B=>?_) (aO fun B=>?_)
 ·refine WS fun _ q=>rP 2 [] mn ?_
  refine RK q<|an<|Q1 hQ U U U ?_
  (refine cI ?_; rw [(er B).2,rD (er B).1])
 refine WK n<|al fun _ s=>WS fun _ t=>?_
 have A:=qL B
 refine rS (CL DU (av) U)<|aU 1 U<|RK t<|ar<|gE 5<|ey fun R9 u=>WS fun _ C=>rS (SX (bJ (r:= .bool true) U U U ig) U U)<|RK C<|al fun _ D=>aC U<|WK D<|al fun _ E=>ar<|WS fun _ F=>rS (SX (iY (vs:=(eE.cells (eE.mk (Value.func (.func 114) [].toArray [].toArray)))) 0 U U U wu bQ U dc U) U U)<|AL U wK fun x=>eC U vR U<|RK F<|WS fun _ G=>dE 3 [0,1] (mc 0 U (mc 1 U mn)) U<|rS (CL (EZ l kA kC az cA cC bA bC hin) (aX [2,3,4,5]) U)<|rP 1 [] mn ?_
 refine RK G<|cd U (aP fun g=>?_) (aO fun g=>?_)
 ·refine WS fun _ H=>rP 1 [] mn ?_
  refine RK H<|an<|Q1 hQ U U U ?_
  exact cI (lV A fun h=>absurd h.head asm).symm
 refine bS<|aI<|KK E<|ao<|rS (SX (bJ (r:= .int .i64 1) U U U (iZ ⟨dc,dc⟩)) U U)<|aU 1 U<|RK u<|ey fun R18 d=>WS fun _ AB=>rS (SX (bJ (r:= .bool true) U U U ig) U U)<|RK AB<|al fun _ J=>aC U<|WK J<|al fun _ K=>ar<|WS fun _ L=>rS (SX (iY (vs:=(eE.cells (eE.mk (Value.func (.func 115) [].toArray [].toArray)))) 1 U U U wu bQ U dc U) U U)<|AL U wK fun y=>eC U vR U<|RK L<|WS fun _ M=>dE 3 [0,1] (mc 0 U (mc 2 U mn)) U<|rS (CL (EO l kA kC az cA cC bA bC hin) (aX [3,4,5,6]) U)<|rP 1 [] mn ?_
 refine RK M<|cd U (aP fun i=>?_) (aO fun i=>?_)
 ·refine WS fun _ N=>rP 1 [] mn ?_
  refine RK N<|an<|Q1 hQ U U U ?_
  exact cI (lV A fun h=>absurd h.clock asm).symm
 refine bS<|aI<|KK K<|ao<|rS (SX (bJ (r:= .int .i64 2) U U U (iZ ⟨dc,dc⟩)) U U)<|aU 1 U<|RK d<|ey fun R27 e=>WS fun _ O=>rS (SX (bJ (r:= .bool true) U U U ig) U U)<|RK O<|al fun _ P=>aC U<|WK P<|al fun _ R=>ar<|WS fun _ S=>rS (SX (iY (vs:=(eE.cells (eE.mk (Value.func (.func 119) [].toArray [].toArray)))) 2 U U U wu bQ U dc U) U U)<|AL U wK fun z=>eC U vR U<|RK S<|WS fun _ T=>dE 3 [0,1] (mc 0 U (mc 3 U mn)) U<|rS (CL (Eg l kA kC az cA cC bA bC hin asm) (aX [4,5,6,7]) U)<|rP 1 [] mn ?_
 refine RK T<|cd U (aP fun j=>?_) (aO fun j=>?_)
 ·refine WS fun _ AA=>rP 1 [] mn ?_
  refine RK AA<|an<|Q1 hQ U U U ?_
  exact cI (lV A fun h=>absurd h.xy asm).symm
 refine bS<|aI<|KK R<|ao<|rS (SX (bJ (r:= .int .i64 3) U U U (iZ ⟨dc,dc⟩)) U U)<|aU 1 U<|RK e<|ey fun R36 f=>WS fun _ V=>rS (SX (bJ (r:= .bool true) U U U ig) U U)<|RK V<|al fun _ W=>aC U<|WK W<|al fun _ X=>ar<|WS fun _ Y=>rS (SX (iY (vs:=(eE.cells (eE.mk (Value.func (.func 122) [].toArray [].toArray)))) 3 U U U wu bQ U dc U) U U)<|AL U wK fun AC=>eC U vR U<|RK Y<|WS fun _ Z=>dE 3 [0,1] (mc 0 U (mc 4 U mn)) U<|rS (CL (E7 l kA kC az cA cC bA bC hin asm asm) (aX [5,6,7,8]) U)<|rP 1 [] mn ?_
 refine RK Z<|cd U (aP fun k=>?_) (aO fun k=>?_)
 ·refine WS fun _ a=>rP 1 [] mn ?_
  refine RK a<|an<|Q1 hQ U U U ?_
  exact cI (lV A fun h=>absurd h.HL asm).symm
 refine bS<|aI<|KK X<|ao<|rS (SX (bJ (r:= .int .i64 4) U U U (iZ ⟨dc,dc⟩)) U U)<|aU 1 U<|RK f<|ey fun R45 w=>WS fun _ b=>rS (SX (bJ (r:= .bool false) U U U ig) U U)<|RK b<|al fun _ v=>bw U<|bo<|ai<|ai<|aw<|KK s<|WS fun _ c=>rP 1 [] mn ?_
 refine RK c<|an<|Q1 hQ U U U ?_
 exact cI (nR A (q8 asm asm asm asm)).symm
theorem sy (l:dk) (kA:OA) (kC:Nat) (az:List RA) (cA:OA) (cC:Nat) (bA:OA) (bC:Nat) (n:Int) (hin:gi l az):
 cz Tryz.prog 15 [(vA (fy.cells (yE l kA kC cA cC bA bC))),(vI n)] (zO l kA az cA bA) (vT [(vI (jn l n)),(vI (hP l n))]):=by
 have T:=hin.jP
 have S:=hin.yz
 have P:=hin.yC
 have R:=hin.yB
 refine bf kr Tryz.func15 U U fun X Q hQ hN=>?_
 try dsimp only
 refine WS fun _ F=>ej U fun W=>aU 2 U<|RK F<|al fun _ G=>WS fun _ H=>dE 1 [] (mc 0 U mn) U<|rS (CL (zB l kA kC az cA cC bA bC hin) (aX [1,2,3,4]) U)<|aU 1 U<|RK H<|WS fun _ AB=>rP 2 [] mn ?_
 refine RK AB<|cd U (aP fun A=>?_) (aO fun A=>?_)
 ·refine WS fun _ J=>rP 3 [] mn ?_
  refine RK J<|an<|Q2 hQ U U U U ?_
  first|(have e:=oK (i:=n) A; rw [e.1,e.2]<;>rfl)|(have e:=ko (i:=n) A om; rw [e.1,e.2]<;>rfl)|(have e:=ov (i:=n) A om; rw [e.1,e.2]<;>rfl)
 refine WK G<|al fun _ K=>WS fun _ L=>rP 1 [] mn ?_
 obtain ⟨N,B⟩:=ni A
 have M:=B.head
 unfold ff at M
 refine rP 4 [] (mc 0 U mn) ?_
 refine bX (xs:=[.tmp 16]) (cs:=[(vI n)]) U cK g6 U U U U (by simp [Value.cells]) U U fun O=>?_
 refine rS (CL (cz.eq (hE 0 ((l.ck.length:Int)-1) ([n]) (some ⟨O,0,none⟩) 1 sd) bR) (aK (aH 0 U U (by simp [bq]) U)<|av) U) ?_
 refine rP 1 [] mn ?_
 refine RK L<|cd U (aP fun E=>?_) (aO fun E=>?_)
 ·refine WS fun _ C=>rP 2 [] mn ?_
  refine RK C<|an<|Q2 hQ U U U U ?_
  first|(have e:=oK (i:=n) A; rw [e.1,e.2]<;>rfl)|(have e:=ko (i:=n) A om; rw [e.1,e.2]<;>rfl)|(have e:=ov (i:=n) A om; rw [e.1,e.2]<;>rfl)
 refine WK K<|al fun _ D=>dF cx 9 kr<|dP 2 [] (mc 1 U mn) ?_
 refine dS (CL (Df l kA kC az cA cC bA bC n hin sd (by exact B.xy) sd) (aX [2,3,4,5]) U) ?_
 have AA:=G5 N B.xy n.toNat
 have V:=B.HL n.toNat om
 refine dS (BI U (iF ⟨om,om⟩))<|dP 2 [] (mc 1 U mn) ?_
 refine dS (CL (FW (1000*(jx l n.toNat)) l.nx sd sd) (av) U) ?_
 refine dP 2 [] mn ?_
 refine cj<|RK D<|an<|Q2 hQ U U U U ?_
 first|(have e:=oK (i:=n) A; rw [e.1,e.2]<;>rfl)|(have e:=ko (i:=n) A om; rw [e.1,e.2]<;>rfl)|(have e:=ov (i:=n) A om; rw [e.1,e.2]<;>rfl)
end
section
open Go.RowKit
theorem z8 (n lo hi:Int) (g1 g2:Nat):
 cz Tryz.prog 89 [(vI n),(vP g1),(vP g2)] [(bm g1 3 [(vI lo)]),(bm g2 3 [(vI hi)])] (vB (decide (n<lo∨hi<n))):=by
 refine bf kr Tryz.func89 U U fun D Q hQ hN=>?_
 try dsimp only
 refine WS fun _ B=>aU 1 U<|RK B<|WS fun _ A=>rP 4 [] (mr 0 U mn) ?_
 refine bx (t:=8) U (aM fun C=>?_) (aL fun C=>?_)
 ·refine rP 5 [] mn ?_
  refine RK A<|an<|Q1 hQ U U U ?_
  exact cB (bY om).symm
 refine rP 5 [] (mr 1 U mn) ?_
 refine RK A<|an<|Q1 hQ U U U ?_
 exact cB (eH.2 om)
theorem im (lo hi:Int) (l:List Int) (lA:OA) (lC:Nat) (hlen:l.length≤1000000):
 cz Tryz.prog 48 [(vI lo),(vI hi),(vS lA l.length lC)] [(rd lA l.length 1 (l.map iC))] (vB (jZ lo hi l)):=by
 refine bf kr Tryz.func48 U U fun F Q hQ hN=>?_
 try dsimp only
 refine WS fun _ D=>o4 U U fun A=>o4 U U fun B=>aU 1 U<|RK D<|WS fun _ E=>rP 1 [] mn ?_
 refine rS (FU U) ?_
 refine rS (CL (jI l lA lC (Value.func (.func 89) [].toArray [(vP A),(vP B)].toArray) (fun C=>(decide (C<lo∨hi<C))) (ky [(bm A 3 [(vI lo)]),(bm B 3 [(vI hi)])]) (by intro C _; exact hZ (fi:=[]) (ca:=[(vP A),(vP B)]) (gu (z8 C lo hi A B) (aX [0,1]))) hlen) (eM 2 U U<|aK (gJ (aX [1,0]))<|av) U) ?_
 refine rP 2 [] mn ?_
 refine RK E<|an ?_
 exact Q1 hQ U U U U
theorem rU (s:ae) (d:ah) (kA:OA) (kC:Nat) (pA:OA) (pC:Nat) (nA:OA) (nC g1:Nat) (hin:fk d) (htr:a9 d.ak=true):
 cz Tryz.prog 86 [(vA (ae.cells s)),(vP g1)] [(rd kA d.ak.length 9 (d.ak.map ab.cells)),(rd pA d.aA.length 7 (d.aA.map aj.cells)),(rd nA d.bk.length 3 (d.bk.map cH.cells)),(bm g1 39 (aW.cells (aW.mk (ag.mk (aJ.mk kA d.ak.length kC)) (aJ.mk pA d.aA.length pC) (aJ.mk nA d.bk.length nC) d.bM d.bP)))] (vB (decide (cD d.ak s))):=by
 have E:=hin.jP
 have D:=hin.side
 have AA:=hin.sG
 have G:=hin.rq
 have F:=hin.nk
 have H:=hin.pk
 refine bf kr Tryz.func86 U U fun L Q hQ hN=>?_
 try dsimp only
 refine WS fun _ A=>ej U fun J=>aU 1 U<|RK A<|WS fun _ B=>aU 1 U<|rS (Fp (ag.cells (ag.mk (aJ.mk kA d.ak.length kC))) 4 U bQ U U U)<|rP 1 [] (mc 0 U mn) ?_
 refine rS (CL (Ec d.ak kA kC s sd sd) (aX [1]) U) ?_
 refine aU 3 U<|AL U cv fun K=>eC U cn U<|aU 1 U<|RK B<|WS fun _ C=>rP 3 [] mn ?_
 refine RK C<|an<|Q1 hQ U U U ?_
 exact cB (eH.2 (sh htr))
theorem CQ (n:cH) (d:ah) (kA:OA) (kC:Nat) (pA:OA) (pC:Nat) (nA:OA) (nC g1:Nat) (hin:fk d) (hk:0≤n.Kind∧n.Kind≤255):
 cz Tryz.prog 88 [(vA (cH.cells n)),(vP g1)] [(rd kA d.ak.length 9 (d.ak.map ab.cells)),(rd pA d.aA.length 7 (d.aA.map aj.cells)),(rd nA d.bk.length 3 (d.bk.map cH.cells)),(bm g1 39 (aW.cells (aW.mk (ag.mk (aJ.mk kA d.ak.length kC)) (aJ.mk pA d.aA.length pC) (aJ.mk nA d.bk.length nC) d.bM d.bP)))] (vB (!(decide (cb d.ak n)))):=by
 have F:=hin.jP
 have E:=hin.side
 have M:=hin.sG
 have K:=hin.rq
 have J:=hin.nk
 have L:=hin.pk
 refine bf kr Tryz.func88 U U fun O Q hQ hN=>?_
 try dsimp only
 refine WS fun _ D=>ej U fun N=>aU 1 U<|RK D<|WS fun _ A=>rP 7 [0,1] (mr 4 U (mc 0 U mn)) ?_
 refine bX (xs:=[.tmp 10]) (cs:=[(vI n.ax)]) U cK g6 U U U U (by simp [Value.cells]) U U fun G=>?_
 refine rS (CL (cz.eq (im 0 ((d.ak.length:Int)-1) ([n.ax]) (some ⟨G,0,none⟩) 1 sd) bR) (aK (aH 0 U U (by simp [bq]) U)<|av) U) ?_
 refine rP 2 [] mn ?_
 refine bx (t:=14) U (aP fun B=>?_) (aO fun B=>?_)
 ·refine rP 15 [] mn ?_
  refine RK A<|an<|Q1 hQ U U U ?_
  first|(refine cB ?_; rw [aD (fun q:cb d.ak n=>by unfold cb at q; omega)]; rfl)|(refine cB ?_; refine congrArg Bool.not (eH.2 ?_); unfold cb; omega)
 refine rP 2 [] (mc 1 U mn) ?_
 refine rS (SX (fP (m:=n.Kind) U U vX oe (eo (by first|assumption|omega))) U U)<|bX (xs:=[.tmp 17]) (cs:=[(vI n.Kind)]) U cK g6 U U U U (by simp [Value.cells]) U U fun H=>?_
 refine rS (CL (cz.eq (im 1 3 ([n.Kind]) (some ⟨H,0,none⟩) 1 sd) bR) (aK (aH 0 U U (by simp [bq]) U)<|av) U) ?_
 refine rP 3 [] mn ?_
 refine bx (t:=22) U (aP fun C=>?_) (aO fun C=>?_)
 ·refine rP 7 [] mn ?_
  refine RK A<|an<|Q1 hQ U U U ?_
  first|(refine cB ?_; rw [aD (fun q:cb d.ak n=>by unfold cb at q; omega)]; rfl)|(refine cB ?_; refine congrArg Bool.not (eH.2 ?_); unfold cb; omega)
 refine rP 2 [] (mc 2 U mn) ?_
 refine bX (xs:=[.tmp 24]) (cs:=[(vI n.g_)]) U cK g6 U U U U (by simp [Value.cells]) U U fun AA=>?_
 refine rS (CL (cz.eq (im 0 36000 ([n.g_]) (some ⟨AA,0,none⟩) 1 sd) bR) (aK (aH 0 U U (by simp [bq]) U)<|av) U) ?_
 refine rP 3 [] mn ?_
 refine RK A<|an<|Q1 hQ U U U ?_
 first|(refine cB ?_; rw [aD (fun q:cb d.ak n=>by unfold cb at q; omega)]; rfl)|(refine cB ?_; refine congrArg Bool.not (eH.2 ?_); unfold cb; omega)
theorem xY (l:List cH) (lA:OA) (lC:Nat) (f:Value) (p:cH→Bool) (X:au) (hf: ∀ x0,x0∈l→sR Tryz.prog f [.agg (cH.cells x0).toArray] [X] (.bool (p x0))) (hlen:l.length≤1000000):
 cz Tryz.prog 126 [(vS lA l.length lC),f] [(rd lA l.length 3 (l.map cH.cells)),X] (vI (eD p l)):=by
 refine bf kr Tryz.func126 U U fun S Q hQ hN=>?_
 try dsimp only
 refine WS fun _ H=>aU 1 U<|RK H<|al fun _ AA=>WS fun _ J=>rP 3 [] mn ?_
 refine RK J<|ar ?_
 have B:(0≤l.length)∧((l.take 0).any p=false):=by simp
 refine br (ι:={z:Nat // (z≤l.length)∧((l.take z).any p=false)}) [0,1,7] [0,1] U U (fun z=>[(8,(vI (z.1:Int)))]) (fun z=>[]) (fun _=>rfl) (fun _=>rfl) (fun z=>l.length-z.1) ⟨0,B⟩ (bg U) (aN [0,1]) ?_
 clear B
 rintro ⟨i,⟨O,A⟩⟩ J4 G
 try dsimp only
 refine WS fun _ K=>rP 1 [] mn ?_
 refine RK K<|al fun _ L=>bH U (aL fun R=>?_) (aM fun R=>?_)
 ·refine bo<|ai<|ai<|aw<|KK AA<|WS fun _ E=>rP 1 [] mn ?_
  refine RK E<|an<|Q1 hQ U U U ?_
  first|exact cI (jH hx hp A).symm|exact cI (hH om A).symm
 refine WK L<|al fun _ M=>ar<|WS fun _ N=>aU 2 U<|RK N<|WS fun _ C=>rP 3 [] mn ?_
 obtain ⟨x,hx⟩:=bh l i om
 have P:=bp cH.cells hx
 refine rS (IA i U (ay 0 U) DS dc om om)<|rS (jq i 0 (cH.cells x) U bQ (ay 0 U) P U dc U U)<|rS (SX (kb U U U (hf x (aG hx)) (aX [1])) U U)<|RK C<|cd U (fun hp=>?_) (fun hp=>?_)
 ·refine WS fun _ D=>rP 2 [] mn ?_
  refine RK D<|an<|Q1 hQ U U U ?_
  first|exact cI (jH hx hp A).symm|exact cI (hH om A).symm
 refine bS<|aI<|KK M<|ao<|rP 2 [] mn ?_
 refine aB ?_
 have F:(vI (((i+1):Nat):Int))=(vI ((i:Int)+1)):=by exact cI om
 refine aY (G ⟨(i+1),⟨om,lY hx A hp⟩⟩ _ _ _ U os (b_ 3<|aR U F<|cL.nil _) (aN [0,1]))
theorem sN (l:List cH) (lA:OA) (lC:Nat) (f:Value) (p:cH→Bool) (X:au) (hf: ∀ x0,x0∈l→sR Tryz.prog f [.agg (cH.cells x0).toArray] [X] (.bool (p x0))) (hlen:l.length≤1000000):
 cz Tryz.prog 87 [(vS lA l.length lC),f] [(rd lA l.length 3 (l.map cH.cells)),X] (vB (l.any p)):=by
 refine bf kr Tryz.func87 U U fun C Q hQ hN=>?_
 try dsimp only
 refine WS fun _ A=>aU 1 U<|RK A<|WS fun _ B=>aU 2 U<|rS (CL (xY l lA lC f p X (by exact hf) hlen) (aX [0,1]) U)<|rP 2 [] mn ?_
 refine RK B<|an<|Q1 hQ U U U ?_
 exact cB kB
end
section
open Go.RowKit
theorem ux (d:ah) (kA:OA) (kC:Nat) (pA:OA) (pC:Nat) (nA:OA) (nC:Nat) (hin:fk d):
 cz Tryz.prog 47 [(vA (aW.cells (aW.mk (ag.mk (aJ.mk kA d.ak.length kC)) (aJ.mk pA d.aA.length pC) (aJ.mk nA d.bk.length nC) d.bM d.bP)))] [(rd kA d.ak.length 9 (d.ak.map ab.cells)),(rd pA d.aA.length 7 (d.aA.map aj.cells)),(rd nA d.bk.length 3 (d.bk.map cH.cells))] (vI (du d)):=by
 have B9:=hin.jP
 have Bs:=hin.side
 have C0:=hin.sG
 have Cp:=hin.rq
 have u:=hin.nk
 have Bf:=hin.pk
 refine bf kr Tryz.func47 U U fun w0 Q hQ hN=>?_
 try dsimp only
 refine WS fun _ A3=>ej U fun N=>aU 1 U<|RK A3<|al fun _ A4=>WS fun _ A5=>rP 1 [] mn ?_
 refine rS (LP (ag.cells (ag.mk (aJ.mk kA d.ak.length kC))) 0 U bQ U U U) ?_
 refine rS (CL (kN d.ak kA kC sd sd) (aX [1]) U) ?_
 refine aU 1 U<|RK A5<|WS fun _ A6=>rP 2 [] mn ?_
 refine RK A6<|cd U (aP fun E=>?_) (aO fun E=>?_)
 ·refine WS fun _ A7=>rP 2 [] mn ?_
  refine RK A7<|an<|Q1 hQ U U U ?_
  first|(refine cI ?_; rw [(er E).2,ec (er E).1])|exact cI (a6 A fun q=>by have:=q.len; omega).symm|exact cI (a6 A fun q=>by exact absurd q.dm (by simpa using B)).symm|exact cI (a6 A fun q=>by exact B q.dm).symm|exact cI (a6 A fun q=>by have:=q.eT; omega).symm|exact cI (a6 A fun q=>by have G:=q.post i p hp; unfold db at G; first|omega|exact absurd G.2.2.1 (by simpa using F)|exact F G.2.2.1).symm|exact cI (a6 A fun q=>by rw [df.2 q.g0] at C; cases C).symm|exact cI (ef A (cp om (by simpa using B) om D om (df.1 (by simpa using C)))).symm
 refine WK A4<|WS fun _ A8=>?_
 have A:=qL E
 refine rS (FU U)<|aU 1 U<|RK A8<|al fun _ A9=>WS fun _ J=>rP 5 [] (mc 0 U mn) ?_
 refine bx (t:=19) U (aM fun AH=>?_) (aL fun AH=>?_)
 ·refine aU 19 U<|RK J<|aC U<|WS fun _ P=>rP 1 [] mn ?_
  refine RK P<|an<|Q1 hQ U U U ?_
  first|(refine cI ?_; rw [(er E).2,ec (er E).1])|exact cI (a6 A fun q=>by have:=q.len; omega).symm|exact cI (a6 A fun q=>by exact absurd q.dm (by simpa using B)).symm|exact cI (a6 A fun q=>by exact B q.dm).symm|exact cI (a6 A fun q=>by have:=q.eT; omega).symm|exact cI (a6 A fun q=>by have G:=q.post i p hp; unfold db at G; first|omega|exact absurd G.2.2.1 (by simpa using F)|exact F G.2.2.1).symm|exact cI (a6 A fun q=>by rw [df.2 q.g0] at C; cases C).symm|exact cI (ef A (cp om (by simpa using B) om D om (df.1 (by simpa using C)))).symm
 refine rP 6 [] (mc 0 U mn) ?_
 refine bx (t:=25) U (aM fun AR=>?_) (aL fun AR=>?_)
 ·refine aU 13 U<|RK J<|aC U<|WS fun _ R=>rP 1 [] mn ?_
  refine RK R<|an<|Q1 hQ U U U ?_
  first|(refine cI ?_; rw [(er E).2,ec (er E).1])|exact cI (a6 A fun q=>by have:=q.len; omega).symm|exact cI (a6 A fun q=>by exact absurd q.dm (by simpa using B)).symm|exact cI (a6 A fun q=>by exact B q.dm).symm|exact cI (a6 A fun q=>by have:=q.eT; omega).symm|exact cI (a6 A fun q=>by have G:=q.post i p hp; unfold db at G; first|omega|exact absurd G.2.2.1 (by simpa using F)|exact F G.2.2.1).symm|exact cI (a6 A fun q=>by rw [df.2 q.g0] at C; cases C).symm|exact cI (ef A (cp om (by simpa using B) om D om (df.1 (by simpa using C)))).symm
 refine rP 2 [] mn ?_
 refine rS (LP (ae.cells d.bM) 0 U bQ U U U) ?_
 refine rS (CL (rU d.bM d kA kC pA pC nA nC N hin sd) (aX [1,2,3,0]) U) ?_
 refine rP 3 [] mn ?_
 refine bx (t:=32) U (aP fun B=>?_) (aO fun B=>?_)
 ·refine aU 6 U<|RK J<|aC U<|WS fun _ S=>rP 1 [] mn ?_
  refine RK S<|an<|Q1 hQ U U U ?_
  first|(refine cI ?_; rw [(er E).2,ec (er E).1])|exact cI (a6 A fun q=>by have:=q.len; omega).symm|exact cI (a6 A fun q=>by exact absurd q.dm (by simpa using B)).symm|exact cI (a6 A fun q=>by exact B q.dm).symm|exact cI (a6 A fun q=>by have:=q.eT; omega).symm|exact cI (a6 A fun q=>by have G:=q.post i p hp; unfold db at G; first|omega|exact absurd G.2.2.1 (by simpa using F)|exact F G.2.2.1).symm|exact cI (a6 A fun q=>by rw [df.2 q.g0] at C; cases C).symm|exact cI (ef A (cp om (by simpa using B) om D om (df.1 (by simpa using C)))).symm
 refine rP 2 [] (mc 0 U mn) ?_
 refine bX (xs:=[.tmp 34]) (cs:=[(vI d.bP)]) U cK g6 U U U U (by simp [Value.cells]) U U fun v=>?_
 refine rS (CL (cz.eq (im 0 400000 ([d.bP]) (some ⟨v,0,none⟩) 1 sd) bR) (aK (aH 0 U U (by simp [bq]) U)<|av) U) ?_
 refine rP 2 [] mn ?_
 refine RK J<|cd U (aP fun Ak=>?_) (aO fun Ak=>?_)
 ·refine WS fun _ T=>rP 1 [] mn ?_
  refine RK T<|an<|Q1 hQ U U U ?_
  first|(refine cI ?_; rw [(er E).2,ec (er E).1])|exact cI (a6 A fun q=>by have:=q.len; omega).symm|exact cI (a6 A fun q=>by exact absurd q.dm (by simpa using B)).symm|exact cI (a6 A fun q=>by exact B q.dm).symm|exact cI (a6 A fun q=>by have:=q.eT; omega).symm|exact cI (a6 A fun q=>by have G:=q.post i p hp; unfold db at G; first|omega|exact absurd G.2.2.1 (by simpa using F)|exact F G.2.2.1).symm|exact cI (a6 A fun q=>by rw [df.2 q.g0] at C; cases C).symm|exact cI (ef A (cp om (by simpa using B) om D om (df.1 (by simpa using C)))).symm
 refine WK A9<|WS fun _ AA=>aU 1 U<|RK AA<|al fun _ V=>WS fun _ W=>rP 4 [] (mc 1 U mn) ?_
 refine RK W<|ar ?_
 have AB:(0≤d.aA.length)∧(jt d 0):=by exact ⟨Nat.zero_le _,qI⟩
 have o:(vI (jl d.aA 0))=(vI (-1)):=by rw [jd rfl]
 refine br (ι:={z:Nat // (z≤d.aA.length)∧(jt d z)}) [1,4,40,41] [1,2,3,4] U U (fun z=>[(5,(vI (jl d.aA z.1))),(42,(vI (z.1:Int)))]) (fun z=>[]) (fun _=>rfl) (fun _=>rfl) (fun z=>d.aA.length-z.1) ⟨0,AB⟩ (aR U o<|bg U) (aN [1,2,3,4]) ?_
 clear AB
 rintro ⟨i,⟨L,D⟩⟩ J19 O
 try dsimp only
 refine WS fun _ X=>rP 1 [] mn ?_
 refine RK X<|al fun _ Y=>bH U (aL fun AO=>?_) (aM fun AO=>?_)
 ·refine bo<|ai<|ai<|aw<|KK V<|al fun _ j=>WS fun _ k=>rP 2 [] (mc 0 U mn) ?_
  refine rS (FU U) ?_
  refine rS (CL (sN d.bk nA nC (Value.func (.func 88) [].toArray [(vP N)].toArray) (fun M=>(!(decide (cb d.ak M)))) (ky [(rd kA d.ak.length 9 (d.ak.map ab.cells)),(rd pA d.aA.length 7 (d.aA.map aj.cells)),(rd nA d.bk.length 3 (d.bk.map cH.cells)),(bm N 39 (aW.cells (aW.mk (ag.mk (aJ.mk kA d.ak.length kC)) (aJ.mk pA d.aA.length pC) (aJ.mk nA d.bk.length nC) d.bM d.bP)))]) (by intro M K; exact hZ (fi:=[]) (ca:=[(vP N)]) (gu (CQ M d kA kC pA pC nA nC N (by first|assumption|exact u _ K|omega) (by first|assumption|exact u _ K|omega)) (aX [0,1,2,3]))) sd) (eM 3 U U<|aK (gJ (aX [1,2,3,0]))<|av) U) ?_
  refine RK k<|cd U (fun C=>?_) (fun C=>?_)
  ·refine WS fun _ l=>rP 1 [] mn ?_
   refine RK l<|an<|Q1 hQ U U U ?_
   first|(refine cI ?_; rw [(er E).2,ec (er E).1])|exact cI (a6 A fun q=>by have:=q.len; omega).symm|exact cI (a6 A fun q=>by exact absurd q.dm (by simpa using B)).symm|exact cI (a6 A fun q=>by exact B q.dm).symm|exact cI (a6 A fun q=>by have:=q.eT; omega).symm|exact cI (a6 A fun q=>by have G:=q.post i p hp; unfold db at G; first|omega|exact absurd G.2.2.1 (by simpa using F)|exact F G.2.2.1).symm|exact cI (a6 A fun q=>by rw [df.2 q.g0] at C; cases C).symm|exact cI (ef A (cp om (by simpa using B) om D om (df.1 (by simpa using C)))).symm
  refine WK j<|WS fun _ n=>rP 1 [] mn ?_
  refine RK n<|an<|Q1 hQ U U U ?_
  first|(refine cI ?_; rw [(er E).2,ec (er E).1])|exact cI (a6 A fun q=>by have:=q.len; omega).symm|exact cI (a6 A fun q=>by exact absurd q.dm (by simpa using B)).symm|exact cI (a6 A fun q=>by exact B q.dm).symm|exact cI (a6 A fun q=>by have:=q.eT; omega).symm|exact cI (a6 A fun q=>by have G:=q.post i p hp; unfold db at G; first|omega|exact absurd G.2.2.1 (by simpa using F)|exact F G.2.2.1).symm|exact cI (a6 A fun q=>by rw [df.2 q.g0] at C; cases C).symm|exact cI (ef A (cp om (by simpa using B) om D om (df.1 (by simpa using C)))).symm
 refine WK Y<|al fun _ Z=>ar<|WS fun _ a=>?_
 obtain ⟨p,hp⟩:=bh d.aA i om
 have Bl:=bp aj.cells hp
 refine rS (IA i U (ay 2 U) sH dc om om)<|rS (jq i 0 (aj.cells p) U bQ (ay 2 U) Bl U dc U U)<|AL U zH fun Ck=>eC U CN U<|RK a<|al fun _ b=>WS fun _ H=>?_
 have Cx:=yT L D
 have Ci:=Bf p (aG hp)
 refine rP 4 [] (mc 0 U mn) ?_
 refine bX (xs:=[.tmp 49]) (cs:=[(vI p.Id)]) U cK g6 U U U U (by simp [Value.cells]) U U fun w=>?_
 refine rS (CL (cz.eq (im ((jl d.aA i)+1) 9999 ([p.Id]) (some ⟨w,0,none⟩) 1 sd) bR) (aK (aH 0 U U (by simp [bq]) U)<|av) U) ?_
 refine rP 2 [] mn ?_
 refine bx (t:=53) U (aP fun Ay=>?_) (aO fun Ay=>?_)
 ·refine aU 28 U<|RK H<|aC U<|WS fun _ c=>rP 1 [] mn ?_
  refine RK c<|an<|Q1 hQ U U U ?_
  first|(refine cI ?_; rw [(er E).2,ec (er E).1])|exact cI (a6 A fun q=>by have:=q.len; omega).symm|exact cI (a6 A fun q=>by exact absurd q.dm (by simpa using B)).symm|exact cI (a6 A fun q=>by exact B q.dm).symm|exact cI (a6 A fun q=>by have:=q.eT; omega).symm|exact cI (a6 A fun q=>by have G:=q.post i p hp; unfold db at G; first|omega|exact absurd G.2.2.1 (by simpa using F)|exact F G.2.2.1).symm|exact cI (a6 A fun q=>by rw [df.2 q.g0] at C; cases C).symm|exact cI (ef A (cp om (by simpa using B) om D om (df.1 (by simpa using C)))).symm
 refine rP 2 [] (mc 1 U mn) ?_
 refine rS (SX (fP (m:=p.Kind) U U vX oe (eo (by first|assumption|omega))) U U)<|bX (xs:=[.tmp 56]) (cs:=[(vI p.Kind)]) U cK g6 U U U U (by simp [Value.cells]) U U fun x=>?_
 refine rS (CL (cz.eq (im 1 3 ([p.Kind]) (some ⟨x,0,none⟩) 1 sd) bR) (aK (aH 0 U U (by simp [bq]) U)<|av) U) ?_
 refine rP 3 [] mn ?_
 refine bx (t:=61) U (aP fun A0=>?_) (aO fun A0=>?_)
 ·refine aU 20 U<|RK H<|aC U<|WS fun _ e=>rP 1 [] mn ?_
  refine RK e<|an<|Q1 hQ U U U ?_
  first|(refine cI ?_; rw [(er E).2,ec (er E).1])|exact cI (a6 A fun q=>by have:=q.len; omega).symm|exact cI (a6 A fun q=>by exact absurd q.dm (by simpa using B)).symm|exact cI (a6 A fun q=>by exact B q.dm).symm|exact cI (a6 A fun q=>by have:=q.eT; omega).symm|exact cI (a6 A fun q=>by have G:=q.post i p hp; unfold db at G; first|omega|exact absurd G.2.2.1 (by simpa using F)|exact F G.2.2.1).symm|exact cI (a6 A fun q=>by rw [df.2 q.g0] at C; cases C).symm|exact cI (ef A (cp om (by simpa using B) om D om (df.1 (by simpa using C)))).symm
 refine rP 2 [] mn ?_
 refine rS (LP (ae.cells p.de) 2 U bQ U U U) ?_
 refine rS (CL (rU p.de d kA kC pA pC nA nC N hin sd) (aX [4,5,6,3]) U) ?_
 refine rP 3 [] mn ?_
 refine bx (t:=68) U (aP fun F=>?_) (aO fun F=>?_)
 ·refine aU 13 U<|RK H<|aC U<|WS fun _ f=>rP 1 [] mn ?_
  refine RK f<|an<|Q1 hQ U U U ?_
  first|(refine cI ?_; rw [(er E).2,ec (er E).1])|exact cI (a6 A fun q=>by have:=q.len; omega).symm|exact cI (a6 A fun q=>by exact absurd q.dm (by simpa using B)).symm|exact cI (a6 A fun q=>by exact B q.dm).symm|exact cI (a6 A fun q=>by have:=q.eT; omega).symm|exact cI (a6 A fun q=>by have G:=q.post i p hp; unfold db at G; first|omega|exact absurd G.2.2.1 (by simpa using F)|exact F G.2.2.1).symm|exact cI (a6 A fun q=>by rw [df.2 q.g0] at C; cases C).symm|exact cI (ef A (cp om (by simpa using B) om D om (df.1 (by simpa using C)))).symm
 refine rP 2 [] (mc 2 U mn) ?_
 refine bX (xs:=[.tmp 70]) (cs:=[(vI p.j7)]) U cK g6 U U U U (by simp [Value.cells]) U U fun y=>?_
 refine rS (CL (cz.eq (im 0 36000 ([p.j7]) (some ⟨y,0,none⟩) 1 sd) bR) (aK (aH 0 U U (by simp [bq]) U)<|av) U) ?_
 refine rP 3 [] mn ?_
 refine bx (t:=75) U (aP fun A1=>?_) (aO fun A1=>?_)
 ·refine aU 6 U<|RK H<|aC U<|WS fun _ g=>rP 1 [] mn ?_
  refine RK g<|an<|Q1 hQ U U U ?_
  first|(refine cI ?_; rw [(er E).2,ec (er E).1])|exact cI (a6 A fun q=>by have:=q.len; omega).symm|exact cI (a6 A fun q=>by exact absurd q.dm (by simpa using B)).symm|exact cI (a6 A fun q=>by exact B q.dm).symm|exact cI (a6 A fun q=>by have:=q.eT; omega).symm|exact cI (a6 A fun q=>by have G:=q.post i p hp; unfold db at G; first|omega|exact absurd G.2.2.1 (by simpa using F)|exact F G.2.2.1).symm|exact cI (a6 A fun q=>by rw [df.2 q.g0] at C; cases C).symm|exact cI (ef A (cp om (by simpa using B) om D om (df.1 (by simpa using C)))).symm
 refine rP 2 [] (mc 3 U mn) ?_
 refine bX (xs:=[.tmp 77]) (cs:=[(vI p.nd)]) U cK g6 U U U U (by simp [Value.cells]) U U fun AC=>?_
 refine rS (CL (cz.eq (im 1 1000 ([p.nd]) (some ⟨AC,0,none⟩) 1 sd) bR) (aK (aH 0 U U (by simp [bq]) U)<|av) U) ?_
 refine rP 2 [] mn ?_
 refine RK H<|bH U (aO fun A2=>?_) (aP fun A2=>?_)
 ·refine WK b<|ao<|dE 3 [] (mc 4 U mn) U<|aB<|aI<|KK Z<|ao<|rP 2 [] mn ?_
  refine aB ?_
  have r:(vI (jl d.aA (i+1)))=(vI p.Id):=by rw [uA hp]
  have s:(vI (((i+1):Nat):Int))=(vI ((i:Int)+1)):=by exact cI om
  refine aY (O ⟨(i+1),⟨om,nj D hp (by unfold db; exact ⟨om,om,by simpa using F,om,om⟩)⟩⟩ _ _ _ U os (b_ 4<|aR U r<|aR U s<|cL.nil _) (aN [5,6,7,8]))
 refine WS fun _ h=>rP 1 [] mn ?_
 refine RK h<|an<|Q1 hQ U U U ?_
 first|(refine cI ?_; rw [(er E).2,ec (er E).1])|exact cI (a6 A fun q=>by have:=q.len; omega).symm|exact cI (a6 A fun q=>by exact absurd q.dm (by simpa using B)).symm|exact cI (a6 A fun q=>by exact B q.dm).symm|exact cI (a6 A fun q=>by have:=q.eT; omega).symm|exact cI (a6 A fun q=>by have G:=q.post i p hp; unfold db at G; first|omega|exact absurd G.2.2.1 (by simpa using F)|exact F G.2.2.1).symm|exact cI (a6 A fun q=>by rw [df.2 q.g0] at C; cases C).symm|exact cI (ef A (cp om (by simpa using B) om D om (df.1 (by simpa using C)))).symm
end
section
open Go.RowKit
theorem nq (l:List Int) (lA:OA) (lC:Nat) (hl: ∀ x∈l,-1000000000≤x∧x≤1000000000) (hlen:l.length≤1000000):
 cz Tryz.prog 128 [(vS lA l.length lC)] [(rd lA l.length 1 (l.map iC))] (vI (kf l)):=by
 refine bf kr Tryz.func128 U U fun T Q hQ hN=>?_
 try dsimp only
 refine WS fun _ H=>aU 1 U<|RK H<|WS fun _ AA=>aU 1 U<|RK AA<|al fun _ J=>WS fun _ K=>rP 3 [] mn ?_
 refine RK K<|ar ?_
 have A:(0≤l.length):=by exact Nat.zero_le _
 have N:(vI (kf (l.take 0)))=(vI 0):=by rfl
 refine br (ι:={z:Nat // (z≤l.length)}) [6,7] [0] U U (fun z=>[(3,(vI (kf (l.take z.1)))),(8,(vI (z.1:Int)))]) (fun z=>[]) (fun _=>rfl) (fun _=>rfl) (fun z=>l.length-z.1) ⟨0,A⟩ (aR U N<|bg U) (aN [0]) ?_
 clear A
 rintro ⟨i,O⟩ J6 G
 try dsimp only
 refine WS fun _ L=>rP 1 [] mn ?_
 refine RK L<|al fun _ M=>bH U (aL fun R=>?_) (aM fun R=>?_)
 ·refine bo<|ai<|ai<|aw<|KK J<|WS fun _ D=>rP 2 [] mn ?_
  refine RK D<|an<|Q1 hQ U U U ?_
  rw [List.take_of_length_le om]
 refine WK M<|al fun _ B=>ar<|WS fun _ C=>?_
 obtain ⟨x,hx⟩:=bh l i om
 have P:=bp iC hx
 refine rS (IA i U (ay 0 U) cK dc om om)<|rS (fT i 0 (vI x) U bQ (ay 0 U) P U dc U)<|rP 1 [] mn ?_
 refine RK C<|ao ?_
 have S:=hl x (aG hx)
 refine aU 3 U<|rS (NG U ⟨om,om⟩)<|rS (SX (Bo U U U U) U U)<|aU 1 U<|aB<|aI<|KK B<|ao<|rP 2 [] mn ?_
 refine aB ?_
 have E:(vI (kf (l.take (i+1))))=(vI (max (max (kf (l.take i)) x) (-x))):=by rw [vJ hx]
 have F:(vI (((i+1):Nat):Int))=(vI ((i:Int)+1)):=by exact cI om
 refine aY (G ⟨(i+1),(by first|omega|(simp only []; omega))⟩ _ _ _ U os (cL.cons U<|cL.cons U<|aR U E<|aR U F<|cL.nil _) (aN [0]))
theorem wS (ts:List ab) (tsA:OA) (tsC:Nat) (s:ae) (k:Int) (hlen:ts.length≤1000000) (hside: ∀ x∈ts,0≤x.ct∧x.ct≤255) (htr:a9 ts=true) (hs:cD ts s) (hk:0≤k∧k<(ts.length:Int)):
 cz Tryz.prog 127 [(vA (ag.cells (ag.mk (aJ.mk tsA ts.length tsC)))),(vA (ae.cells s)),(vI k)] [(rd tsA ts.length 9 (ts.map ab.cells))] (vI (jX ts s k)):=by
 refine bf kr Tryz.func127 U U fun K Q hQ hN=>?_
 try dsimp only
 refine WS fun _ B=>ej U fun H=>ej U fun AA=>aU 1 U<|RK B<|WS fun _ C=>dE 3 [0,1] (mc 1 U (mc 0 U mn)) U<|rS (SX (aS (xs:=[(0,.tmp 12)]) (cs:=(ae.cells (ae.mk k (I.mk 0 0)))) U U (aT GS U)) U U)<|rS (CL (pb ts tsA tsC s (ae.mk k (I.mk 0 0)) hlen hside) (aX [2]) U)<|aU 3 U<|AL U cv fun J=>eC U cn U<|rP 1 [] mn ?_
 refine RK C<|WS fun _ D=>?_
 have F:=fR htr ⟨hs,s8 htr hk⟩
 have E:=ku (bT htr) (cw htr) hs (s8 htr hk)
 have A:=vm htr hs hk
 rw [← F.2] at E A
 refine rP 4 [] (mc 0 U mn) ?_
 refine bX (xs:=[.tmp 18,.tmp 20]) (cs:=[(vI ((eb ts s (ae.mk k (I.mk 0 0))).Lo)),(vI ((eb ts s (ae.mk k (I.mk 0 0))).Hi))]) U cK g6 U U U U (by simp [Value.cells]) U U fun G=>?_
 refine rS (CL (nq ([(eb ts s (ae.mk k (I.mk 0 0))).Lo,(eb ts s (ae.mk k (I.mk 0 0))).Hi]) (some ⟨G,0,none⟩) 2 (by intro x hx; simp only [bZ,List.not_mem_nil,or_false] at hx; omega) sm) (aK (aH 0 U U (by simp [bq]) U)<|av) U) ?_
 refine rP 1 [] mn ?_
 refine RK D<|an<|Q1 hQ U U U ?_
 exact cI A
theorem Ej (ts:List ab) (tsA:OA) (tsC:Nat) (s:ae) (k:Int) (g1:Nat) (hlen:ts.length≤1000000) (hside: ∀ x∈ts,0≤x.ct∧x.ct≤255) (htr:a9 ts=true) (hs:cD ts s) (hk:0≤k∧k<(ts.length:Int)):
 cz Tryz.prog 129 [(vA (ag.cells (ag.mk (aJ.mk tsA ts.length tsC)))),(vA (ae.cells s)),(vI k),(vP g1)] [(rd tsA ts.length 9 (ts.map ab.cells)),(bm g1 124 [(Value.func (.func 127) [].toArray [].toArray)])] (vI (jX ts s (k+1))):=by
 have K:=cw htr
 have J:=hs.1
 have L:=nb (bT htr) hs
 refine bf kr Tryz.func129 U U fun R Q hQ hN=>?_
 try dsimp only
 refine WS fun _ D=>ej U fun M=>ej U fun N=>aU 1 U<|RK D<|al fun _ E=>WS fun _ F=>rP 6 [] (mc 1 U mn) ?_
 refine RK F<|cd U (aM fun C=>?_) (aL fun C=>?_)
 ·refine WS fun _ G=>rP 5 [0,1,2] (mr 3 U (mc 1 U (mc 0 U mn))) ?_
  refine rS (CL (wS ts tsA tsC s (k+1) hlen hside htr hs sd) (aX [2]) U) ?_
  refine rP 1 [] mn ?_
  refine RK G<|an<|Q1 hQ U U U ?_
  first|rfl|(refine cI ?_; unfold jX; rw [if_neg om,A.2.1])
 refine WK E<|WS fun _ H=>dE 5 [0,1] (mc 1 U (mc 0 U mn)) U<|rS (CL (Aj ts tsA tsC s.ax (k+1) hlen hside) (aX [2]) U)<|aU 4 U<|AL U cv fun O=>AL U cv fun P=>oa U cn U<|eC U cn U<|rP 1 [] mn ?_
 refine RK H<|WS fun _ B=>?_
 have A:=kE (f:=s.ax) (t:=k+1) htr ⟨J.1,om,om⟩
 have AA:=fr (bT htr) s.ax.toNat (k+1-s.ax).toNat
 rw [← A.2.1] at AA
 refine rP 7 [0,1] (mc 1 U (mc 2 U mn)) ?_
 refine RK B<|an<|Q1 hQ U U U ?_
 first|rfl|(refine cI ?_; unfold jX; rw [if_neg om,A.2.1])
theorem EB:
 lx Tryz.prog 90 [] [] (fun (x:Nat)=>(vA ((fF.cells (fF.mk (Value.func (.func 127) [].toArray [].toArray)))++(fF.cells (fF.mk (Value.func (.func 129) [].toArray [(vP x)].toArray)))))) (fun (x:Nat)=>True) (fun (x:Nat)=>[(bm x 124 [(Value.func (.func 127) [].toArray [].toArray)])]):=by
 refine dT kr Tryz.func90 U U fun F Q hQ hN=>?_
 try dsimp only
 refine WS fun _ B=>AL U HC fun E=>RK B<|WS fun _ C=>AL U FH fun A=>I_ U Gc U U<|RK C<|WS fun _ D=>rP 1 [] (mc 0 U mn) ?_
 refine rS (SX (aS (xs:=[(0,.tmp 2)]) (cs:=(fF.cells (fF.mk (Value.func (.func 127) [].toArray [].toArray)))) U U (aT CX U)) U U)<|rS (FU U)<|rS (SX (aS (xs:=[(0,.tmp 4)]) (cs:=(fF.cells (fF.mk (Value.func (.func 129) [].toArray [(vP A)].toArray)))) U U (aT CX U)) U U)<|rS (SX (aS (xs:=[(0,.tmp 3),(1,.tmp 5)]) (cs:=((fF.cells (fF.mk (Value.func (.func 127) [].toArray [].toArray)))++(fF.cells (fF.mk (Value.func (.func 129) [].toArray [(vP A)].toArray))))) U U (aT Gx U)) U U)<|oa U Ga U<|RK D<|an<|LX hQ A [0] [0] (mc 1 U mn) U U U U ?_
 trivial
theorem AS (ts:List ab) (tsA:OA) (tsC:Nat) (s:ae) (k:Int) (hlen:ts.length≤1000000) (hside: ∀ x∈ts,0≤x.ct∧x.ct≤255) (htr:a9 ts=true) (hs:cD ts s) (hk:0≤k∧k<(ts.length:Int)):
 cz Tryz.prog 49 [(vA (ag.cells (ag.mk (aJ.mk tsA ts.length tsC)))),(vA (ae.cells s)),(vI k)] [(rd tsA ts.length 9 (ts.map ab.cells))] (vI (ng ts s k)):=by
 have W:=sc htr hs (m:=k) om
 have X:=sc htr hs (m:=k+1) om
 refine bf kr Tryz.func49 U U fun b Q hQ hN=>?_
 try dsimp only
 refine WS fun _ N=>ej U fun Z=>ej U fun a=>aU 1 U<|RK N<|WS fun _ O=>rP 1 [] mn ?_
 refine RK O<|al fun _ P=>WS fun _ R=>cX EB (av) U fun A Y=>?_
 try dsimp only
 refine aU 1 U<|RK R<|ar<|gE 3<|ey fun R10 L=>WS fun _ B=>rS (SX (bJ (r:= .bool true) U U U ig) U U)<|RK B<|al fun _ C=>aC U<|WK C<|al fun _ D=>ar<|WS fun _ E=>rS (SX (iY (vs:=(fF.cells (fF.mk (Value.func (.func 127) [].toArray [].toArray)))) 0 U U U Dc bQ U dc U) U U)<|AL U Ds fun AA=>eC U Dr U<|RK E<|ao<|dE 6 [0,1,2] (mc 0 U (mc 3 U (mc 2 U mn))) U<|rS (CL (wS ts tsA tsC s k hlen hside htr hs hk) (aX [4]) U)<|rS (MX U)<|aU 1 U<|aB<|aI<|KK D<|ao<|rS (SX (bJ (r:= .int .i64 1) U U U (iZ ⟨dc,dc⟩)) U U)<|rP 1 [] mn ?_
 refine RK L<|ey fun R16 M=>WS fun _ F=>rS (SX (bJ (r:= .bool true) U U U ig) U U)<|RK F<|al fun _ G=>aC U<|WK G<|al fun _ H=>ar<|WS fun _ AB=>?_
 refine rS (SX (iY (vs:=(fF.cells (fF.mk (Value.func (.func 129) [].toArray [(vP A)].toArray)))) 1 U U U Dc bQ U dc U) U U)<|AL U Ds fun V=>eC U Dr U<|RK AB<|ao<|dE 6 [0,1,2] (mc 0 U (mc 4 U (mc 3 U mn))) U<|rS (CL (Ej ts tsA tsC s k A hlen hside htr hs hk) (aX [5,2]) U)<|rS (MX U)<|aU 1 U<|aB<|aI<|KK H<|ao<|rS (SX (bJ (r:= .int .i64 2) U U U (iZ ⟨dc,dc⟩)) U U)<|aU 1 U<|RK M<|ey fun R22 T=>WS fun _ J=>rS (SX (bJ (r:= .bool false) U U U ig) U U)<|RK J<|al fun _ S=>bw U<|bo<|ai<|ai<|aw<|KK P<|WS fun _ K=>rP 2 [] mn ?_
 refine RK K<|an<|Q1 hQ U U U ?_
 exact cI (by unfold ng; omega)
end
section
open Go.RowKit
theorem AF (d:ah) (kA:OA) (kC:Nat) (pA:OA) (pC:Nat) (nA:OA) (nC:Nat) (a k:Int) (hin:fk d):
 cz Tryz.prog 18 [(vA (aW.cells (aW.mk (ag.mk (aJ.mk kA d.ak.length kC)) (aJ.mk pA d.aA.length pC) (aJ.mk nA d.bk.length nC) d.bM d.bP))),(vI a),(vI k)] [(rd kA d.ak.length 9 (d.ak.map ab.cells)),(rd pA d.aA.length 7 (d.aA.map aj.cells)),(rd nA d.bk.length 3 (d.bk.map cH.cells))] (vT [(vI (bE d a k)),(vI (bB d a k))]):=by
 have S:=hin.jP
 have R:=hin.side
 have X:=hin.sG
 have V:=hin.rq
 have AA:=hin.nk
 have W:=hin.pk
 refine bf kr Tryz.func18 U U fun c Q hQ hN=>?_
 try dsimp only
 refine WS fun _ AB=>ej U fun b=>aU 2 U<|RK AB<|al fun _ J=>WS fun _ K=>dE 1 [] (mc 0 U mn) U<|rS (CL (ux d kA kC pA pC nA nC hin) (x_ 1 2 3 U U U U U U) U)<|aU 1 U<|RK K<|WS fun _ L=>rP 2 [] mn ?_
 refine RK L<|cd U (aP fun A=>?_) (aO fun A=>?_)
 ·refine WS fun _ M=>rP 3 [] mn ?_
  refine RK M<|an<|Q2 hQ U U U U ?_
  first|(have e:=pB (a:=a) (k:=k) A; rw [e.1,e.2.1]<;>rfl)|(have e:=pE (a:=a) (k:=k) A om; rw [e.1,e.2.1]<;>rfl)|(have e:=nu (k:=k) A om hp; rw [e.1,e.2.1]<;>rfl)
 refine WK J<|al fun _ N=>WS fun _ E=>rP 1 [] mn ?_
 obtain ⟨Z,O⟩:=gI A
 refine rP 4 [] (mc 0 U mn) ?_
 refine bX (xs:=[.tmp 18]) (cs:=[(vI a)]) U cK g6 U U U U (by simp [Value.cells]) U U fun T=>?_
 refine rS (CL (cz.eq (im 0 ((d.aA.length:Int)-1) ([a]) (some ⟨T,0,none⟩) 1 sd) bR) (aK (aH 0 U U (by simp [bq]) U)<|av) U) ?_
 refine rP 2 [] mn ?_
 refine bx (t:=22) U (aP fun G=>?_) (aO fun G=>?_)
 ·refine aU 10 U<|RK E<|aC U<|WS fun _ B=>rP 2 [] mn ?_
  refine RK B<|an<|Q2 hQ U U U U ?_
  first|(have e:=pB (a:=a) (k:=k) A; rw [e.1,e.2.1]<;>rfl)|(have e:=pE (a:=a) (k:=k) A om; rw [e.1,e.2.1]<;>rfl)|(have e:=nu (k:=k) A om hp; rw [e.1,e.2.1]<;>rfl)
 refine rP 6 [] (mc 1 U mn) ?_
 refine bX (xs:=[.tmp 28]) (cs:=[(vI k)]) U cK g6 U U U U (by simp [Value.cells]) U U fun F=>?_
 refine rS (CL (cz.eq (im 0 ((d.ak.length:Int)-1) ([k]) (some ⟨F,0,none⟩) 1 sd) bR) (aK (aH 0 U U (by simp [bq]) U)<|av) U) ?_
 refine rP 2 [] mn ?_
 refine RK E<|cd U (aP fun H=>?_) (aO fun H=>?_)
 ·refine WS fun _ C=>rP 2 [] mn ?_
  refine RK C<|an<|Q2 hQ U U U U ?_
  first|(have e:=pB (a:=a) (k:=k) A; rw [e.1,e.2.1]<;>rfl)|(have e:=pE (a:=a) (k:=k) A om; rw [e.1,e.2.1]<;>rfl)|(have e:=nu (k:=k) A om hp; rw [e.1,e.2.1]<;>rfl)
 refine WK N<|al fun _ D=>dF cx 12 kr<|fQ 1 U<|dS (LP (ag.cells (ag.mk (aJ.mk kA d.ak.length kC))) 2 U bQ U U U)<|dP 3 [] (mc 2 U mn) ?_
 obtain ⟨p,hp⟩:=bh d.aA ((a).toNat) om
 have P:=bp aj.cells hp
 refine dS (IA ((a).toNat) U (ay 4 U) sH dc om om)<|dS (lp ((((a).toNat)*7)+2) U (ay 4 U) (Nat.mul_pos om dc) fh U)<|dS (jq ((a).toNat) 2 (ae.cells p.de) U bQ (ay 4 U) P U dc U U) ?_
 have Y:=(O.post _ p hp).2.2.1
 refine dP 1 [] mn ?_
 refine dS (CL (AS d.ak kA kC p.de k sd sd sd sd sd) (aX [3]) U) ?_
 refine dP 2 [] mn ?_
 refine cj<|RK D<|an<|Q2 hQ U U U U ?_
 first|(have e:=pB (a:=a) (k:=k) A; rw [e.1,e.2.1]<;>rfl)|(have e:=pE (a:=a) (k:=k) A om; rw [e.1,e.2.1]<;>rfl)|(have e:=nu (k:=k) A om hp; rw [e.1,e.2.1]<;>rfl)
end
section
open Go.RowKit
theorem Bx (d:ah) (kA:OA) (kC:Nat) (pA:OA) (pC:Nat) (nA:OA) (nC:Nat) (hin:fk d):
 lx Tryz.prog 91 [(vA (aW.cells (aW.mk (ag.mk (aJ.mk kA d.ak.length kC)) (aJ.mk pA d.aA.length pC) (aJ.mk nA d.bk.length nC) d.bM d.bP)))] [(rd kA d.ak.length 9 (d.ak.map ab.cells)),(rd pA d.aA.length 7 (d.aA.map aj.cells)),(rd nA d.bk.length 3 (d.bk.map cH.cells))] (fun (x:Bool×Int×Nat×(OA)×Nat×(List RA))=>bif x.1 then (vT [(Value.pointer (some ⟨x.2.2.1,0,none⟩)),(vI 0)]) else (vT [(Value.pointer none),(vI x.2.1)])) (fun (x:Bool×Int×Nat×(OA)×Nat×(List RA))=>(x.1=true→(du d=0∧x.2.2.2.2.2.length=d.aA.length))∧(x.1=false→(x.2.1=du d∧ ¬ du d=0))) (fun (x:Bool×Int×Nat×(OA)×Nat×(List RA))=>bif x.1 then [(bm x.2.2.1 188 (dL.cells (dL.mk (aW.mk (ag.mk (aJ.mk kA d.ak.length kC)) (aJ.mk pA d.aA.length pC) (aJ.mk nA d.bk.length nC) d.bM d.bP) (aJ.mk x.2.2.2.1 ((dJ d).length) x.2.2.2.2.1)))),(own x.2.2.2.1 x.2.2.2.2.1 67 1 (List.zipWith eI (dJ d) x.2.2.2.2.2)),(eB (ei jk (dJ d) x.2.2.2.2.2))] else []):=by
 have A2:=hin.jP
 have A0:=hin.side
 have Bl:=hin.sG
 have A8:=hin.rq
 have A7:=hin.nk
 have Bf:=hin.pk
 refine dT kr Tryz.func91 U U fun w0 Q hQ hN=>?_
 try dsimp only
 refine WS fun _ t=>ej U fun b2=>aU 2 U<|RK t<|al fun _ u=>WS fun _ v=>dE 1 [] (mc 0 U mn) U<|rS (CL (ux d kA kC pA pC nA nC hin) (x_ 1 2 3 U U U U U U) U)<|aU 1 U<|RK v<|WS fun _ w=>rP 2 [] mn ?_
 refine RK w<|cd U (aP fun C=>?_) (aO fun C=>?_)
 ·refine WS fun _ y=>rP 3 [] mn ?_
  refine RK y<|an ?_
  refine LX hQ (false,(du d),0,none,0,[]) [] [] mn U (by first|rfl|(show List.all _ _=true; simp only [cond_true,js,List.all_nil,nL,Bool.and_true]; rfl)) U U ?_
  refine ⟨IV,fun _=>?_⟩; first|exact ⟨U,C⟩
 refine WK u<|WS fun _ AC=>?_
 obtain ⟨j,Ak⟩:=gI C
 refine dE 1 [] (mc 0 U mn) U<|rS (SX (aS (xs:=[(0,.tmp 16)]) (cs:=(dL.cells (dL.mk (aW.mk (ag.mk (aJ.mk kA d.ak.length kC)) (aJ.mk pA d.aA.length pC) (aJ.mk nA d.bk.length nC) d.bM d.bP) (aJ.mk none 0 0)))) U U (aT Hr U)) U U)<|ej U fun b8=>aU 1 U<|RK AC<|al fun _ AH=>WS fun _ M=>rP 4 [] (mc 1 U mn) ?_
 refine RK M<|ar<|f_ 67 1<|yR ?_
 have A:(0≤d.aA.length)∧(([]:List RA).length=0):=by exact ⟨Nat.zero_le _,rfl⟩
 refine br (ι:={z:Nat×(List RA)×(OA)×Nat // (z.1≤d.aA.length)∧(z.2.1.length=z.1)}) [1,2,3,5,20,21] [3,4,5,6] U U (fun z=>[(22,(vI (z.1.1:Int)))]) (fun z=>[(eB (ei jk (fM d z.1.1) z.1.2.1)),(own z.1.2.2.1 z.1.2.2.2 67 1 (List.map sC (List.zipWith qQ (fM d z.1.1) z.1.2.1))),(bm b8 188 (dL.cells (dL.mk (aW.mk (ag.mk (aJ.mk kA d.ak.length kC)) (aJ.mk pA d.aA.length pC) (aJ.mk nA d.bk.length nC) d.bM d.bP) (aJ.mk z.1.2.2.1 ((List.zipWith qQ (fM d z.1.1) z.1.2.1).length) z.1.2.2.2))))]) (fun _=>rfl) (fun _=>rfl) (fun z=>d.aA.length-z.1.1) ⟨(0,([]:List RA),none,0),A⟩ (bg U) (aN [3,4,5,6,0,1,2]) ?_
 clear A
 rintro ⟨⟨i,tz,a,c⟩,⟨AB,B⟩⟩ J11 L
 try dsimp only at AB B
 try dsimp only
 refine WS fun _ N=>rP 1 [] mn ?_
 refine RK N<|al fun _ O=>bH U (aL fun r=>?_) (aM fun r=>?_)
 ·refine bo<|ai<|ai<|aw<|KK AH<|al fun _ b=>?_
  have AR:fM d i=dJ d:=by unfold dJ; rw [show i=d.aA.length by omega]
  have l:tz.length=d.aA.length:=by omega
  rw [AR,vr,show (List.zipWith qQ (dJ d) tz).length=(dJ d).length from by rw [List.length_zipWith,nf]; omega]
  refine ao<|rP 3 [] mn ?_
  refine RK b<|an ?_
  refine LX hQ (true,0,b8,a,c,tz) [6,5,4] [] mn U (by first|rfl|(show List.all _ _=true; simp only [cond_true,js,List.all_nil,nL,Bool.and_true]; rfl)) U U ?_
  exact ⟨fun _=>⟨C,l⟩,Ju⟩
 refine WK O<|al fun _ P=>ar<|WS fun _ R=>?_
 obtain ⟨p,hp⟩:=bh d.aA i om
 have Ay:=bp aj.cells hp
 refine rS (IA i U (ay 2 U) sH dc om om)<|rS (jq i 0 (aj.cells p) U bQ (ay 2 U) Ay U dc U U)<|AL U zH fun A3=>eC U CN U<|RK R<|WS fun _ S=>aU 1 U<|RK S<|al fun _ T=>WS fun _ AA=>rP 5 [] (mc 1 U mn) ?_
 refine RK AA<|ar<|f_ 3 1 ?_
 have A:(0≤d.ak.length):=by exact Nat.zero_le _
 refine br (ι:={z:Nat×(OA)×Nat // (z.1≤d.ak.length)}) [1,2,3,5,7,20,21,22,28,29] [1,2,3,4,5,6,7,8] U U (fun z=>[(8,(vS z.1.2.1 ((eQ d p z.1.1).length) z.1.2.2)),(30,(vI (z.1.1:Int)))]) (fun z=>[(own z.1.2.1 z.1.2.2 3 1 ((eQ d p z.1.1).map iC))]) (fun _=>rfl) (fun _=>rfl) (fun z=>d.ak.length-z.1.1) ⟨(0,none,0),A⟩ (bg U) (aN [1,2,3,4,5,6,7,8,0]) ?_
 clear A
 rintro ⟨⟨k,la,lc⟩,D⟩ J21 F
 try dsimp only at D
 try dsimp only
 refine WS fun _ V=>rP 1 [] mn ?_
 refine RK V<|al fun _ W=>bH U (aL fun s=>?_) (aM fun s=>?_)
 ·refine bo<|ai<|ai<|aw<|KK T<|ao ?_
  rw [show eQ d p k=eQ d p d.ak.length from by rw [show k=d.ak.length by omega]]
  refine aU 2 U<|rS (SX (cu U U) U U)<|rP 3 [] (mc 7 U mn) ?_
  refine bX (xs:=[.tmp 61]) (cs:=[(vS la ((eQ d p d.ak.length).length) lc)]) U iO nN U U U U (by simp [Value.cells]) U U fun A6=>?_
  refine eN (es2:=(List.map sC (List.zipWith qQ (fM d (i+1)) (tz++[(la,lc)])))) (m':=(List.zipWith qQ (fM d (i+1)) (tz++[(la,lc)])).length) 7 U U U IU U U sm (aH (es:=List.map sC [(aJ.mk la ((eQ d p d.ak.length).length) lc)]) 0 U U (by simp [x8]) U) (ES _) (by rw [List.length_zipWith,jM om]; omega) (by rw [List.length_zipWith,jM om]; simp only [maxLen]; omega) (by rw [yg hp B,List.map_append]; rfl) sm U fun J K=>?_
  try dsimp only
  refine rS (SX (cu U U) U U)<|aU 1 U<|JI (dL.cells (dL.mk (aW.mk (ag.mk (aJ.mk kA d.ak.length kC)) (aJ.mk pA d.aA.length pC) (aJ.mk nA d.bk.length nC) d.bM d.bP) (aJ.mk J ((List.zipWith qQ (fM d (i+1)) (tz++[(la,lc)])).length) K))) U H0 U U<|aB<|aI<|KK P<|ao<|rP 2 [] mn ?_
  refine aB<|FY (X':=ei jk (fM d (i+1)) (tz++[(la,lc)])) 6 9 U U (xO (a:=(la,lc)) hp B) ?_
  have g:(vI (((i+1):Nat):Int))=(vI ((i:Int)+1)):=by exact cI om
  refine aY (L ⟨((i+1),(tz++[(la,lc)]),J,K),⟨om,by simp; omega⟩⟩ _ _ _ U os (b_ 6<|aR U g<|cL.nil _) (aN [3,4,5,6,0,7,8]))
 refine WK W<|al fun _ G=>ar<|WS fun _ X=>rP 2 [] mn ?_
 refine RK X<|al fun _ Y=>dF cx 10 kr ?_
 have E:=Ak.post i p hp
 unfold db at E
 have AO:=G6 j E.2.2.1 (k:=(k:Int)) om
 have A9:=EF E.2.2.2.2 AO
 refine jA 3 [] (mc 0 U mn) U<|dS (LP (ag.cells (ag.mk (aJ.mk kA d.ak.length kC))) 1 U bQ U U U)<|fQ 1 U<|dS (LP (ae.cells p.de) 0 U bQ U U U)<|dP 1 [] mn ?_
 refine dS (CL (AS d.ak kA kC p.de (k:Int) sd sd (by exact j) (by exact E.2.2.1) sd) (aX [2]) U) ?_
 refine dS (BI U (iF ⟨om,om⟩))<|fQ 1 U<|cj<|RK Y<|al fun _ H=>WS fun _ Z=>aU 1 U<|rS (BI U (zb om om))<|rP 1 [] mn ?_
 refine RK Z<|bH U (aL fun h=>?_) (aM fun h=>?_)
 ·refine WK H<|ao<|dE 4 [] (mc 0 U mn) U<|rS (BI U (oP om om om))<|rP 1 [] mn ?_
  refine bX (xs:=[.tmp 52]) (cs:=[(vI (p.j7+((p.nd*(ng d.ak p.de (k:Int)))/1000)))]) U cK g6 U U U U (by simp [Value.cells]) U U fun A5=>?_
  refine eN (es2:=(List.map iC (eQ d p (k+1)))) (m':=(eQ d p (k+1)).length) 9 U U U od U U sm (aH (es:=List.map iC [(p.j7+((p.nd*(ng d.ak p.de (k:Int)))/1000))]) 0 U U (by simp [bq]) U) (lk _) (by simp only [jJ]; omega) (by simp only [maxLen,jJ]; omega) (by rw [oW,List.map_append]; exact congrArg (fun z=>List.map iC (eQ d p k)++List.map iC [z]) (by unfold j1; omega)) sm U fun n q=>?_
  try dsimp only
  refine aU 1 U<|aB<|aI<|KK G<|ao<|rP 2 [] mn ?_
  refine aB ?_
  have f:(vI (((k+1):Nat):Int))=(vI ((k:Int)+1)):=by exact cI om
  refine aY (F ⟨((k+1),n,q),(by first|omega|(simp only []; omega))⟩ _ _ _ U os (b_ 11<|aR U f<|cL.nil _) (aN [1,2,3,4,5,6,7,8,9]))
 refine ao<|aU 3 U<|RK H<|ao<|dE 4 [] (mc 0 U mn) U<|rS (BI U (oP om om om))<|rP 1 [] mn ?_
 refine bX (xs:=[.tmp 52]) (cs:=[(vI (p.j7+(((p.nd*(ng d.ak p.de (k:Int)))+1000)/1000)))]) U cK g6 U U U U (by simp [Value.cells]) U U fun A4=>?_
 refine eN (es2:=(List.map iC (eQ d p (k+1)))) (m':=(eQ d p (k+1)).length) 9 U U U od U U sm (aH (es:=List.map iC [(p.j7+(((p.nd*(ng d.ak p.de (k:Int)))+1000)/1000))]) 0 U U (by simp [bq]) U) (lk _) (by simp only [jJ]; omega) (by simp only [maxLen,jJ]; omega) (by rw [oW,List.map_append]; exact congrArg (fun z=>List.map iC (eQ d p k)++List.map iC [z]) (by unfold j1; omega)) sm U fun m o=>?_
 try dsimp only
 refine aU 1 U<|aB<|aI<|KK G<|ao<|rP 2 [] mn ?_
 refine aB ?_
 have e:(vI (((k+1):Nat):Int))=(vI ((k:Int)+1)):=by exact cI om
 refine aY (F ⟨((k+1),m,o),(by first|omega|(simp only []; omega))⟩ _ _ _ U os (b_ 11<|aR U e<|cL.nil _) (aN [1,2,3,4,5,6,7,8,9]))
end
section
open Go.RowKit
theorem FO (d:ah) (kA:OA) (kC:Nat) (pA:OA) (pC:Nat) (nA:OA) (nC:Nat) (tA:OA) (tN tC gw:Nat) (l:List Int) (lA:OA) (lC:Nat) (hn:d.aA.length≤8) (hl: ∀ x∈l,0≤x∧x<(d.aA.length:Int)) (hlen:l.length≤1000000):
 cz Tryz.prog 92 [(vP gw),(vS lA l.length lC)] [(rd kA d.ak.length 9 (d.ak.map ab.cells)),(rd pA d.aA.length 7 (d.aA.map aj.cells)),(rd nA d.bk.length 3 (d.bk.map cH.cells)),(bm gw 188 (dL.cells (dL.mk (aW.mk (ag.mk (aJ.mk kA d.ak.length kC)) (aJ.mk pA d.aA.length pC) (aJ.mk nA d.bk.length nC) d.bM d.bP) (aJ.mk tA tN tC)))),(rd lA l.length 1 (l.map iC))] (vI (gH d.aA.length l:Int)):=by
 have S:=sO hn
 refine bf kr Tryz.func92 U U fun V Q hQ hN=>?_
 try dsimp only
 refine WS fun _ H=>aU 1 U<|RK H<|WS fun _ AB=>aU 1 U<|rS (SX (cu U U) U U)<|rP 4 [] (mr 3 U mn) ?_
 refine rS (BI U (zr (i:=d.aA.length) om om)) ?_
 refine aU 2 U<|RK AB<|al fun _ J=>WS fun _ K=>rP 3 [] mn ?_
 refine RK K<|ar ?_
 have A:(0≤l.length):=by exact Nat.zero_le _
 have N:(vI (gH d.aA.length (l.take 0):Int))=(vI (((2^d.aA.length:Nat):Int)-1)):=by exact cI (by show _=((2^d.aA.length:Nat):Int)-1; unfold gH; simp only [List.take_zero,List.foldl_nil]; omega)
 refine br (ι:={z:Nat // (z≤l.length)}) [16,17] [0,1,2,4] U U (fun z=>[(5,(vI (gH d.aA.length (l.take z.1):Int))),(18,(vI (z.1:Int)))]) (fun z=>[]) (fun _=>rfl) (fun _=>rfl) (fun z=>l.length-z.1) ⟨0,A⟩ (aR U N<|bg U) (aN [0,1,2,4]) ?_
 clear A
 rintro ⟨i,O⟩ J6 G
 try dsimp only
 refine WS fun _ L=>rP 1 [] mn ?_
 refine RK L<|al fun _ M=>bH U (aL fun R=>?_) (aM fun R=>?_)
 ·refine bo<|ai<|ai<|aw<|KK J<|WS fun _ D=>rP 2 [] mn ?_
  refine RK D<|an<|Q1 hQ U U U ?_
  rw [List.take_of_length_le om]
 refine WK M<|al fun _ B=>ar<|WS fun _ C=>?_
 obtain ⟨x,hx⟩:=bh l i om
 have P:=bp iC hx
 refine rS (IA i U (ay 3 U) cK dc om om)<|rS (fT i 0 (vI x) U bQ (ay 3 U) P U dc U)<|rP 1 [] mn ?_
 refine RK C<|ao ?_
 have AA:=hl x (aG hx)
 have T:=uc (l:=l.take i) hn
 refine rP 2 [] mn ?_
 refine rS (BI U (zr (i:=(x).toNat) om om)) ?_
 refine rS (BI U (Av (s:=(gH d.aA.length (l.take i))) (i:=((x).toNat)) om U om om))<|aU 1 U<|aB<|aI<|KK B<|ao<|rP 2 [] mn ?_
 refine aB ?_
 have E:(vI ((gH d.aA.length (l.take (i+1)):Nat):Int))=(vI ((mI (gH d.aA.length (l.take i)) ((x).toNat):Nat):Int)):=by rw [An hx]
 have F:(vI (((i+1):Nat):Int))=(vI ((i:Int)+1)):=by exact cI om
 refine aY (G ⟨(i+1),(by first|omega|(simp only []; omega))⟩ _ _ _ U os (cL.cons U<|cL.cons U<|aR U E<|aR U F<|cL.nil _) (aN [0,1,2,3]))
theorem zV (d:ah) (kA:OA) (kC:Nat) (pA:OA) (pC:Nat) (nA:OA) (nC:Nat) (l:List Int) (lA:OA) (lC:Nat) (hin:fk d) (hll:l.length≤1000000):
 lx Tryz.prog 50 [(vA (aW.cells (aW.mk (ag.mk (aJ.mk kA d.ak.length kC)) (aJ.mk pA d.aA.length pC) (aJ.mk nA d.bk.length nC) d.bM d.bP))),(vS lA l.length lC)] [(rd kA d.ak.length 9 (d.ak.map ab.cells)),(rd pA d.aA.length 7 (d.aA.map aj.cells)),(rd nA d.bk.length 3 (d.bk.map cH.cells)),(rd lA l.length 1 (l.map iC))] (fun (x:Bool×Int×Nat×(OA)×Nat×(List RA))=>bif x.1 then (vT [(Value.pointer (some ⟨x.2.2.1,0,none⟩)),(vI (gH d.aA.length l:Int)),(vI 0)]) else (vT [(Value.pointer none),(vI 0),(vI x.2.1)])) (fun (x:Bool×Int×Nat×(OA)×Nat×(List RA))=>(x.1=true→(eR d l=0∧x.2.2.2.2.2.length=d.aA.length))∧(x.1=false→(x.2.1=eR d l∧ ¬ eR d l=0))) (fun (x:Bool×Int×Nat×(OA)×Nat×(List RA))=>bif x.1 then [(bm x.2.2.1 188 (dL.cells (dL.mk (aW.mk (ag.mk (aJ.mk kA d.ak.length kC)) (aJ.mk pA d.aA.length pC) (aJ.mk nA d.bk.length nC) d.bM d.bP) (aJ.mk x.2.2.2.1 ((dJ d).length) x.2.2.2.2.1)))),(own x.2.2.2.1 x.2.2.2.2.1 67 1 (List.zipWith eI (dJ d) x.2.2.2.2.2)),(eB (ei jk (dJ d) x.2.2.2.2.2))] else []):=by
 have w:=hin.jP
 have p:=hin.side
 have Ak:=hin.sG
 have AH:=hin.rq
 have AC:=hin.nk
 have AR:=hin.pk
 refine dT kr Tryz.func50 U U fun w0 Q hQ hN=>?_
 try dsimp only
 refine WS fun _ m=>ej U fun b2=>aU 3 U<|RK m<|WS fun _ AA=>rP 1 [] (mc 0 U mn) ?_
 refine cX (Bx d kA kC pA pC nA nC hin) (x_ 1 2 3 U U U U U U) U fun y4 c=>?_
 obtain ⟨e,y,E,f,g,h⟩:=y4
 cases e
 ·obtain ⟨a,he⟩:=c.2 rfl
  try dsimp only at a he
  subst a
  try dsimp only [cond_true,cond_false,List.cons_append,List.nil_append]
  refine aU 5 U<|RK AA<|al fun _ v=>WS fun _ G=>rP 2 [] mn ?_
  refine RK G<|bH U (aO fun C=>?_) (aP fun C=>?_)
  ·exact absurd C he
  refine WS fun _ H=>rP 4 [] mn ?_
  refine RK H<|an ?_
  refine LX hQ (false,(du d),0,none,0,[]) [] [] mn U (by first|rfl|(show List.all _ _=true; simp only [cond_true,js,List.all_nil,nL,Bool.and_true]; rfl)) U U ?_
  refine ⟨IV,fun _=>?_⟩; first|exact JG (qE (l:=l) he) he|exact Jv (pP (l:=l) he (fun q=>by have u:=q i x hx; unfold jV at u; omega))
 obtain ⟨he,s⟩:=c.1 rfl
 try dsimp only [cond_true,cond_false,List.cons_append,List.nil_append]
 refine aU 5 U<|RK AA<|al fun _ AB=>WS fun _ J=>aU 1 U<|rS (SX (bJ (r:= .bool false) U U U fW) U U)<|RK J<|bw U<|WK AB<|WS fun _ K=>aU 1 U<|RK K<|al fun _ L=>WS fun _ M=>rP 3 [] mn ?_
 refine RK M<|ar ?_
 have B:(0≤l.length)∧(k8 d.aA.length l 0):=by exact ⟨Nat.zero_le _,vc⟩
 have X:(vI (lE l 0))=(vI (-1)):=by rw [qB]
 refine br (ι:={z:Nat // (z≤l.length)∧(k8 d.aA.length l z)}) [1,2,7,20,21] [0,1,2,3,4,5,6,7] U U (fun z=>[(9,(vI (lE l z.1))),(22,(vI (z.1:Int)))]) (fun z=>[]) (fun _=>rfl) (fun _=>rfl) (fun z=>l.length-z.1) ⟨0,B⟩ (aR U X<|bg U) (aN [0,1,2,3,4,5,6,7]) ?_
 clear B
 rintro ⟨i,⟨D,A⟩⟩ J21 F
 try dsimp only
 refine WS fun _ N=>rP 1 [] mn ?_
 refine RK N<|al fun _ O=>bH U (aL fun k=>?_) (aM fun k=>?_)
 ·refine bo<|ai<|ai<|aw<|KK L<|WS fun _ W=>?_
  obtain ⟨A0,o⟩:=gI he
  have Ay:=o.len
  have n:=rR (rE A om)
  refine aU 3 U<|rS (CL (FO d kA kC pA pC nA nC f ((dJ d).length) g E l lA lC om (by exact n) om) (aX [4,5,6,0,7]) U)<|rP 3 [] mn ?_
  refine RK W<|an ?_
  refine LX hQ (true,0,E,f,g,h) [0,1,2] [] mn U (by first|rfl|(show List.all _ _=true; simp only [cond_true,js,List.all_nil,nL,Bool.and_true]; rfl)) U U ?_
  exact ⟨fun _=>⟨rO he (rE A om),s⟩,Ju⟩
 refine WK O<|al fun _ P=>ar<|WS fun _ R=>?_
 obtain ⟨x,hx⟩:=bh l i om
 have t:=bp iC hx
 refine rS (IA i U (ay 7 U) cK dc om om)<|rS (fT i 0 (vI x) U bQ (ay 7 U) t U dc U)<|rP 1 [] mn ?_
 refine RK R<|al fun _ S=>WS fun _ T=>?_
 have AO:=B0 D A
 refine rP 7 [] (mc 3 U mn) ?_
 refine bX (xs:=[.tmp 32]) (cs:=[(vI x)]) U cK g6 U U U U (by simp [Value.cells]) U U fun j=>?_
 refine rS (CL (cz.eq (im ((lE l i)+1) ((d.aA.length:Int)-1) ([x]) (some ⟨j,0,none⟩) 1 sd) bR) (aK (aH 0 U U (by simp [bq]) U)<|av) U) ?_
 refine rP 1 [] mn ?_
 refine RK T<|cd U (aP fun b=>?_) (aO fun b=>?_)
 ·refine WS fun _ V=>rP 3 [] mn ?_
  refine RK V<|an ?_
  refine LX hQ (false,2,0,none,0,[]) [] [] mn U (by first|rfl|(show List.all _ _=true; simp only [cond_true,js,List.all_nil,nL,Bool.and_true]; rfl)) U U ?_
  refine ⟨IV,fun _=>?_⟩; first|exact JG (qE (l:=l) he) he|exact Jv (pP (l:=l) he (fun q=>by have u:=q i x hx; unfold jV at u; omega))
 refine WK S<|ao<|aU 2 U<|aB<|aI<|KK P<|ao<|rP 2 [] mn ?_
 refine aB ?_
 have Y:(vI (lE l (i+1)))=(vI x):=by rw [uV hx]
 have Z:(vI (((i+1):Nat):Int))=(vI ((i:Int)+1)):=by exact cI om
 refine aY (F ⟨(i+1),⟨om,vf A hx (by unfold jV; omega)⟩⟩ _ _ _ U os (b_ 5<|aR U Y<|aR U Z<|cL.nil _) (aN [1,2,3,4,5,6,7,8]))
end
section
open Go.RowKit
def Jo {σ:Type} (w0:World) (P:Program) (l:Nat) (step:σ→List Value→σ→Prop) (J:σ→au→Prop) (Z:au→Prop):Prop:=
 ∀ k x k' A w,step k x k'→J k A→w0.heap.size≤w.heap.size→A.holds w→YieldAt (Fw none) 0 P l x.toArray w fun e w'=>
  (e= .returned (.bool true)∧ ∃ B,J k' B∧Mv A B w w')∨(e= .returned (.bool false)∧ ∃ B,Z B∧Mv A B w w')
def zg {σ:Type} (J:σ→au→Prop) (Z:au→Prop) (fin:σ→Prop) (A0:au) (w0:World) (e:Ending) (w':World):Prop:=
 ∃ v,e= .returned v∧((∃ s B,fin s∧J s B∧Mv A0 B w0 w')∨ ∃ B,Z B∧Mv A0 B w0 w')
structure Ez {σ:Type} (P:Program) (f:FuncId) (fi ca:List Value) (Cp:List au) (s0:σ) (step:σ→List Value→σ→Prop) (fin:σ→Prop):Prop where
 go:ke P f=true
 run: ∀ (l:Nat) (J:σ→au→Prop) (Z:au→Prop) (A0:au) (w:World),Jo w P l step J Z→J s0 A0→A0.holds w→(∀ A∈Cp,A.holds w)→(∀ A∈Cp,wW A0 A.ro)→
  Calls P f (fi++Value.func (.yield l) #[] #[]::ca).toArray w (zg J Z fin A0 w)
theorem IP {σ:Type} {J:σ→au→Prop} {Z:au→Prop} {n:σ} {fin:σ→Prop} {A0 B:au} {w0 w:World} {C:List au} {v:Value} (i:Nat) (hC:C[i]? =some B) (hfin:fin n) (hJ:J n B) (hF:Fo A0 w0 B) (hs:St ⟨A0.wf,fun _=>True⟩ w0 C w):zg J Z fin A0 w0 (.returned v) w:=
 ⟨v,rfl,.inl ⟨n,B,hfin,hJ,hs.holds B (aG hC),hs.keeps,fun b hb=>(hs.own B (aG hC) b hb).symm,hF⟩⟩
theorem zi {σ:Type} {J:σ→au→Prop} {Z:au→Prop} {fin:σ→Prop} {A0 B:au} {w0 w:World} {C:List au} {v:Value} (i:Nat) (hC:C[i]? =some B) (hJ:Z B) (hF:Fo A0 w0 B) (hs:St ⟨A0.wf,fun _=>True⟩ w0 C w):zg J Z fin A0 w0 (.returned v) w:=
 ⟨v,rfl,.inr ⟨B,hJ,hs.holds B (aG hC),hs.keeps,fun b hb=>(hs.own B (aG hC) b hb).symm,hF⟩⟩
theorem B5 {σ:Type} {P:Program} {f:FuncId} {fn:Func} {c:Code} {fi ca:List Value} {Cp:List au} {s0:σ} {step:σ→List Value→σ→Prop} {fin:σ→Prop} (hgo:ke P f=true) (hf:P.funcs[f]? =some fn) (hb:fn.body=some c) (hn:Nat.ble (fi.length+ca.length+1) fn.ntmps=true)
 (h: ∀ (l:Nat) (J:σ→au→Prop) (Z:au→Prop) (A0:au) (w0:World) (Q:cq),Jo w0 P l step J Z→J s0 A0→Fo A0 w0 A0→
  (∀ D L C,LJ ⟨P,none,fn.ntmps,⟨A0.wf,fun _=>True⟩,w0⟩ fn (zg J Z fin A0 w0) D L C→KJ ⟨P,none,fn.ntmps,⟨A0.wf,fun _=>True⟩,w0⟩ (Q .ret) D L C)→
  (∀ D L C,LJ ⟨P,none,fn.ntmps,⟨A0.wf,fun _=>True⟩,w0⟩ fn (zg J Z fin A0 w0) D L C→KJ ⟨P,none,fn.ntmps,⟨A0.wf,fun _=>True⟩,w0⟩ (Q .normal) D L C)→
  WJ ⟨P,none,fn.ntmps,⟨A0.wf,fun _=>True⟩,w0⟩ c Q [] (Fk (fi++Value.func (.yield l) #[] #[]::ca)) (A0::Cp.map au.ro)):Ez P f fi ca Cp s0 step fin:=by
 refine ⟨hgo,fun l J Z A0 w hY hJ hA F E=>?_⟩
 refine vl hf hb (by simpa [Nat.add_assoc] using hn) (h l J Z A0 w · hY hJ (fun b hb=> .inl hb)) ?_
 have G:=nX F
 refine ⟨cQ.refl _ _,fun A hA'=>?_,List.Pairwise.cons (fun B hB=>?_) G.sep,fun A hA' b hb=>?_,fun _ _ _ _=> .inr trivial⟩
 ·rcases bZ.1 hA' with rfl|hA'
  ·exact hA
  ·exact G.holds A hA'
 ·obtain ⟨B',hB',rfl⟩:=cy.1 hB
  exact E B' hB'
 ·rcases bZ.1 hA' with rfl|hA'
  ·exact .inr hb
  ·obtain ⟨B',hB',rfl⟩:=cy.1 hA'
   exact hb.elim
section
variable {E:dW} {ops:Array Oper} {Q:cq} {rest:List Oper} {D:List Deferred} {L:List (Nat×Value)} {C:List au}
variable {d:Nat} {ty:TypeId} {ps:String} {af:Array Edge} {g:Option (Nat×Bool)}
/-- a call of yield -/
theorem p9 {σ:Type} {fop:Operand} {xs:Array Operand} {ts:Array TypeId} {l:Nat} {k k':σ} {vs:List Value} {step:σ→List Value→σ→Prop} {J:σ→au→Prop} {Z:au→Prop} {A0 A:au} {w1:World} (i:Nat) (hw1:w1.heap.size≤E.w0.heap.size) (hY:Jo w1 E.P l step J Z) (hJ:J k A) (hF:Fo A0 w1 A) (hg:gW ops L g=true) (hf:ev L fop=some (.func (.yield l) #[] #[]))
 (hx:evs L xs.toList=some vs) (hk:step k vs k') (hC:C[i]? =some A) (hd:Nat.blt d E.n=true)
 (k1: ∀ B,J k' B→Fo A0 w1 B→RJ E ops Q rest D ((d,.bool true)::L) (C.set i B))
 (k2: ∀ B,Z B→Fo A0 w1 B→RJ E ops Q rest D ((d,.bool false)::L) (C.set i B)):
 RJ E ops Q (⟨some d,.call {callee:= .value fop,args:=xs,argTypes:=ts},ty,ps,af,g⟩::rest) D L C:=by
 intro a w F hs
 have hd':d<E.n:=by rw [← Nat.blt_eq]; exact hd
 unfold nv
 rw [if_pos (dw F hg)]
 have K:xs.map a.eval=vs.toArray:=by
  have:=F.evs hx
  apply Array.ext'
  simp [this]
 obtain ⟨fn,tmps,assign,body,hy,hr⟩:=hY k vs k' A w hk hJ (Nat.le_trans hw1 hs.keeps.size) (hs.holds A (aG hC))
 have H:(execOp a.eval ⟨some d,.call {callee:= .value fop,args:=xs,argTypes:=ts},ty,ps,af,g⟩).run E.P w= .ok (.round l fn tmps assign body) w:=by
  simp [execOp,resolve,F.ev hf,Deferred.ofValue,invoke,K,hy]
 refine ⟨fun _ _=>trivial,?_⟩
 rw [Oper.semAt_eq _ _ _ sm,H]
 refine ⟨fun h=>by simp at h,?_⟩
 have G: ∀ (B:au) (w':World),Mv A B w w'→Fo A0 w1 B:=fun B w' m b hb=>by
  rcases m.dG b hb with AA|AA
  ·exact hF b AA
  ·exact .inr (Nat.le_trans hw1 (Nat.le_trans hs.keeps.size AA))
 have hr':RoundIn (Fw E.r) 0 E.P l fn tmps assign body w _:=hr
 refine hr'.mono fun e w' he=>?_
 rcases he with ⟨rfl,B,hB,m⟩|⟨rfl,B,hB,m⟩
 ·exact k1 B hB (G B w' m) _ _ (F.put hd' _) (hs.mv i hC m)
 ·exact k2 B hB (G B w' m) _ _ (F.put hd' _) (hs.mv i hC m)
end
theorem Ao {σ:Type} {E:dW} {Q:cq} {D:eU} {L L0:cG} {C F:List au} {g:Operand} {ps:Array Tmp} {assign body:Code} {f:FuncId} {fi ca:List Value} {Cp:List au} {s0:σ} {step:σ→List Value→σ→Prop} {fin_:σ→Prop} {ι κ:Type}
 (inv:σ→ι→Prop) (Ci:σ→ι→List au) (invx:Code→κ→Prop) (Cx:Code→κ→List au) (isJ isF:List Nat) (y0:ι)
 (hr:E.r=none) (hg:ev L g=some (.func (.func f) fi.toArray ca.toArray)) (hs:Ez E.P f fi ca Cp s0 step fin_)
 (hnd:decide (isJ++isF).Nodup=true) (hJ:mM C isJ=Ci s0 y0) (hF:mM C isF=F) (h0:inv s0 y0) (hCp: ∀ A∈Cp,∃ B∈F,DV B A)
 (hps: ∀ k x k',step k x k'→x.length=ps.size) (hpn:ps.toList.all (fun t=>Nat.blt t E.n)=true) (hL:cL L L0)
 (round: ∀ (k:σ) (x:List Value) (k':σ) (y:ι) (l:Nat) (ra rb:Loop) (S:BS) (w0:World) (K:Act→World→Prop) (Qr:cq),E.w0.heap.size≤w0.heap.size→step k x k'→inv k y→
  (∀ L' C',WJ ⟨E.P,some l,E.n,S,w0⟩ body Qr [] L' (iH l (.loop rb)::C')→KJ ⟨E.P,some l,E.n,S,w0⟩ K [] L' (iH l (.loop ra)::C'))→
  (∀ y' L' C',inv k' y'→(∀ w,St S w0 C' w→St S w0 (iH l (.loop rb)::Ci k' y') w)→KJ ⟨E.P,some l,E.n,S,w0⟩ (Qr .normal) [] L' C')→
  (∀ id z L' C',invx (.exit id) z→(∀ w,St S w0 C' w→St S w0 (iH l (.loop rb)::Cx (.exit id) z) w)→KJ ⟨E.P,some l,E.n,S,w0⟩ (Qr (.exit id)) [] L' C')→
  (∀ z L' C',invx .ret z→(∀ w,St S w0 C' w→St S w0 (iH l (.loop rb)::Cx .ret z) w)→KJ ⟨E.P,some l,E.n,S,w0⟩ (Qr .ret) [] L' C')→
  WJ ⟨E.P,some l,E.n,S,w0⟩ assign (Exit.then K (fun _ _ _=>False)) [] (uu ps.toList x L0) (iH l (.loop ra)::Ci k y))
 (fin: ∀ r s y,fin_ s→inv s y→KJ E (Q .normal) (gV r::D) L0 (iH r (.deferred (some []))::(F++Ci s y)))
 (finx: ∀ r id z,invx (.exit id) z→KJ E (Q (.exit id)) (gV r::D) L0 (iH r (.deferred (some []))::(F++Cx (.exit id) z)))
 (finr: ∀ r z,invx .ret z→KJ E (Q .ret) (gV r::D) L0 (iH r (.deferred (some []))::(F++Cx .ret z))):WJ E (.rangeFunc g ps assign body) Q D L C:=by
 intro a w hf q
 refine wpIn_rangeFunc fun fn _=>?_
 show ∃ l gV w₁ d w₁' f args w₂,(Instr.enterLoop fn a.tmps ps assign body E.r).run E.P w= .ok (l,gV) w₁∧_
 rw [hr]
 obtain ⟨rec,G⟩: ∃ rec:LoopState→Option Code→Loop,rec=fun st pe=>{state:=st,pending:=pe,fn,tmps:=a.tmps,params:=ps,assign,body,defers:=w.heap.size}:=⟨_,rfl⟩
 obtain ⟨W1,R⟩: ∃ W1,(w.alloc (.deferred (some []))).alloc (.loop (rec .ready none))=W1:=⟨_,rfl⟩
 have Ak:a.eval g= .func (.func f) fi.toArray ca.toArray:=hf.ev hg
 have p:(Instr.enterLoop fn a.tmps ps assign body none).run E.P w= .ok (w.heap.size+1,[gV w.heap.size]) W1:=by
  rw [← R,G]; exact run_enterLoop_outer _ _ _ _ _
 -- the state with the record and the block
 have u:St E.S E.w0 ((iH (w.heap.size+1) (.loop (rec .ready none))::Ci s0 y0)++(iH w.heap.size (.deferred (some []))::F)) W1:=by
  have X:St E.S E.w0 (Ci s0 y0++F) w:=St.mM (isJ++isF) hnd (by have X:=hJ; have j:=hF; unfold Go.Proofs.YtkidpbhlgnalaaaGreat.mM at X j ⊢; rw [List.filterMap_append,X,j]) q
  have hn:Cj w W1 [iH (w.heap.size+1) (.loop (rec .ready none)),iH w.heap.size (.deferred (some []))]:=by
   refine ⟨fun A hA=>?_,fun A hA b hb=>?_,?_⟩
   ·rcases bZ.1 hA with rfl|hA
    ·show W1.heap[w.heap.size+1]? =_
     rw [← R]; have:=World.alloc_heap_new (w.alloc (.deferred (some []))) (.loop (rec .ready none)); rwa [World.size_alloc] at this
    ·simp only [cN] at hA; subst hA
     show W1.heap[w.heap.size]? =_
     rw [← R]; exact (Below.heap_alloc _ _ _ sm).trans (World.alloc_heap_new w _)
   ·rcases bZ.1 hA with rfl|hA
    ·have:b=w.heap.size+1:=hb
     omega
    ·simp only [cN] at hA; subst hA
     have:b=w.heap.size:=hb
     omega
   ·refine List.Pairwise.cons (fun B hB b X j=>?_) (List.pairwise_singleton _ _)
    simp only [cN] at hB; subst hB
    have V:b=w.heap.size+1:=X
    have O:b=w.heap.size:=j
    omega
  have hk:cQ no w W1:=by rw [← R]; exact (cQ.alloc no w _).trans (cQ.alloc no _ _)
  have j:=X.grow hk hn
  refine j.perm ?_
  simp only [List.cons_append,List.nil_append]
  exact List.Perm.cons _ (List.perm_middle.symm)
 have Y:=u.xc
 obtain ⟨H,A3⟩:=List.pairwise_cons.1 Y.sep
 have AO:=Y.holds _ (gk ..)
 let J:σ→au→Prop:=fun k A=> ∃ y,inv k y∧A=eB (iH (w.heap.size+1) (.loop (rec .ready none))::Ci k y)
 let Z:au→Prop:=fun A=> ∃ c z,(c= .ret∨ ∃ id,c= .exit id)∧invx c z∧A=eB (iH (w.heap.size+1) (.loop (rec .done (some c)))::Cx c z)
 refine ⟨w.heap.size+1,[gV w.heap.size],W1,{target:= .fn (.func f) ca.toArray,args:=fi.toArray++ #[.func (.yield (w.heap.size+1)) #[] #[]]},W1,f,
  (fi++Value.func (.yield (w.heap.size+1)) #[] #[]::ca).toArray,W1,p,?_,fun _ _=>trivial,?_,fun h=>by simp at h,?_⟩
 ·simp only [resolve,Ak]
  simp [Deferred.ofValue,Act.eval]
 ·have:fi.toArray++ #[Value.func (.yield (w.heap.size+1)) #[] #[]]++ca.toArray=(fi++Value.func (.yield (w.heap.size+1)) #[] #[]::ca).toArray:=by simp
  simp [invoke,lh hs.go]
 ·refine (lO E.r (hs.run (w.heap.size+1) J Z _ W1 ?_ ⟨y0,h0,U⟩ AO ?_ ?_)).mono ?_
  ·-- a round
   rintro k x k' A W hx ⟨y,hy,rfl⟩ AR hA
   have hl:W.heap[w.heap.size+1]? =some (.loop (rec .ready none)):=hA.1 _ (gk ..)
   have AC:=run_yield (P:=E.P) (args:=x.toArray) hl (by rw [G]; simpa using hps k x k' hx)
   rw [G] at AC
   refine ⟨fn,_,assign,body,AC,roundIn_of_wpIn trivial ?_⟩
   let A:au:=eB (iH (w.heap.size+1) (.loop (rec .ready none))::Ci k y)
   have Ay:Fr E.n [] (uu ps.toList x L0) {tmps:=(ps.zip x.toArray).foldl (fun tmps (t,a)=>tmps.setIfInBounds t a) a.tmps,defers:=[]}:=by
    have X:=zy ps.toList x L0 a.tmps (fun t ht=>by have:=cT.1 hpn t ht; rwa [Nat.blt_eq] at this) ⟨rfl,hf.size,fun t v hv=>hf.at_ t v (hL t v hv)⟩
    rw [← Array.foldl_toList]
    simpa using X
   have o: ∀ (c:Option Code) (b:Bool),({rec .busy none with state:=if b then .ready else .done,pending:=c}:Loop)=rec (if b then .ready else .done) c:=fun c b=>by rw [G]
   have T: ∀ (c:Option Code) (N:World) (C':List au) (S:BS),St S W (iH (w.heap.size+1) (.loop (rec .busy none))::C') N→
    ∃ M,(Instr.endRound (w.heap.size+1) c).run E.P N= .ok (.bool c.isNone) M∧St S W (iH (w.heap.size+1) (.loop (rec (if c.isNone then .ready else .done) c))::C') M:=fun c N C' S H=>by
    have AB:N.heap[w.heap.size+1]? =some (.loop (rec .busy none)):=H.holds _ (gk ..)
    refine ⟨_,run_endRound c AB,?_⟩
    have:=H.vb (b:=w.heap.size+1) (A':=iH (w.heap.size+1) (.loop (rec (if c.isNone then .ready else .done) c))) 0 rfl rfl rfl (fN _) (fun _ h=>h) (World.putObj_heap_same (ee AB))
    rw [o]
    exact this
   refine round k x k' y (w.heap.size+1) (rec .ready none) (rec .busy none) ⟨A.wf,A.dG⟩ W _ (roundPost E.P (w.heap.size+1) (fun e w'=>(e= .returned (.bool true)∧ ∃ B,J k' B∧Mv A B W w')∨(e= .returned (.bool false)∧ ∃ B,Z B∧Mv A B W w'))) (Nat.le_trans (Nat.le_trans q.keeps.size (by rw [← R]; simp; omega)) AR) hx hy ?_ ?_ ?_ ?_ _ _ Ay (St.wR hA)
   ·intro L' C' hW a1 N i H
    have AB:N.heap[w.heap.size+1]? =some (.loop (rec .ready none)):=H.holds _ (gk ..)
    refine ⟨_,run_beginRound AB (by rw [G]),hW _ _ i ?_⟩
    have:=H.vb (b:=w.heap.size+1) (A':=iH (w.heap.size+1) (.loop (rec .busy none))) 0 rfl rfl rfl (fN _) (fun _ h=>h) (World.putObj_heap_same (ee AB))
    have e:({rec .ready none with state:= .busy}:Loop)=rec .busy none:=by rw [G]
    rw [e]; exact this
   ·intro y' L' C' hy' hC' a1 N i H
    obtain ⟨M,V,O⟩:=T none N _ _ (hC' _ H)
    exact ⟨_,M,V,.inl ⟨U,_,⟨y',hy',U⟩,Mv.of O⟩⟩
   ·intro id z L' C' hz hC' a1 N i H
    obtain ⟨M,V,O⟩:=T (some (.exit id)) N _ _ (hC' _ H)
    exact ⟨_,M,V,.inr ⟨U,_,⟨_,z,.inr ⟨id,U⟩,hz,U⟩,Mv.of O⟩⟩
   ·intro z L' C' hz hC' a1 N i H
    obtain ⟨M,V,O⟩:=T (some .ret) N _ _ (hC' _ H)
    exact ⟨_,M,V,.inr ⟨U,_,⟨_,z,.inl U,hz,U⟩,Mv.of O⟩⟩
  ·intro A hA
   obtain ⟨B,hB,hc⟩:=hCp A hA
   exact hc.holds _ (Y.holds B (fA _ (fA _ hB)))
  ·intro A hA b hb hb'
   obtain ⟨B,hB,hc⟩:=hCp A hA
   exact ⟨(H B (fA _ hB) b hb (hc.dG b hb')).1,fun h=>h⟩
  ·rintro e w' ⟨v,rfl,hh⟩
   have AA:Fr E.n (gV w.heap.size::D) L0 {a with defers:=[gV w.heap.size]++a.defers}:=⟨by simp [hf.defers],hf.size,fun t v hv=>hf.at_ t v (hL t v hv)⟩
   have hleave: ∀ (st:LoopState) (c:Option Code) (C':List au),st≠ .busy→Mv (eB (iH (w.heap.size+1) (.loop (rec .ready none))::Ci s0 y0)) (eB (iH (w.heap.size+1) (.loop (rec st c))::C')) W1 w'→
    ∃ M,(Instr.endLoop (w.heap.size+1)).run E.P w'= .ok c M∧St E.S E.w0 (iH w.heap.size (.deferred (some []))::(F++C')) M:=fun st c C' A1 m=>by
    have X:=(Y.mv 0 rfl m).qo
    have h1':St E.S E.w0 ((iH (w.heap.size+1) (.loop (rec st c))::C')++(iH w.heap.size (.deferred (some []))::F)) w':=X
    have AB:w'.heap[w.heap.size+1]? =some (.loop (rec st c)):=h1'.holds (iH (w.heap.size+1) (.loop (rec st c))) sm
    refine ⟨_,by have:=run_endLoop (P:=E.P) AB (by rw [G]; exact A1); rw [this,G],?_⟩
    have j:=h1'.vb (b:=w.heap.size+1) (A':=iH (w.heap.size+1) (.loop {rec st c with state:= .exhausted})) 0 rfl rfl rfl (fN _) (fun _ h=>h) (World.putObj_heap_same (ee AB))
    have h3:St E.S E.w0 (C'++(iH w.heap.size (.deferred (some []))::F)) _:=j.take (List.sublist_cons_self _ _)
    rw [G] at h3
    refine h3.perm ?_
    exact (List.perm_append_comm).trans sm
   rcases hh with ⟨s,B,A0,⟨y,hy,rfl⟩,m⟩|⟨B,⟨c,z,hc,hz,rfl⟩,m⟩
   ·obtain ⟨M,V,O⟩:=hleave .ready none _ sm m
    exact ⟨none,M,V,fin w.heap.size s y A0 hy _ _ AA O⟩
   ·obtain ⟨M,V,O⟩:=hleave .done (some c) _ sm m
    refine ⟨some c,M,V,?_⟩
    rcases hc with rfl|⟨id,rfl⟩
    ·exact wpIn_ret (finr w.heap.size z hz _ _ AA O)
    ·exact wpIn_exit (finx w.heap.size id z hz _ _ AA O)
end
section
open Go.RowKit
abbrev mK (r:Nat):au:=iH r (.deferred (some []))
theorem Bk {E:dW} {c:Code} {Q:cq} {D:eU} {L:cG} {C:List au} {ι:Type} (Di:ι→eU) (Li:ι→cG) (Ci:ι→List au) (μ:ι→Nat) (x0:ι)
 (hD:D=Di x0) (h0:cL L (Li x0)) (hC: ∀ w,St E.S E.w0 C w→St E.S E.w0 (Ci x0) w)
 (round: ∀ x (J:Act→World→Prop),(∀ y D' L' C',D'=Di y→μ y<μ x→cL L' (Li y)→(∀ w,St E.S E.w0 C' w→St E.S E.w0 (Ci y) w)→KJ E J D' L' C')→WJ E c (Exit.then J Q) (Di x) (Li x) (Ci x)):WJ E (.loop c) Q D L C:=by
 intro a w hf hs
 subst hD
 have H: ∃ x,Fr E.n (Di x) (Li x) a∧St E.S E.w0 (Ci x) w:=⟨x0,hf.sub h0,hC w hs⟩
 clear hf hs
 have key: ∀ (m:Nat) (a:Act) (w:World),(∃ x,μ x=m∧Fr E.n (Di x) (Li x) a∧St E.S E.w0 (Ci x) w)→(Code.loop c).wpIn (Fw E.r) 0 E.P Q a w:=by
  intro m a w hx
  refine wpIn_loop (fun a w=> ∃ x,Fr E.n (Di x) (Li x) a∧St E.S E.w0 (Ci x) w) (fun a w=>leastOf fun k=> ∃ x,μ x=k∧Fr E.n (Di x) (Li x) a∧St E.S E.w0 (Ci x) w) (by obtain ⟨x,_,h⟩:=hx; exact ⟨x,h⟩) ?_
  intro a w hx
  have F: ∃ k,∃ x,μ x=k∧Fr E.n (Di x) (Li x) a∧St E.S E.w0 (Ci x) w:=by obtain ⟨x,h⟩:=hx; exact ⟨_,x,rfl,h⟩
  obtain ⟨x,K,AA,M⟩:=(leastOf_spec F).1
  refine round x _ ?_ a w AA M
  intro y D' L' C' hD G A B a' w' hf' hs'
  subst hD
  refine ⟨⟨y,hf'.sub A,B _ hs'⟩,?_⟩
  rw [← K]
  exact Nat.lt_of_le_of_lt ((leastOf_spec ⟨_,y,U,hf'.sub A,B _ hs'⟩).2 _ ⟨y,U,hf'.sub A,B _ hs'⟩) G
 obtain ⟨x,h⟩:=H
 exact key _ a w ⟨x,U,h⟩
theorem St.IF {S:BS} {w0 w:World} {C X:List au} {A:au} (h:St S w0 (A::eB X::C) w):St S w0 (eB (A::X)::C) w:=by
 have B:St S w0 (eB X::A::C) w:=h.perm (List.Perm.swap _ _ _)
 have D:St S w0 ((A::X)++C) w:=B.qo.perm (List.perm_middle (a:=A) (l₁:=X) (l₂:=C))
 exact D.xc
theorem D_ {E:dW} {K:Act→World→Prop} {D:eU} {L:cG} {C C1 X:List au} {A:au} (i j:Nat) (hn:decide (j::i::(List.range C.length).filter fun k=>k != i&&k != j).Nodup=true) (hC:mM C (j::i::(List.range C.length).filter fun k=>k != i&&k != j)=A::eB X::C1)
 (h:KJ E K D L (eB (A::X)::C1)):KJ E K D L C:=fun a w hf hs=>h a w hf ((St.mM _ hn hC hs).IF)
theorem B6 {E:dW} {fn:Func} {R:Ending→World→Prop} {D:eU} {L:cG} {C C1:List au} {rs:List Nat} (i:Nat) (hn:decide (i::(List.range C.length).filter fun k=>k != i).Nodup=true) (hC:mM C (i::(List.range C.length).filter fun k=>k != i)=eB (rs.map mK)::C1)
 (h:LJ E fn R D L C1):LJ E fn R (rs.map gV++D) L C:=by
 have key: ∀ rs:List Nat,LJ E fn R (rs.map gV++D) L (eB (rs.map mK)::C1):=by
  intro rs
  induction rs with
  |nil=>exact fun a w hf hs=>h a w hf (hs.take (List.sublist_cons_self _ _))
  |cons r rs ih=>
   have A:LJ E fn R (gV r::(rs.map gV++D)) L (mK r::eB (rs.map mK)::C1):=oA 0 rfl rfl (fun a w hf hs=>ih a w hf (hs.take (List.sublist_cons_self _ _)))
   intro a w hf hs
   refine A a w hf ?_
   have B:St E.S E.w0 ((mK r::rs.map mK)++C1) w:=St.qo (C1:=mK r::rs.map mK) hs
   have F:St E.S E.w0 (rs.map mK++(mK r::C1)) w:=B.perm (List.perm_middle (a:=mK r) (l₁:=rs.map mK) (l₂:=C1)).symm
   exact F.xc.perm (List.Perm.swap _ _ _)
 exact fun a w hf hs=>key rs a w hf (St.mM _ hn hC hs)
theorem yM {E:dW} {fn:Func} {R:Ending→World→Prop} {L:cG} {C C1:List au} {rs:List Nat} (i:Nat) (hn:decide (i::(List.range C.length).filter fun k=>k != i).Nodup=true) (hC:mM C (i::(List.range C.length).filter fun k=>k != i)=eB (rs.map mK)::C1)
 (h:LJ E fn R [] L C1):LJ E fn R (rs.map gV) L C:=by
 have:=B6 (D:=[]) i hn hC h
 rwa [List.append_nil] at this
end
section
open Go.RowKit
section
variable {K:Type} [DecidableEq K] {kV:K→Value}
variable {E:dW} {ops:Array Oper} {Q:cq} {rest:List Oper} {D:List Deferred} {L:List (Nat×Value)} {C:List au}
variable {ty:TypeId} {ps:String} {af:Array Edge} {g:Option (Nat×Bool)}
theorem u7 {t kt et:TypeId} {xm xk:Operand} {ts:Array TypeId} {b:Nat} {x:K} {m m':List (K×Value)} {C':List au} (i:Nat) (hg:gW ops L g=true) (hm:ev L xm=some (.map (some b))) (hk:ev L xk=some (kV x)) (hts:ts[0]? =some t)
 (ht:E.P.underlying t=some (.map kt et)) (hkt:ui E.P kt kV) (hC:C[i]? =some (nt kV b m)) (hm':eV m x=m') (hC':C.set i (nt kV b m')=C') (k:RJ E ops Q rest D L C'):
 RJ E ops Q (⟨none,.call {callee:= .builtin .delete,args:= #[xm,xk],argTypes:=ts},ty,ps,af,g⟩::rest) D L C:=by
 subst hm' hC'
 intro a w A hs
 unfold nv
 rw [if_pos (dw A hg)]
 obtain ⟨es,c,he,hi⟩:=hs.holds _ (aG hC)
 have B:(getObj b).run E.P w= .ok (.map es c) w:=MapKept.run_getObj_map he
 rcases ou (P:=E.P) (w:=w) (x:=x) hkt hi with ⟨F,G⟩|⟨j,AA,F,G,H⟩
 ·refine fp (v:= .tuple #[]) (w':={w with heap:=w.heap.setIfInBounds b (.map es c)}) sm ?_ ?_
  ·simp [execOp,resolve,invoke,builtin,A.ev hm,A.ev hk,Builtin.delete_,hts,run_underlying ht,B,iR hkt,F,MapKept.run_setObj_map _ he]
  ·refine k _ _ ⟨A.defers,A.size,A.at_⟩ (hs.vb (b:=b) i hC U U (mq _) (fun _ h=>h) ⟨_,_,ob he,?_⟩)
   rw [vo G]; exact hi
 ·refine fp (v:= .tuple #[]) (w':={w with heap:=w.heap.setIfInBounds b (.map (es.eraseIdxIfInBounds j) c)}) sm ?_ ?_
  ·simp [execOp,resolve,invoke,builtin,A.ev hm,A.ev hk,Builtin.delete_,hts,run_underlying ht,B,iR hkt,F,MapKept.run_setObj_map _ he]
  ·exact k _ _ ⟨A.defers,A.size,A.at_⟩ (hs.vb (b:=b) i hC U U (mq _) (fun _ h=>h) ⟨_,_,ob he,hi.del G⟩)
end
end
section
open Go.RowKit
theorem Cb (x:Int):
 cz Tryz.prog 194 [(vI x)] [] (vB false):=by
 refine bf Gh Tryz.func194 U U fun C Q hQ hN=>?_
 try dsimp only
 refine WS fun _ A=>aU 1 U<|RK A<|WS fun _ B=>rP 4 [] mn ?_
 refine RK B<|an<|Q1 hQ U U U ?_
 simp
theorem Cn (x y:Int):
 cz Tryz.prog 173 [(vI x),(vI y)] [] (vB (decide (x<y))):=by
 refine bf Gm Tryz.func173 U U fun C Q hQ hN=>?_
 try dsimp only
 refine WS fun _ A=>aU 1 U<|RK A<|WS fun _ B=>aU 1 U<|rS (CL (Cb x) (av) U)<|rP 11 [] mn ?_
 refine RK B<|an<|Q1 hQ U U U ?_
 exact cB (eH.2 om)
theorem yu (l:List Int) (lA:OA) (lC:Nat) (hlen:l.length≤1000000):
 Bi Tryz.prog 167 [(vS lA l.length lC),(vI 0),(vI (l.length:Int))] [] (own lA lC 3 1 (l.map iC)) (fun (x:(List Int))=>(vT [])) (fun (x:(List Int))=>x.Perm l∧x.Pairwise (· ≤ ·)) (fun (x:(List Int))=>(own lA lC 3 1 (x.map iC))):=by
 refine oD GZ Tryz.func167 U U fun g Q hQ hN=>?_
 try dsimp only
 refine WS fun _ X=>aU 1 U<|rS (SX (bJ (r:= .int .i64 1) U U U (iZ ⟨dc,dc⟩)) U U)<|rP 1 [] mn ?_
 refine RK X<|ar ?_
 have A:(1≤1∧(1≤l.length∨1=1))∧(l.length=l.length)∧(l.Perm l)∧(Ek l 1):=by exact ⟨om,rfl,List.Perm.refl _,BX⟩
 refine br (ι:={z:Nat×(List Int) // (1≤z.1∧(z.1≤l.length∨z.1=1))∧(z.2.length=l.length)∧(z.2.Perm l)∧(Ek z.2 z.1)}) [0,1,2] [] U U (fun z=>[(6,(vI (z.1.1:Int)))]) (fun z=>[(own lA lC 3 1 (z.1.2.map iC))]) (fun _=>rfl) (fun _=>rfl) (fun z=>l.length-z.1.1) ⟨(1,l),A⟩ (bg U) (aN [0]) ?_
 clear A
 rintro ⟨⟨i,m⟩,⟨K,AB,E,F⟩⟩ J2 M
 try dsimp only at K AB E F
 try dsimp only
 refine al fun _ Y=>WS fun _ Z=>rP 3 [] mn ?_
 refine RK Z<|bH U (aL fun e=>?_) (aM fun e=>?_)
 ·refine bo<|ai<|ai<|aw<|LM hN m 0 [] mn U U U U ?_
  exact ⟨E,CU F om⟩
 refine WK Y<|al fun _ O=>ar<|WS fun _ b=>rP 2 [] mn ?_
 refine RK b<|ar ?_
 have A:(i≤i)∧(m.length=l.length)∧(m.Perm l)∧(ED m i i):=by exact ⟨Nat.le_refl _,AB,E,xT F om⟩
 refine br (ι:={z:Nat×(List Int) // (z.1≤i)∧(z.2.length=l.length)∧(z.2.Perm l)∧(ED z.2 i z.1)}) [0,1,2,6] [] U U (fun z=>[(7,(vI (z.1.1:Int)))]) (fun z=>[(own lA lC 3 1 (z.1.2.map iC))]) (fun _=>rfl) (fun _=>rfl) (fun z=>z.1.1) ⟨(i,m),A⟩ (bg U) (aN [0]) ?_
 clear A
 rintro ⟨⟨j,q⟩,⟨G,B,C,D⟩⟩ J8 W
 try dsimp only at G B C D
 try dsimp only
 refine al fun _ c=>al fun _ J=>dF cx 15 kr<|dP 4 [] mn ?_
 refine gj (t:=19) U (aL fun hj=>?_) (aM fun hj=>?_)
 ·refine fQ 11 U<|cj<|RK J<|bw U<|bo<|ai<|ai<|aw<|aI<|KK O<|ao<|rP 3 [] mn ?_
  refine aB ?_
  refine aY (M ⟨((i+1),q),⟨om,B,C,by exact zP om D⟩⟩ _ _ _ U (by simp only []; omega) (bg U) (aN [0]))
 refine dP 2 [] mn ?_
 obtain ⟨x,hx⟩:=bh q j om
 have L:=bp iC hx
 refine dS (IA j U (aQ (n:=l.length) 0 U sq) cK dc om om) ?_
 refine dS (fT j 0 (vI x) U yF (aQ (n:=q.length) 0 U sm) L U dc U)<|dP 3 [] mn ?_
 obtain ⟨y,hy⟩:=bh q (j-1) om
 have V:=bp iC hy
 refine dS (IA (j-1) U (aQ (n:=l.length) 0 U sq) cK dc om om) ?_
 refine dS (fT (j-1) 0 (vI y) U yF (aQ (n:=q.length) 0 U sm) V U dc U)<|dS (CL (Cn x y) (av) U)<|dP 1 [] mn ?_
 refine cj<|RK J<|bH U (aL fun H=>?_) (aM fun H=>?_)
 ·refine bo<|ai<|ai<|aw<|aI<|KK O<|ao<|rP 3 [] mn ?_
  refine aB ?_
  refine aY (M ⟨((i+1),q),⟨om,B,C,by exact y8 hx hy om G H D⟩⟩ _ _ _ U (by simp only []; omega) (bg U) (aN [0]))
 refine WK c<|al fun _ N=>ar<|dK cx [15,16,17] [8,9,12,13,14] [] [] [0] U U U U U<|eS U (MV U)<|eS U (MV U)<|eS U (MV U)<|eS U (MV U)<|eS U (BI U (pK ⟨om,om⟩))<|eS U (MV U)<|eS U (MV U)<|eS U (BI U (pK ⟨om,om⟩)) ?_
 refine fS U (IA (j-1) U (aQ (n:=l.length) 0 U sq) cK dc om om) ?_
 refine fS U (fT (j-1) 0 (vI y) U yF (aQ (n:=q.length) 0 U sm) V U dc U)<|eS U (MV U)<|eS U (MV U) ?_
 refine fS U (IA j U (aQ (n:=l.length) 0 U sq) cK dc om om) ?_
 refine fS U (fT j 0 (vI x) U yF (aQ (n:=q.length) 0 U sm) L U dc U) ?_
 refine fS U (IA j U (aQ (n:=l.length) 0 U sq) cK dc om om) ?_
 refine eJ U<|bU U fun T12 P=>dB (k:=j) (o:=0) (vs:=[(vI y)]) (es':=(List.map iC (q.set j y))) (C':=[(own lA lC 3 1 (List.map iC (q.set j y)))]) 0 U U U vw U U U U L U dc (by exact (List.map_set (f:=iC) (l:=q) (i:=j) (a:=y)).symm) U<|aB (P _ _ (aN []) ?_)
 refine bU U fun T13 R=>?_
 obtain ⟨d,AA⟩:=bh (q.set j y) (j-1) os
 have hx15m:(List.map iC (q.set j y))[(j-1)]? =some (iC d):=by rw [gD,AA]; rfl
 refine rS (IA (j-1) U (aQ (n:=l.length) 0 U sq) cK dc om om) ?_
 refine aB (R _ _ (aN []) ?_)
 refine bU U fun T16 S=>dB (k:=(j-1)) (o:=0) (vs:=[(vI x)]) (es':=(List.map iC ((q.set j y).set (j-1) x))) (C':=[(own lA lC 3 1 (List.map iC ((q.set j y).set (j-1) x)))]) 0 U U U vw U U U U hx15m U dc (by exact (List.map_set (f:=iC) (l:=(q.set j y)) (i:=(j-1)) (a:=x)).symm) U<|aB (S _ _ (aN []) ?_)
 refine fx U<|aI<|KK N<|ao<|rP 3 [] mn ?_
 refine aB ?_
 have T:(vI (((j-1):Nat):Int))=(vI ((j:Int)-1)):=by exact cI om
 refine aY (W ⟨((j-1),((q.set j y).set (j-1) x)),⟨om,by simp; exact B,(yx hx hy).trans C,zI hx hy om G H D⟩⟩ _ _ _ U (by simp only []; omega) (b_ 4<|aR U T<|cL.nil _) (aN [0]))
theorem Cg (x:Int) (hx:0≤x∧x≤100):
 lx Tryz.prog 177 [(Value.int .u64 x)] [] (fun (x:Int)=>(vI x)) (fun (x:Int)=>True) (fun (x:Int)=>[]):=by
 refine dT FE Tryz.func177 U U fun N Q hQ hN=>?_
 try dsimp only
 refine WS fun _ D=>aU 1 U<|RK D<|al fun _ E=>WS fun _ F=>rP 1 [] mn ?_
 refine rS (BI U pV)<|RK F<|cd U (aM fun L=>?_) (aL fun L=>?_)
 ·exfalso; omega
 refine WK E<|al fun _ G=>WS fun _ H=>rP 1 [] mn ?_
 refine rS (BI U pV)<|RK H<|cd U (aM fun M=>?_) (aL fun M=>?_)
 ·exfalso; omega
 refine WK G<|al fun _ AA=>WS fun _ J=>rP 1 [] mn ?_
 refine rS (BI U pV)<|RK J<|cd U (aM fun C=>?_) (aL fun C=>?_)
 ·exfalso; omega
 refine WK AA<|WS fun _ B=>aU 2 U<|rS (SX (fP (m:=x) U U Ha vX (s_ (by first|assumption|omega))) U U)<|D8 (k:=(x).toNat) U U U JP om (Nat.lt_of_lt_of_le (m:=200) om (of_decide_eq_true kr)) U fun A K=>rS (SX (fP (m:=A) U U vX oe (eo (by first|assumption|omega))) U U)<|rP 2 [] mn ?_
 refine RK B<|an<|LX hQ (0+A) [] [] mn U U U U ?_
 trivial
theorem E6 (x:Int) (hx:0≤x∧x≤100):
 lx Tryz.prog 155 [(Value.int .u64 x)] [] (fun (x:Int)=>(vI x)) (fun (x:Int)=>True) (fun (x:Int)=>[]):=by
 refine dT Hk Tryz.func155 U U fun F Q hQ hN=>?_
 try dsimp only
 refine WS fun _ A=>aU 1 U<|RK A<|al fun _ B=>bw U<|WK B<|WS fun _ C=>rP 1 [] mn ?_
 refine cX (Cg x hx) (av) U fun E D=>?_
 try dsimp only
 refine rP 1 [] mn ?_
 refine RK C<|an<|LX hQ E [] [] mn U U U U ?_
 trivial
theorem Gg (l:List Int) (lA:OA) (lC:Nat) (u:Int) (hlen:l.length≤12):
 Bi Tryz.prog 154 [(vS lA l.length lC),(vI 0),(vI (l.length:Int)),(vI u)] [] (own lA lC 3 1 (l.map iC)) (fun (x:(List Int))=>(vT [])) (fun (x:(List Int))=>x.Perm l∧x.Pairwise (· ≤ ·)) (fun (x:(List Int))=>(own lA lC 3 1 (x.map iC))):=by
 refine oD GQ Tryz.func154 U U fun K Q hQ hN=>?_
 try dsimp only
 refine WS fun _ A=>aU 1 U<|RK A<|WS fun _ B=>aU 1 U<|RK B<|ar<|gE 1<|ey fun R3 AA=>ar<|WS fun _ C=>aU 4 U<|RK C<|al fun _ H=>WS fun _ D=>rP 2 [] mn ?_
 refine RK D<|bH U (aL fun G=>?_) (aM fun G=>?_)
 ·exfalso; omega
 refine WS fun _ E=>rP 3 [] mn ?_
 refine kS 0 U U U U (yu l lA lC om) U m8 U (fun J F=>?_)
 try dsimp only
 refine RK E<|an<|LM hQ J 0 [] mn U U U U ?_
 assumption
theorem EJ (l:List Int) (lA:OA) (lC:Nat) (hlen:l.length≤12):
 Bi Tryz.prog 131 [(vS lA l.length lC)] [] (own lA lC 3 1 (l.map iC)) (fun (x:(List Int))=>(vT [])) (fun (x:(List Int))=>x.Perm l∧x.Pairwise (· ≤ ·)) (fun (x:(List Int))=>(own lA lC 3 1 (x.map iC))):=by
 refine oD G7 Tryz.func131 U U fun F Q hQ hN=>?_
 try dsimp only
 refine WS fun _ A=>aU 3 U<|RK A<|ao<|rP 3 [] mn ?_
 refine rS (SX (fP (m:=(l.length:Int)) U U oe G_ (sn (by first|assumption|omega))) U U)<|cX (E6 (l.length:Int) om) (av) U fun E B=>?_
 try dsimp only
 refine kS 0 U U U U (Gg l lA lC E hlen) U m8 U (fun D C=>?_)
 try dsimp only
 refine aB<|LM hN D 0 [] mn U U U U ?_
 assumption
end
section
open Go.RowKit
theorem CI (d:ah) (kA:OA) (kC:Nat) (pA:OA) (pC:Nat) (nA:OA) (nC:Nat) (tA:OA) (tN tC gw:Nat) (m:BM) (P:Nat→Prop) (gm:Nat) (s:ae) (g1 g2 g3:Nat) (hin:fk d) (htr:a9 d.ak=true) (hok:gL d) (hss:cD d.ak s) (hm:fV m P):
 Ez Tryz.prog 153 [] [(vP g1),(vP g2),(vP g3)] [(rd kA d.ak.length 9 (d.ak.map ab.cells)),(rd pA d.aA.length 7 (d.aA.map aj.cells)),(rd nA d.bk.length 3 (d.bk.map cH.cells)),(bm gw 188 (dL.cells (dL.mk (aW.mk (ag.mk (aJ.mk kA d.ak.length kC)) (aJ.mk pA d.aA.length pC) (aJ.mk nA d.bk.length nC) d.bM d.bP) (aJ.mk tA tN tC)))),(bm g1 125 [(vP gw)]),(nt iV gm (dM vB m)),(bm g2 216 [(Value.map (some gm))]),(bm g3 37 (ae.cells s))] ([]:List Int) (fun ys x ys'=> ∃ i:Nat,i<d.aA.length∧gF d P s i∧ys=(fz i (gF d P s))∧x=[vI (i:Int)]∧ys'=ys++[(i:Int)]) (fun ys=>ys=l_ d P s):=by
 have ET:=hin.jP
 have ER:=hin.side
 have GD:=hin.sG
 have Fn:=hin.rq
 have Fd:=hin.nk
 have Fs:=hin.pk
 have K:=hok.eT
 refine B5 kr Tryz.func153 U U fun l J Z A0 w0 Q hY C2 C1 hQ hN=>?_
 try dsimp only
 refine WS fun _ DA=>dE 1 [] (mr 5 U mn) U<|rS (SX (cu U U) U U)<|rP 5 [] (mr 4 U mn) ?_
 refine RK DA<|ar ?_
 have V:(0≤d.aA.length)∧(J (fz 0 (gF d P s)) A0)∧(Fo A0 w0 A0):=by exact ⟨Nat.zero_le _,C2,C1⟩
 refine br (ι:={z:Nat×au // (z.1≤d.aA.length)∧(J (fz z.1 (gF d P s)) z.2)∧(Fo A0 w0 z.2)}) [0,1,2,3,14,15] [1,2,3,4,5,6,7,8] U U (fun z=>[(16,(vI (z.1.1:Int)))]) (fun z=>[z.1.2]) (fun _=>rfl) (fun _=>rfl) (fun z=>d.aA.length-z.1.1) ⟨(0,A0),V⟩ (bg U) (aN [1,2,3,4,5,6,7,8,0]) ?_
 clear V
 rintro ⟨⟨i,A⟩,⟨o,E,F⟩⟩ J2 L
 try dsimp only at o E F
 try dsimp only
 refine WS fun _ DN=>rP 1 [] mn ?_
 refine RK DN<|al fun _ Di=>bH U (aL fun h5=>?_) (aM fun h5=>?_)
 ·refine bo<|ai<|ai<|aw ?_
  refine hN _ _ _ (fH (vs:=[]) trivial fun w hs=>IP 8 U (by show _=_; unfold l_; rw [show i=d.aA.length by omega]) E F hs)
 refine WK Di<|al fun _ M=>ar<|WS fun _ Do=>rP 1 [] mn ?_
 obtain ⟨p,hp⟩:=bh d.aA i om
 have EQ:=bp aj.cells hp
 refine rS (IA i U (ay 1 U) sH dc om om)<|rS (jq i 0 (aj.cells p) U bQ (ay 1 U) EQ U dc U U)<|AL U zH fun b8=>aU 1 U<|eC U CN U<|RK Do<|al fun _ EI=>WS fun _ r=>dE 2 [] (mr 7 U mn) U<|rS (SX (tv (kV:=iV) (x:=(i:Int)) (l:=m) (f:=Value.bool) (z:=false) U U U v8 (jc oe) JM (by exact pw 6 U)) U U)<|rP 1 [] mn ?_
 refine RK r<|cd U (fun B=>?_) (fun B=>?_)
 ·rw [Bool.not_eq_true'] at B
  refine bo<|ai<|aw<|KK M<|ao<|rP 2 [] mn ?_
  refine aB ?_
  have Bl:(vI (((i+1):Nat):Int))=(vI ((i:Int)+1)):=by exact cI om
  refine aY (L ⟨((i+1),A),⟨om,by rw [mo (show ¬ gF d P s i from by first|(rintro ⟨_,p2,AB,hh⟩; rw [hp] at AB; cases AB; exact C (G.2 hh))|exact (fun q=>by have h:=(iw hm).2 q.1; rw [B] at h; cases h))]; exact E,F⟩⟩ _ _ _ rfl os (b_ 6<|aR rfl Bl<|cL.nil _) (aN [1,2,3,4,5,6,7,8,9]))
 rw [Bool.not_eq_false'] at B
 refine WK EI<|WS fun _ X=>aU 1 U<|rS (LP (ae.cells p.de) 0 U bQ U U U)<|dE 1 [] (mr 8 U mn) U<|rS (BI U (GV _ _ p.de s))<|rP 1 [] mn ?_
 refine dq (t:=29) U (aL fun H=>?_) (aM fun H=>?_)
 ·refine rP 9 [] mn ?_
  refine RK X<|al fun _ v=>dK cx [12,13] [] [] [0,1,2,3,4,5,6,7,8,9] [] U U U U U<|eS U (Ft 5 U bQ U)<|eS U (SX (cu U U) U U)<|eS U (FA 0 U fh U)<|eS U (FA 0 U fh U)<|eS U (Fp (ag.cells (ag.mk (aJ.mk kA d.ak.length kC))) 4 U bQ U U U)<|eS U (Jy 8 U bQ U U)<|eS U (FA 2 U fh U)<|eS U (LP (ae.cells p.de) 0 U bQ U U U) ?_
  refine eS U (CL (pb d.ak kA kC s p.de sd sd) (aX [1]) U) ?_
  refine eS U (MV U) ?_
  have W:=(hok.post i p hp).2.2.1
  have n:=fR htr ⟨hss,W⟩
  have j:=ku (bT htr) (cw htr) hss W
  have G:=oN (d:=d) (a:=s) (b:=p.de) om K.1
  rw [← n.2] at j G
  refine eS U (EX U)<|eS U (EX U)<|eS U (AG U)<|eJ U<|bU U fun T39 A5=>AL U cv fun FN=>aB (A5 _ _ (aN [1,2,3,4,5,6,7,8,9,10]) ?_)
  refine bU U fun T41 A6=>eC U cn U<|aB (A6 _ _ (aN [1,2,3,4,5,6,7,8,9,10]) ?_)
  refine fx U<|KK v<|al fun _ y=>dK cx [6,7,13,14] [] [] [0,1,2,3,4,5,6,7,8,9,10] [] U U U U U<|eS U (MV U)<|eS U (MV U)<|eS U (FA 0 U fh U)<|eS U (L1 (vI ((eb d.ak s p.de).Lo)) 0 U bQ U U)<|eS U (FA 1 U fh U)<|eS U (L1 (vI ((eb d.ak s p.de).Hi)) 0 U bQ U U)<|eS U (Ft 6 U bQ U)<|eS U (SX (cu U U) U U)<|eS U (FA 0 U fh U)<|eS U (FA 6 U fh U)<|eS U (Dp (vI d.bP) 5 U bQ U U)<|eJ U<|bU U fun T43 A7=>bX (xs:=[.tmp 53,.tmp 55]) (cs:=[(vI ((eb d.ak s p.de).Lo)),(vI ((eb d.ak s p.de).Hi))]) U cK g6 U U U U (by simp [Value.cells]) U U fun C0=>aB (A7 _ _ (aN [1,2,3,4,5,6,7,8,9,10,11]) ?_)
  refine bU U fun T45 A8=>?_
  refine rS (CL (nq ([(eb d.ak s p.de).Lo,(eb d.ak s p.de).Hi]) (some ⟨C0,0,none⟩) 2 (by intro x hx; simp only [bZ,List.not_mem_nil,or_false] at hx; omega) sm) (aK (aH 0 U U (by simp [bq]) U)<|av) U) ?_
  refine aB (A8 _ _ (aN [1,2,3,4,5,6,7,8,9,10,11]) ?_)
  refine bU U fun T46 A9=>rS (BI U nU)<|aB (A9 _ _ (aN [1,2,3,4,5,6,7,8,9,10,11]) ?_)
  refine bU U fun T47 Bf=>rS (PK U)<|aB (Bf _ _ (aN [1,2,3,4,5,6,7,8,9,10,11]) ?_)
  refine fx U<|KK y<|bH U (aL fun C=>?_) (aM fun C=>?_)
  ·refine bS<|aI<|KK M<|ao<|rP 2 [] mn ?_
   refine aB ?_
   have Cp:(vI (((i+1):Nat):Int))=(vI ((i:Int)+1)):=by exact cI om
   refine aY (L ⟨((i+1),A),⟨om,by rw [mo (show ¬ gF d P s i from by first|(rintro ⟨_,p2,AB,hh⟩; rw [hp] at AB; cases AB; exact C (G.2 hh))|exact (fun q=>by have h:=(iw hm).2 q.1; rw [B] at h; cases h))]; exact E,F⟩⟩ _ _ _ rfl os (b_ 6<|aR rfl Cp<|cL.nil _) (aN [3,4,5,6,7,8,9,10,11]))
  refine WS fun _ g=>rP 2 [] mn ?_
  refine p9 (k:=(fz i (gF d P s))) (k':=((fz i (gF d P s))++[((i:Int))])) 11 (by first|exact hsz|exact Nat.le_refl _) hY E F U U U (by exact ⟨i,om,⟨(iw hm).1 B,p,hp,(by first|exact G.1 C|exact iN H D K.1)⟩,U,U,U⟩) U U (fun B49 AA R=>?_) (fun B49 AA R=>?_)
  rotate_left 1
  ·refine rP 1 [] mn ?_
   refine RK g<|aC U<|an ?_
   refine hQ _ _ _ (fH (vs:=[]) trivial fun w hs=>zi 11 U AA R hs)
  refine aU 1 U<|RK g<|bw U<|bS<|aI<|KK M<|ao<|rP 2 [] mn ?_
  refine aB ?_
  have Ck:(vI (((i+1):Nat):Int))=(vI ((i:Int)+1)):=by exact cI om
  refine aY (L ⟨((i+1),B49),⟨om,by rw [kv (show gF d P s i from ⟨(iw hm).1 B,p,hp,(by first|exact G.1 C|exact iN H D K.1)⟩)]; exact AA,R⟩⟩ _ _ _ U os (b_ 6<|aR U Ck<|cL.nil _) (aN [3,4,5,6,7,8,9,10,11]))
 refine rP 9 [] (mr 8 U mn) ?_
 refine RK X<|al fun _ u=>dK cx [12,13] [] [] [0,1,2,3,4,5,6,7,8,9] [] U U U U U<|eS U (Ft 5 U bQ U)<|eS U (SX (cu U U) U U)<|eS U (FA 0 U fh U)<|eS U (FA 0 U fh U)<|eS U (Fp (ag.cells (ag.mk (aJ.mk kA d.ak.length kC))) 4 U bQ U U U)<|eS U (Jy 8 U bQ U U)<|eS U (FA 2 U fh U)<|eS U (LP (ae.cells p.de) 0 U bQ U U U) ?_
 refine eS U (CL (pb d.ak kA kC s p.de sd sd) (aX [1]) U) ?_
 refine eS U (MV U) ?_
 have W:=(hok.post i p hp).2.2.1
 have n:=fR htr ⟨hss,W⟩
 have j:=ku (bT htr) (cw htr) hss W
 have G:=oN (d:=d) (a:=s) (b:=p.de) om K.1
 rw [← n.2] at j G
 refine eS U (EX U)<|eS U (EX U)<|eS U (AG U)<|eJ U<|bU U fun T14 AC=>AL U cv fun E5=>aB (AC _ _ (aN [1,2,3,4,5,6,7,8,9,10]) ?_)
 refine bU U fun T16 AH=>eC U cn U<|aB (AH _ _ (aN [1,2,3,4,5,6,7,8,9,10]) ?_)
 refine fx U<|KK u<|al fun _ Y=>dK cx [6,7,13,14] [] [] [0,1,2,3,4,5,6,7,8,9,10] [] U U U U U<|eS U (MV U)<|eS U (MV U)<|Bw (t:=51) U (fun D=>?_) (fun D=>?_)
 ·replace D:=DT D
  refine eS U (OX U)<|eS U (OX U)<|eS U (OX U)<|eS U (OX U)<|eS U (OX U)<|eS U (OX U)<|eS U (OX U)<|eS U (OX U)<|eS U (OX U)<|eJ U<|bU U fun T18 AO=>oX<|aB (AO _ _ (aN [0,1,2,3,4,5,6,7,8,9,10]) ?_)
  refine bU U fun T19 AR=>oX<|aB (AR _ _ (aN [0,1,2,3,4,5,6,7,8,9,10]) ?_)
  refine bU U fun T20 Ak=>oX<|aB (Ak _ _ (aN [0,1,2,3,4,5,6,7,8,9,10]) ?_)
  refine bU U fun T21 Ay=>rS (PK U)<|aB (Ay _ _ (aN [0,1,2,3,4,5,6,7,8,9,10]) ?_)
  refine fx U<|KK Y<|aC U<|WS fun _ c=>rP 2 [] mn ?_
  refine p9 (k:=(fz i (gF d P s))) (k':=((fz i (gF d P s))++[((i:Int))])) 10 (by first|exact hsz|exact Nat.le_refl _) hY E F U U U (by exact ⟨i,om,⟨(iw hm).1 B,p,hp,(by first|exact G.1 C|exact iN H D K.1)⟩,U,U,U⟩) U U (fun B23 S N=>?_) (fun B23 S N=>?_)
  rotate_left 1
  ·refine rP 1 [] mn ?_
   refine RK c<|aC U<|an ?_
   refine hQ _ _ _ (fH (vs:=[]) trivial fun w hs=>zi 10 U S N hs)
  refine aU 1 U<|RK c<|bw U<|bS<|aI<|KK M<|ao<|rP 2 [] mn ?_
  refine aB ?_
  have Bs:(vI (((i+1):Nat):Int))=(vI ((i:Int)+1)):=by exact cI om
  refine aY (L ⟨((i+1),B23),⟨om,by rw [kv (show gF d P s i from ⟨(iw hm).1 B,p,hp,(by first|exact G.1 C|exact iN H D K.1)⟩)]; exact S,N⟩⟩ _ _ _ U os (b_ 6<|aR U Bs<|cL.nil _) (aN [2,3,4,5,6,7,8,9,10]))
 replace D:=DF D
 refine eS U (FA 0 U fh U)<|eS U (L1 (vI ((eb d.ak s p.de).Lo)) 0 U bQ U U)<|eS U (FA 1 U fh U)<|eS U (L1 (vI ((eb d.ak s p.de).Hi)) 0 U bQ U U)<|eS U (Ft 6 U bQ U)<|eS U (SX (cu U U) U U)<|eS U (FA 0 U fh U)<|eS U (FA 6 U fh U)<|eS U (Dp (vI d.bP) 5 U bQ U U)<|eJ U<|bU U fun T27 A1=>bX (xs:=[.tmp 53,.tmp 55]) (cs:=[(vI ((eb d.ak s p.de).Lo)),(vI ((eb d.ak s p.de).Hi))]) U cK g6 U U U U (by simp [Value.cells]) U U fun Cx=>aB (A1 _ _ (aN [1,2,3,4,5,6,7,8,9,10,11]) ?_)
 refine bU U fun T29 A2=>?_
 refine rS (CL (nq ([(eb d.ak s p.de).Lo,(eb d.ak s p.de).Hi]) (some ⟨Cx,0,none⟩) 2 (by intro x hx; simp only [bZ,List.not_mem_nil,or_false] at hx; omega) sm) (aK (aH 0 U U (by simp [bq]) U)<|av) U) ?_
 refine aB (A2 _ _ (aN [1,2,3,4,5,6,7,8,9,10,11]) ?_)
 refine bU U fun T30 A3=>rS (BI U nU)<|aB (A3 _ _ (aN [1,2,3,4,5,6,7,8,9,10,11]) ?_)
 refine bU U fun T31 A4=>rS (PK U)<|aB (A4 _ _ (aN [1,2,3,4,5,6,7,8,9,10,11]) ?_)
 refine fx U<|KK Y<|bH U (aL fun C=>?_) (aM fun C=>?_)
 ·refine bS<|aI<|KK M<|ao<|rP 2 [] mn ?_
  refine aB ?_
  have Ci:(vI (((i+1):Nat):Int))=(vI ((i:Int)+1)):=by exact cI om
  refine aY (L ⟨((i+1),A),⟨om,by rw [mo (show ¬ gF d P s i from by first|(rintro ⟨_,p2,AB,hh⟩; rw [hp] at AB; cases AB; exact C (G.2 hh))|exact (fun q=>by have h:=(iw hm).2 q.1; rw [B] at h; cases h))]; exact E,F⟩⟩ _ _ _ rfl os (b_ 6<|aR rfl Ci<|cL.nil _) (aN [3,4,5,6,7,8,9,10,11]))
 refine WS fun _ e=>rP 2 [] mn ?_
 refine p9 (k:=(fz i (gF d P s))) (k':=((fz i (gF d P s))++[((i:Int))])) 11 (by first|exact hsz|exact Nat.le_refl _) hY E F U U U (by exact ⟨i,om,⟨(iw hm).1 B,p,hp,(by first|exact G.1 C|exact iN H D K.1)⟩,U,U,U⟩) U U (fun B33 T O=>?_) (fun B33 T O=>?_)
 rotate_left 1
 ·refine rP 1 [] mn ?_
  refine RK e<|aC U<|an ?_
  refine hQ _ _ _ (fH (vs:=[]) trivial fun w hs=>zi 11 U T O hs)
 refine aU 1 U<|RK e<|bw U<|bS<|aI<|KK M<|ao<|rP 2 [] mn ?_
 refine aB ?_
 have B9:(vI (((i+1):Nat):Int))=(vI ((i:Int)+1)):=by exact cI om
 refine aY (L ⟨((i+1),B33),⟨om,by rw [kv (show gF d P s i from ⟨(iw hm).1 B,p,hp,(by first|exact G.1 C|exact iN H D K.1)⟩)]; exact T,O⟩⟩ _ _ _ U os (b_ 6<|aR U B9<|cL.nil _) (aN [3,4,5,6,7,8,9,10,11]))
theorem yj (gw gm:Nat) (s:ae):
 lx Tryz.prog 130 [(vP gw),(vA (ae.cells s)),(Value.map (some gm))] [] (fun (x:Nat×Nat×Nat)=>(Value.func (.func 153) [].toArray [(Value.pointer (some ⟨x.1,0,none⟩)),(Value.pointer (some ⟨x.2.1,0,none⟩)),(Value.pointer (some ⟨x.2.2,0,none⟩))].toArray)) (fun (x:Nat×Nat×Nat)=>True) (fun (x:Nat×Nat×Nat)=>[(bm x.1 125 [(vP gw)]),(bm x.2.1 216 [(Value.map (some gm))]),(bm x.2.2 37 (ae.cells s))]):=by
 refine dT kr Tryz.func130 U U fun F Q hQ hN=>?_
 try dsimp only
 refine WS fun _ A=>o4 U U fun C=>ej U fun D=>o4 U U fun E=>aU 1 U<|RK A<|WS fun _ B=>rS (FU U)<|rP 1 [] mn ?_
 refine RK B<|an<|LX hQ (C,E,D) [2,0,1] [] mn U U U U ?_
 trivial
end
section
open Go.RowKit
theorem yp (d:ah) (kA:OA) (kC:Nat) (pA:OA) (pC:Nat) (nA:OA) (nC:Nat) (tA:OA) (tN tC:Nat) (gw s:Nat) (hin:fk d) (htr:a9 d.ak=true) (hok:gL d) (hsb:s<256):
 lx Tryz.prog 93 [(vP gw),(vI (s:Int))] [(rd kA d.ak.length 9 (d.ak.map ab.cells)),(rd pA d.aA.length 7 (d.aA.map aj.cells)),(rd nA d.bk.length 3 (d.bk.map cH.cells)),(bm gw 188 (dL.cells (dL.mk (aW.mk (ag.mk (aJ.mk kA d.ak.length kC)) (aJ.mk pA d.aA.length pC) (aJ.mk nA d.bk.length nC) d.bM d.bP) (aJ.mk tA tN tC))))] (fun (x:(OA)×Nat)=>(vS x.1 ((iB d (ir s)).length) x.2)) (fun (x:(OA)×Nat)=>True) (fun (x:(OA)×Nat)=>[(own x.1 x.2 3 1 ((iB d (ir s)).map iC))]):=by
 have H8:=hin.jP
 have Gd:=hin.side
 have JT:=hin.sG
 have JJ:=hin.rq
 have JD:=hin.nk
 have JR:=hin.pk
 have I8:=hok.len
 refine dT kr Tryz.func93 U U fun w0 Q hQ hN=>?_
 try dsimp only
 refine WS fun _ Eq=>rP 1 [] mn ?_
 refine RK Eq<|WS fun _ E2=>nG (kV:=iV) U U fun M=>?_
 try dsimp only
 refine aU 1 U<|RK E2<|al fun _ E5=>WS fun _ FN=>aU 1 U<|rS (SX (cu U U) U U)<|rP 5 [] (mr 4 U mn) ?_
 refine RK FN<|ar ?_
 have C:(0≤d.aA.length)∧(fV ([]:BM) (fun k=>ir s k∧k<0)):=by exact ⟨Nat.zero_le _,nJ BQ fun k=>⟨False.elim,fun q=>absurd q.2 (Nat.not_lt_zero _)⟩⟩
 refine br (ι:={z:Nat×BM // (z.1≤d.aA.length)∧(fV z.2 (fun k=>ir s k∧k<z.1))}) [0,1,5,18,19] [1,2,3,4] U U (fun z=>[(20,(vI (z.1.1:Int)))]) (fun z=>[(nt iV M (dM vB z.1.2))]) (fun _=>rfl) (fun _=>rfl) (fun z=>d.aA.length-z.1.1) ⟨(0,([]:BM)),C⟩ (bg U) (aN [1,2,3,4,0]) ?_
 clear C
 rintro ⟨⟨i,m⟩,⟨b,D⟩⟩ J6 t
 try dsimp only at b D
 try dsimp only
 refine WS fun _ FS=>rP 1 [] mn ?_
 refine RK FS<|al fun _ Fd=>cd U (aM fun h9=>?_) (aL fun h9=>?_)
 ·refine WK Fd<|al fun _ R=>ar<|WS fun _ u=>aU 2 U<|RK u<|WS fun _ v=>rP 2 [] mn ?_
  refine rS (BI U (Eu (i:=i) om om)) ?_
  refine rS (BI U (Ev (m:=(s/2^i)) om (Nat.lt_of_le_of_lt (Nat.div_le_self _ _) om)))<|rP 1 [] mn ?_
  refine RK v<|bH U (aL fun J=>?_) (aM fun J=>?_)
  ·refine bS<|aI<|KK R<|ao<|rP 2 [] mn ?_
   refine aB ?_
   have Ci:(vI (((i+1):Nat):Int))=(vI ((i:Int)+1)):=by exact cI om
   refine aY (t ⟨((i+1),m),⟨om,by first|exact sY D (pd.1 J)|exact wN D (fun q=>J (pd.2 q))⟩⟩ _ _ _ U os (b_ 5<|aR U Ci<|cL.nil _) (aN [0,1,2,3,4]))
  refine ao<|aU 2 U<|oJ (kV:=iV) (x:=(i:Int)) (C':=[_,_,_,_,(nt iV M (dM vB (g9 m (i:Int) true)))]) 4 U U U U v8 (jc oe) U (nh _ _ _ _).symm U<|aB<|aI<|KK R<|ao<|rP 2 [] mn ?_
  refine aB ?_
  have B9:(vI (((i+1):Nat):Int))=(vI ((i:Int)+1)):=by exact cI om
  refine aY (t ⟨((i+1),(g9 m (i:Int) true)),⟨om,by first|exact sY D (pd.1 J)|exact wN D (fun q=>J (pd.2 q))⟩⟩ _ _ _ U os (b_ 5<|aR U B9<|cL.nil _) (aN [0,1,2,3,4]))
 refine bo<|ai<|ai<|aw<|KK E5<|WS fun _ AC=>aU 1 U<|RK AC<|al fun _ AH=>WS fun _ AO=>aU 1 U<|rS (SX (cu U U) U U)<|aU 2 U<|rS (Fp (ae.cells d.bM) 3 U bQ U U U)<|bX (xs:=[.tmp 35]) (cs:=(ae.cells d.bM)) U p7 yw U U U U (by simp [Value.cells,ae.aq]) U U fun Y=>rP 1 [] mn ?_
 refine RK AO<|ar ?_
 refine xP (es:=(List.map ae.cells [d.bM])) (C':=[(own (some ⟨Y,0,none⟩) 1 37 3 (List.map ae.cells [d.bM])),_,_,_,_,_]) 0 U (pG ae.aq _) U (by show 1≤maxLen; decide) U ?_
 refine GJ (C':=[(oq (some ⟨Y,0,none⟩) 1 37 3 (List.map ae.cells [d.bM])),_,_,_,_,_]) 0 U GX U<|f_ 3 1<|yR ?_
 have C:(fV m (fun k=>ir s k∧k<i))∧(o1 d (ir s) (fun k=>ir s k∧k<i) ([d.bM]) ([]:List Int))∧(m.length+([d.bM]).length≤100):=by exact ⟨D,vn fun k=>⟨fun q=>⟨q.1,om⟩,fun q=>⟨q.1,om⟩⟩,by have:=Cf D (n:=d.aA.length) (fun k q=>by omega); simp; omega⟩
 refine Bk (ι:={z:BM×(Nat→Prop)×(List Int)×(OA)×Nat×(List ae)×(OA)×Nat×(List Nat) // (fV z.1 z.2.1)∧(o1 d (ir s) z.2.1 z.2.2.2.2.2.1 z.2.2.1)∧(z.1.length+z.2.2.2.2.2.1.length≤100)}) (fun z=>z.1.2.2.2.2.2.2.2.2.map gV) (fun z=>[(0,(vP gw)),(1,(vI (s:Int))),(5,(Value.map (some M))),(7,(vS z.1.2.2.2.1 z.1.2.2.1.length z.1.2.2.2.2.1)),(8,(vS z.1.2.2.2.2.2.2.1 z.1.2.2.2.2.2.1.length z.1.2.2.2.2.2.2.2.1))]) (fun z=>[(eB (z.1.2.2.2.2.2.2.2.2.map mK)),(own z.1.2.2.2.1 z.1.2.2.2.2.1 3 1 (z.1.2.2.1.map iC)),(oq z.1.2.2.2.2.2.2.1 z.1.2.2.2.2.2.2.2.1 37 3 (z.1.2.2.2.2.2.1.map ae.cells)),(rd kA d.ak.length 9 (d.ak.map ab.cells)).ro,(rd pA d.aA.length 7 (d.aA.map aj.cells)).ro,(rd nA d.bk.length 3 (d.bk.map cH.cells)).ro,(bm gw 188 (dL.cells (dL.mk (aW.mk (ag.mk (aJ.mk kA d.ak.length kC)) (aJ.mk pA d.aA.length pC) (aJ.mk nA d.bk.length nC) d.bM d.bP) (aJ.mk tA tN tC)))).ro,(nt iV M (dM vB z.1.1))]) (fun z=>z.1.1.length+z.1.2.2.2.2.2.1.length) ⟨(m,(fun k=>ir s k∧k<i),([]:List Int),none,0,[d.bM],(some ⟨Y,0,none⟩),1,([]:List Nat)),C⟩ U (bg U) (aN [0,1,2,3,4,5,6,7]) ?_
 clear C
 rintro ⟨⟨m,L,l,a,c,tdq,qa,qc,N⟩,⟨H,B,AB⟩⟩ J19 o
 try dsimp only at H B AB
 try dsimp only
 refine al fun _ AR=>WS fun _ Ak=>rP 3 [] mn ?_
 refine RK Ak<|bH U (aL fun T=>?_) (aM fun T=>?_)
 ·refine bo<|ai<|ai<|aw<|KK AH<|WS fun _ Bl=>rP 1 [] mn ?_
  refine kS 1 U U U U (EJ l a c (by have:=tI B; omega)) U m8 U (fun srtd e=>?_)
  try dsimp only
  refine RK Bl<|WS fun _ Bs=>rP 1 [] mn ?_
  have Cx:srtd=(iB d (ir s)):=xe (by rw [show tdq=[] from px om] at B; exact B) e.1 e.2
  rw [Cx]
  refine rP 1 [] mn ?_
  refine RK Bs<|an<|hQ _ _ _ (yM 0 U U<|fH (vs:=[(vS a l.length c)]) ⟨U,trivial⟩ fun w hs=>BO (a,c) [0] ?_ ?_ U U U hs)
  ·(rw [show (iB d (ir s)).length=l.length from by rw [← Cx]; exact e.1.length_eq]; rfl)
  ·trivial
 refine WK AR<|al fun _ Ay=>ar<|al fun _ A0=>?_
 obtain ⟨E,rest,rfl⟩: ∃ E rest,tdq=E::rest:=by cases tdq with |nil=>(simp at T)|cons x y=>exact ⟨x,y,rfl⟩
 have Go:=zM hok B (gk ..)
 refine ao<|AL U nN fun f=>RK A0<|al fun _ A1=>WS fun _ A2=>rP 2 [] mn ?_
 have hs0m:((E::rest).map ae.cells)[0]? =some (ae.cells E):=rfl
 refine rS (IA 0 U (tn (n:=(E::rest).length) 3 U sm) p7 dc U om)<|rS (jq 0 0 (ae.cells E) U bQ (tn (n:=(E::rest).length) 3 U sm) hs0m U dc U U)<|rP 1 [] mn ?_
 refine cX (yj gw M E) (av) U fun Ho IF=>?_
 obtain ⟨AA,V,W⟩:=Ho
 try dsimp only
 refine RK A2<|ar<|jS 7 U (by exact fun _ h=>h)<|jS 9 U (by exact fun _ h=>h)<|jS 11 U (by exact fun _ h=>h)<|jS 13 U (by exact fun _ h=>h)<|f_ 3 1 ?_
 refine Ao (L0:=[(0,(vP gw)),(1,(vI (s:Int))),(5,(Value.map (some M))),(7,(vS a l.length c)),(8,(vS qa ((E::rest).length) qc)),(9,(vP f))]) (F:=[(rd kA d.ak.length 9 (d.ak.map ab.cells)).ro,(rd pA d.aA.length 7 (d.aA.map aj.cells)).ro,(rd nA d.bk.length 3 (d.bk.map cH.cells)).ro,(bm gw 188 (dL.cells (dL.mk (aW.mk (ag.mk (aJ.mk kA d.ak.length kC)) (aJ.mk pA d.aA.length pC) (aJ.mk nA d.bk.length nC) d.bM d.bP) (aJ.mk tA tN tC)))).ro,(bm AA 125 [(vP gw)]),(nt iV M (dM vB m)),(bm V 216 [(Value.map (some M))]),(bm W 37 (ae.cells E))]) (fun k (y:(OA)×Nat)=>True) (fun k y=>[(own y.1 y.2 3 1 (k.map iC)),(bm f 67 [(vS y.1 k.length y.2)]),(eB (N.map mK)),(own a c 3 1 (l.map iC)),(oq qa qc 37 3 ((E::rest).map ae.cells)),(rd kA d.ak.length 9 (d.ak.map ab.cells)).ro,(rd pA d.aA.length 7 (d.aA.map aj.cells)).ro,(rd nA d.bk.length 3 (d.bk.map cH.cells)).ro,(bm gw 188 (dL.cells (dL.mk (aW.mk (ag.mk (aJ.mk kA d.ak.length kC)) (aJ.mk pA d.aA.length pC) (aJ.mk nA d.bk.length nC) d.bM d.bP) (aJ.mk tA tN tC)))).ro]) (fun _ (_:Unit)=>False) (fun _ _=>[]) [0,8,9,10,11,12,13,14,15] [4,3,2,1,5,16,6,7] (none,0) rfl rfl (CI d kA kC pA pC nA nC tA tN tC gw m L M E AA V W (by first|assumption|omega|(simp; done)) (by first|assumption|omega|(simp; done)) (by first|assumption|omega|(simp; done)) (by exact Go) (by exact H)) rfl rfl rfl (by first|trivial|simp) (by simp only [List.forall_mem_cons,List.not_mem_nil,false_imp_iff,implies_true,and_true]; exact ⟨⟨_,sm,(fg (cm _))⟩,⟨_,sm,(fg (cm _))⟩,⟨_,sm,(fg (cm _))⟩,⟨_,sm,(fg (cm _))⟩,⟨_,sm,(cm _)⟩,⟨_,sm,(cm _)⟩,⟨_,sm,(cm _)⟩,⟨_,sm,(cm _)⟩⟩) (by rintro k x k2 ⟨i,_,_,_,rfl,_⟩; rfl) rfl (bg rfl) ?_ ?_ (fun _ _ _ h=>h.elim) (fun _ _ h=>h.elim)
 ·rintro k x k2 ⟨a1,c1⟩ l ra rb S w1 K32 Qr33 J1 hx Fs A3 Z Hi H1
  obtain ⟨i,hi,JV,C1,rfl,rfl⟩:=hx
  try dsimp only
  refine ao<|rP 1 [] mn ?_
  refine aB<|aY (A3 _ _ ?_)
  refine ar<|ao<|rP 2 [] (mc 2 U mn) ?_
  refine bX (xs:=[.tmp 50]) (cs:=[(vI (i:Int))]) U cK g6 U U U U (by simp [Value.cells]) U U fun IR=>?_
  refine eN (es2:=(List.map iC (k++[(i:Int)]))) (m':=(k++[(i:Int)]).length) 2 U U U od U U sm (aH (es:=List.map iC [(i:Int)]) 0 U U (by simp [bq]) U) (lk _) (by rw [C1]; have:=jF (n:=i) (p:=gF d L E); omega) (by rw [C1]; have:=jF (n:=i) (p:=gF d L E); simp only [maxLen]; omega) sm sm U fun C2 Di=>?_
  try dsimp only
  refine JC U E8 U U<|aB<|aI ?_
  exact Z (C2,Di) _ _ (by trivial) (aN [1,2,3,4,5,6,7,8,9,10])
 rintro HO k ⟨a1,c1⟩ K GD
 try dsimp only
 refine aI<|KK A1<|al fun _ A4=>WS fun _ A5=>?_
 have GE:=jF (n:=d.aA.length) (p:=gF d L E)
 rw [show fz d.aA.length (gF d L E)=k from K.symm] at GE
 have Ix:=tI B
 refine rP 3 [] (mc 10 U mn) ?_
 refine RK A5<|ar ?_
 rw [show E::rest=E::(rest++(k.take 0).map (gd d)) from by simp]
 have C:(0≤k.length)∧(fV m (fun i=>L i∧(i:Int) ∉ k.take 0))∧(m.length+0=m.length):=by exact ⟨Nat.zero_le _,nJ H fun q=>by simp,rfl⟩
 have Ck:(vS qa ((E::(rest++(k.take 0).map (gd d))).length) qc)=(vS qa ((E::(rest++(k.take 0).map (gd d))).length) qc):=by simp
 refine br (ι:={z:Nat×BM×(OA)×Nat // (z.1≤k.length)∧(fV z.2.1 (fun i=>L i∧(i:Int) ∉ k.take z.1))∧(z.2.1.length+z.1=m.length)}) [0,1,5,7,9,53,54] [0,1,2,3,4,9,10,11,12,14,15,16,17] U U (fun z=>[(8,(vS z.1.2.2.1 ((E::(rest++(k.take z.1.1).map (gd d))).length) z.1.2.2.2)),(55,(vI (z.1.1:Int)))]) (fun z=>[(nt iV M (dM vB z.1.2.1)),(oq z.1.2.2.1 z.1.2.2.2 37 3 (List.map ae.cells (E::(rest++(k.take z.1.1).map (gd d)))))]) (fun _=>rfl) (fun _=>rfl) (fun z=>k.length-z.1.1) ⟨(0,m,qa,qc),C⟩ (aR U Ck<|bg U) (aN [0,1,2,3,4,9,10,11,12,14,15,16,17,6,13]) ?_
 clear C
 rintro ⟨⟨j,m2,q2,g⟩,⟨O,G,P⟩⟩ J43 r
 try dsimp only at O G P
 try dsimp only
 refine WS fun _ A6=>rP 1 [] mn ?_
 refine RK A6<|al fun _ A7=>bH U (aL fun ET=>?_) (aM fun ET=>?_)
 ·refine bo<|ai<|ai<|aw<|KK A4<|ao<|rP 2 [] (mc 6 U mn) ?_
  refine eN (es2:=(List.map iC (l++k))) (m':=(l++k).length) 8 U U U od U U sm (aQ (n:=k.length) 5 U sm) (lk _) om (by simp only [maxLen]; omega) sm sm U fun DN EI=>?_
  try dsimp only
  refine aU 1 U<|aB<|aI<|KK Ay<|ao<|aU 1 U<|rS (Jx 1 U p7 U sm)<|rP 1 [] mn ?_
  refine aB<|D_ (X:=N.map mK) 7 0 U U ?_
  try dsimp only
  refine Dg (A:=oq q2 g 37 3 (ae.cells E::List.map ae.cells (rest++(k.take j).map (gd d)))) (C':=[_,_,_,_,_,_,_,_,_,_,_,_,_,(oq (mJ q2 g 1 3) (g-1) 37 3 (List.map ae.cells (rest++(k.take j).map (gd d))))]) 13 U B7 U ?_
  refine aY (o ⟨(m2,(fun i=>L i∧(i:Int) ∉ k.take j),(l++k),DN,EI,(rest++(k.take j).map (gd d)),(mJ q2 g 1 3),(g-1),(HO::N)),⟨G,by rw [show k.take j=k from List.take_of_length_le om]; rw [show k=l_ d L E from K]; exact xf B (fun q=>Iff.rfl),by have h1:=AB; simp only [List.length_cons,List.length_append,List.length_map,List.length_take] at h1 ⊢; omega⟩⟩ _ _ _ U (by simp only [List.length_cons,List.length_append,List.length_map,List.length_take]; omega) (bg U) (aN [0,7,13,1,2,3,4,12]))
 refine WK A7<|al fun _ A8=>ar<|WS fun _ A9=>?_
 obtain ⟨x,hx⟩:=bh k j om
 have Gw:=bp iC hx
 refine rS (IA j U (aQ (n:=k.length) 5 U sm) cK dc om om)<|rS (fT j 0 (vI x) U bQ (aQ (n:=k.length) 5 U sm) Gw U dc U)<|rP 1 [] mn ?_
 refine RK A9<|WS fun _ Bf=>?_
 obtain ⟨i,C0,Iq,Fn,p0,JQ,In⟩:=iG.1 (show x∈fz d.aA.length (gF d L E) from by have e0:k=fz d.aA.length (gF d L E):=K; rw [← e0]; exact aG hx)
 have JY:rest.length≤100:=by have h1:=AB; simp only [List.length_cons] at h1; omega
 refine aU 2 U<|u7 (kV:=iV) (x:=x) (C':=[_,_,_,_,_,_,_,_,_,_,_,_,_,(nt iV M (dM vB (eV m2 x))),_]) 13 U U U U v8 (jc oe) U (qb _ _ _).symm U<|RK Bf<|ao<|aU 2 U<|rS (SX (cu U U) U U)<|rP 4 [] (mr 4 U mn) ?_
 obtain ⟨p,hp⟩:=bh d.aA ((x).toNat) om
 have GT:=bp aj.cells hp
 refine rS (IA ((x).toNat) U (ay 2 U) sH dc om om)<|rS (lp ((((x).toNat)*7)+2) U (ay 2 U) (Nat.mul_pos om dc) fh U)<|rS (jq ((x).toNat) 2 (ae.cells p.de) U bQ (ay 2 U) GT U dc U U)<|bX (xs:=[.tmp 70]) (cs:=(ae.cells p.de)) U p7 yw U U U U (by simp [Value.cells,ae.aq]) U U fun Ib=>?_
 refine xS (es2:=(List.map ae.cells (E::(rest++(k.take (j+1)).map (gd d))))) (m':=(E::(rest++(k.take (j+1)).map (gd d))).length) 15 U U U Hw U U sm (aH (es:=List.map ae.cells [p.de]) 0 U U (by simp [ae.aq]) U) (o6 _) dc (by simp; omega) (by simp [maxLen]; omega) (by rw [qO hx hp]; simp) sm U fun DA Do=>?_
 try dsimp only
 refine aU 1 U<|aB<|aI<|KK A8<|ao<|rP 2 [] mn ?_
 refine aB ?_
 have Cp:(vI (((j+1):Nat):Int))=(vI ((j:Int)+1)):=by exact cI om
 refine aY (r ⟨((j+1),(eV m2 x),DA,Do),⟨om,AK G hx C0,by have:=th G (show k.Nodup from by have e0:k=l_ d L E:=K; rw [e0]; exact vq) hx C0 Fn; dsimp only; omega⟩⟩ _ _ _ U os (b_ 8<|aR U Cp<|cL.nil _) (aN [1,2,3,4,5,6,7,8,9,10,11,12,13,14,15]))
end
section
open Go.RowKit
theorem zG (x:Int) (d:ah) (kA:OA) (kC:Nat) (pA:OA) (pC:Nat) (nA:OA) (nC:Nat) (tz:List RA) (tA:OA) (tC gw:Nat) (n:cH) (g1 g2:Nat) (hin:fk d) (htr:a9 d.ak=true) (hok:gL d) (htz:tz.length=d.aA.length) (hn:cb d.ak n) (hx:0≤x∧x<(d.aA.length:Int)):
 cz Tryz.prog 134 [(vI x),(vP g1),(vP g2)] [(rd kA d.ak.length 9 (d.ak.map ab.cells)),(rd pA d.aA.length 7 (d.aA.map aj.cells)),(rd nA d.bk.length 3 (d.bk.map cH.cells)),(rd tA ((dJ d).length) 1 (List.zipWith eI (dJ d) tz)),(ky (ei eY (dJ d) tz)),(bm gw 188 (dL.cells (dL.mk (aW.mk (ag.mk (aJ.mk kA d.ak.length kC)) (aJ.mk pA d.aA.length pC) (aJ.mk nA d.bk.length nC) d.bM d.bP) (aJ.mk tA ((dJ d).length) tC)))),(bm g1 125 [(vP gw)]),(bm g2 176 (cH.cells n))] (vB (!(decide (kD d n x)))):=by
 have O:=hin.jP
 have M:=hin.side
 have AA:=hin.sG
 have S:=hin.rq
 have R:=hin.nk
 have T:=hin.pk
 unfold cb at hn
 have V:=nf (d:=d)
 refine bf kr Tryz.func134 U U fun W Q hQ hN=>?_
 try dsimp only
 refine WS fun _ K=>aU 1 U<|RK K<|al fun _ H=>dF cx 29 kr<|jA 1 [] (mr 6 U mn) U<|dS (SX (cu U U) U U)<|dP 4 [] (mr 5 U mn) ?_
 obtain ⟨p,hp⟩:=bh d.aA ((x).toNat) om
 have L:=bp aj.cells hp
 refine dS (IA ((x).toNat) U (ay 1 U) sH dc om om)<|dS (lp ((((x).toNat)*7)+1) U (ay 1 U) (Nat.mul_pos om dc) fh U)<|dS (fT ((x).toNat) 1 (Value.int .u8 p.Kind) U bQ (ay 1 U) L U dc U)<|jA 2 [] (mr 7 U mn) U<|dS (BI U fW)<|dP 1 [] mn ?_
 refine dY (t:=17) U (aP fun A=>?_) (aO fun A=>?_)
 ·refine fQ 6 U<|dP 10 [] mn ?_
  refine cj<|RK H<|an<|Q1 hQ U U U ?_
  first|(refine congrArg Value.bool ?_; rw [decide_eq_false (fun q=>by have N:=(mz hp).1 q; first|omega|exact A N.1)]; rfl)|(refine congrArg Value.bool ?_; have F:tm=j1 d.ak p n.ax:=(by rw [E] at C; have G:=rA C; rw [Int.toNat_of_nonneg hn.1.1] at G; exact G); rw [show decide (kD d n x)=decide (tm≤n.g_) from decide_eq_decide.2 (by rw [mz hp,F]; exact ⟨fun q=>q.2,fun q=>⟨om,q⟩⟩)]; rw [← decide_not]; exact decide_eq_decide.2 om)
 refine jA 1 [] (mr 6 U mn) U<|dS (SX (cu U U) U U)<|dP 3 [] (mr 5 U mn) ?_
 obtain ⟨ms,D⟩:=bh (dJ d) ((x).toNat) om
 obtain ⟨msa,B⟩:=bh tz ((x).toNat) om
 have AB:(List.zipWith eI (dJ d) tz)[(x).toNat]? =some (eI ms msa):=jv D B
 refine dS (IA ((x).toNat) U (ay 3 U) iO dc om om) ?_
 have E:=xV hp D
 have P:ms.length=d.ak.length:=by rw [E]; exact jJ
 refine dS (fT ((x).toNat) 0 (vS msa.1 ms.length msa.2) U bQ (ay 3 U) AB U dc U)<|dP 2 [] (mr 7 U mn) ?_
 obtain ⟨tm,C⟩:=bh ms ((n.ax).toNat) om
 have J:=bp iC C
 refine dS (IA ((n.ax).toNat) U (show iK _ (rd msa.1 ms.length 1 (ms.map iC)).holds from (dD 4 U (cR D B (by simp [eY])))) cK dc om om)<|dS (fT ((n.ax).toNat) 0 (vI tm) U bQ (show iK _ (rd msa.1 ms.length 1 (ms.map iC)).holds from (dD 4 U (cR D B (by simp [eY])))) J U dc U)<|dP 5 [] (mr 7 U mn) ?_
 refine cj<|RK H<|an<|Q1 hQ U U U ?_
 first|(refine congrArg Value.bool ?_; rw [decide_eq_false (fun q=>by have N:=(mz hp).1 q; first|omega|exact A N.1)]; rfl)|(refine congrArg Value.bool ?_; have F:tm=j1 d.ak p n.ax:=(by rw [E] at C; have G:=rA C; rw [Int.toNat_of_nonneg hn.1.1] at G; exact G); rw [show decide (kD d n x)=decide (tm≤n.g_) from decide_eq_decide.2 (by rw [mz hp,F]; exact ⟨fun q=>q.2,fun q=>⟨om,q⟩⟩)]; rw [← decide_not]; exact decide_eq_decide.2 om)
theorem Ct (l:List Int) (lA:OA) (lC:Nat) (hlen:l.length≤1000000):
 lx Tryz.prog 133 [(vS lA l.length lC)] [(rd lA l.length 1 (l.map iC))] (fun (x:(OA)×Nat)=>(vS x.1 l.length x.2)) (fun (x:(OA)×Nat)=>True) (fun (x:(OA)×Nat)=>[(own x.1 x.2 3 1 (l.map iC))]):=by
 refine dT kr Tryz.func133 U U fun L Q hQ hN=>?_
 try dsimp only
 refine WS fun _ D=>aU 1 U<|RK D<|al fun _ E=>WS fun _ F=>rP 1 [] mn ?_
 refine rS (BI U (AP CT))<|RK F<|cd U (aM fun B=>?_) (aL fun B=>?_)
 ·refine WS fun _ G=>ud (ay 0 U) B dc fun C=>?_
  have A:l=[]:=by simpa using C
  refine mG 3 1 ?_
  rw [show (own none 0 3 1 ([]:List (List Value)))=own none 0 3 1 (l.map iC) from by rw [A]; rfl]
  refine rP 1 [] mn ?_
  refine RK G<|an ?_
  refine LX hQ (none,0) [0] [] mn U U U ?_ ?_
  ·first|rfl|(rw [A]; rfl)
  ·trivial
 refine WK E<|WS fun _ H=>CY U cK U fun J=>rP 1 [] mn ?_
 refine fD (es:=(List.map iC [])) (C':=[own (some ⟨J,0,none⟩) 0 3 1 (List.map iC []),_]) 0 U sm U (by simp [maxLen]) U ?_
 refine eN (es2:=(List.map iC l)) (m':=l.length) 0 U U U od U U sm (ay 1 U) (lk _) os (by (simp only [maxLen]; omega)) sm sm U fun AA K=>?_
 try dsimp only
 refine rP 1 [] mn ?_
 refine RK H<|an ?_
 refine LX hQ (AA,K) [0] [] mn U U U ?_ ?_
 ·first|rfl|(rw [A]; rfl)
 ·trivial
theorem yr (l:List Int) (lA:OA) (lC:Nat) (f:Value) (p:Int→Bool) (X:au) (hf: ∀ x0,x0∈l→sR Tryz.prog f [.int .i64 x0] [X] (.bool (p x0))) (hlen:l.length≤1000000):
 Bi Tryz.prog 132 [(vS lA l.length lC),f] [X] (own lA lC 3 1 (l.map iC)) (fun (x:(List Int))=>(vS lA x.length lC)) (fun (x:(List Int))=>x=(l.filter fun u=> !p u)) (fun (x:(List Int))=>(own lA lC 3 1 (x.map iC))):=by
 refine oD kr Tryz.func132 U U fun w0 Q hQ hN=>?_
 try dsimp only
 refine WS fun _ b=>aU 1 U<|RK b<|WS fun _ c=>aU 2 U<|rS (CL (wV l lA lC f p X (by exact hf) hlen) (aK (aQ (n:=l.length) 0 U sm)<|eM 1 U U<|av) U)<|aU 1 U<|RK c<|al fun _ d=>WS fun _ e=>rP 2 [] mn ?_
 refine RK e<|cd U (aM fun E=>?_) (aL fun E=>?_)
 ·refine WS fun _ g=>?_
  have AB:=zh E
  refine rP 2 [] mn ?_
  refine RK g<|an ?_
  refine LM hQ l 0 [] mn U U U ?_ ?_
  ·first|rfl|(rw [C.2]<;>rfl)
  ·first|rfl|exact AB
 refine WK d<|al fun _ h=>WS fun _ m=>?_
 obtain ⟨AC,t⟩:=yi (p:=p) (l:=l) E
 refine rP 3 [] mn ?_
 refine RK m<|ar ?_
 have F:(((eD p l).toNat)≤((eD p l).toNat+1)∧((eD p l).toNat+1)≤l.length)∧(og p l l ((eD p l).toNat) ((eD p l).toNat+1)):=by exact ⟨om,t⟩
 have r:(vI ((((eD p l).toNat):Nat):Int))=(vI (eD p l)):=by exact cI om
 have s:(vI ((((eD p l).toNat+1):Nat):Int))=(vI ((eD p l)+1)):=by exact cI om
 refine br (ι:={z:Nat×Nat×(List Int) // (z.1≤z.2.1∧z.2.1≤l.length)∧(og p l z.2.2 z.1 z.2.1)}) [0,1] [1] U U (fun z=>[(5,(vI (z.1.1:Int))),(6,(vI (z.1.2.1:Int)))]) (fun z=>[(own lA lC 3 1 (z.1.2.2.map iC))]) (fun _=>rfl) (fun _=>rfl) (fun z=>l.length-z.1.2.1) ⟨((eD p l).toNat,((eD p l).toNat+1),l),F⟩ (aR U r<|aR U s<|cL.nil _) (aN [1,0]) ?_
 clear F
 rintro ⟨⟨i,j,q⟩,⟨K,A⟩⟩ J10 G
 try dsimp only at K A
 try dsimp only
 have D:=A.len
 refine al fun _ M=>WS fun _ N=>rP 4 [] mn ?_
 refine RK N<|bH U (aL fun Z=>?_) (aM fun Z=>?_)
 ·refine bo<|ai<|ai<|aw<|KK h<|WS fun _ S=>?_
  have D:=A.len
  have C:=A.done om
  refine rP 2 [] mn ?_
  refine rS (Jx i U cK om os) ?_
  refine CR (k:=i) 1 rfl rfl od (by intro v hv; simp [Value.cells] at hv; subst hv; rfl) rfl (by simp [D]) om ?_
  try dsimp only
  rw [show (own lA lC 3 1 ((q.map iC).take i))=(own lA lC 3 1 ((l.filter fun u=> !p u).map iC)) from by rw [← C.1,List.map_take]]
  refine RK S<|WS fun _ T=>rP 2 [] mn ?_
  refine Fg 1 U fun J=>?_
  have AH:i≤lC:=by rw [List.length_map,C.2] at J; exact J
  refine rS (HK i U cK om (by first|omega|exact Nat.zero_le _|(simp; omega))) ?_
  refine rP 1 [] mn ?_
  refine RK T<|an ?_
  refine LM hQ (l.filter fun u=> !p u) 1 [] mn U U U ?_ ?_
  ·first|rfl|(rw [C.2]<;>rfl)
  ·first|rfl|exact AB
 refine WK M<|al fun _ H=>ar<|WS fun _ O=>rP 2 [] mn ?_
 obtain ⟨y,hy⟩:=bh q j om
 have L:=bp iC hy
 refine rS (IA j U (aQ (n:=l.length) 1 U sq) cK dc om om) ?_
 refine rS (fT j 0 (vI y) U bQ (aQ (n:=q.length) 1 U sm) L U dc U)<|aU 1 U<|RK O<|WS fun _ P=>rP 2 [] mn ?_
 have L:y∈l:=A.mem hy
 refine rS (SX (kb U U U (hf y L) (aX [0])) U U)<|rP 1 [] mn ?_
 refine RK P<|bH U (fun B=>?_) (fun B=>?_)
 ·rw [Bool.not_eq_false'] at B
  refine bS<|aI<|KK H<|ao<|rP 3 [] mn ?_
  refine aB ?_
  have W:(vI (i:Int))=(vI (i:Int)):=by exact cI om
  have Y:(vI (((j+1):Nat):Int))=(vI ((j:Int)+1)):=by exact cI om
  refine aY (G ⟨(i,(j+1),q),⟨dso,by first|exact A.kQ D om hy B|exact A.skip D hy B⟩⟩ _ _ _ U os (cL.cons U<|cL.cons U<|aR U W<|aR U Y<|cL.nil _) (aN [0,1]))
 rw [Bool.not_eq_true'] at B
 refine WS fun _ R=>rP 3 [] mn ?_
 obtain ⟨z,hz⟩:=bh q i om
 have w:=bp iC hz
 refine rS (IA i U (aQ (n:=l.length) 1 U sq) cK dc om om) ?_
 refine dB (k:=i) (o:=0) (vs:=[(vI y)]) (es':=(List.map iC (q.set i y))) (C':=[_,(own lA lC 3 1 (List.map iC (q.set i y)))]) 1 U U U vw U U U U w U dc (by exact (List.map_set (f:=iC) (l:=q) (i:=i) (a:=y)).symm) U<|RK R<|ao<|aU 3 U<|aB<|aI<|KK H<|ao<|rP 3 [] mn ?_
 refine aB ?_
 have AA:(vI (((i+1):Nat):Int))=(vI ((i:Int)+1)):=by exact cI om
 have V:(vI (((j+1):Nat):Int))=(vI ((j:Int)+1)):=by exact cI om
 refine aY (G ⟨((i+1),(j+1),(q.set i y)),⟨dso,by first|exact A.kQ D om hy B|exact A.skip D hy B⟩⟩ _ _ _ U os (cL.cons U<|cL.cons U<|aR U AA<|aR U V<|cL.nil _) (aN [0,1]))
end
section
open Go.RowKit
theorem yL (d:ah) (kA:OA) (kC:Nat) (pA:OA) (pC:Nat) (nA:OA) (nC:Nat) (tz:List RA) (tA:OA) (tC gw:Nat) (n:cH) (cl:List Int) (clA:OA) (clC:Nat) (hin:fk d) (htr:a9 d.ak=true) (hok:gL d) (htz:tz.length=d.aA.length) (hn:cb d.ak n) (hc: ∀ x∈cl,0≤x∧x<(d.aA.length:Int)) (hcl:cl.length≤1000000):
 lx Tryz.prog 94 [(vP gw),(vA (cH.cells n)),(vS clA cl.length clC)] [(rd kA d.ak.length 9 (d.ak.map ab.cells)),(rd pA d.aA.length 7 (d.aA.map aj.cells)),(rd nA d.bk.length 3 (d.bk.map cH.cells)),(rd tA ((dJ d).length) 1 (List.zipWith eI (dJ d) tz)),(ky (ei eY (dJ d) tz)),(bm gw 188 (dL.cells (dL.mk (aW.mk (ag.mk (aJ.mk kA d.ak.length kC)) (aJ.mk pA d.aA.length pC) (aJ.mk nA d.bk.length nC) d.bM d.bP) (aJ.mk tA ((dJ d).length) tC)))),(rd clA cl.length 1 (cl.map iC))] (fun (x:(OA)×Nat)=>(vS x.1 ((cl.filter fun x=>decide (kD d n x)).length) x.2)) (fun (x:(OA)×Nat)=>True) (fun (x:(OA)×Nat)=>[(own x.1 x.2 3 1 ((cl.filter fun x=>decide (kD d n x)).map iC))]):=by
 have L:=hin.jP
 have H:=hin.side
 have P:=hin.sG
 have N:=hin.rq
 have M:=hin.nk
 have O:=hin.pk
 refine dT kr Tryz.func94 U U fun T Q hQ hN=>?_
 try dsimp only
 refine WS fun _ D=>o4 U U fun B=>ej U fun C=>aU 1 U<|RK D<|WS fun _ E=>rP 1 [] mn ?_
 refine cX (Ct cl clA clC (by exact hcl)) (aX [8]) U fun S R=>?_
 obtain ⟨J,K⟩:=S
 try dsimp only
 refine rS (FU U) ?_
 refine kS 0 U U U U (xu (yr cl J K (Value.func (.func 134) [].toArray [(vP B),(vP C)].toArray) (fun AA=>(!(decide (kD d n AA)))) (ky [(rd kA d.ak.length 9 (d.ak.map ab.cells)),(rd pA d.aA.length 7 (d.aA.map aj.cells)),(rd nA d.bk.length 3 (d.bk.map cH.cells)),(rd tA ((dJ d).length) 1 (List.zipWith eI (dJ d) tz)),(ky (ei eY (dJ d) tz)),(bm gw 188 (dL.cells (dL.mk (aW.mk (ag.mk (aJ.mk kA d.ak.length kC)) (aJ.mk pA d.aA.length pC) (aJ.mk nA d.bk.length nC) d.bM d.bP) (aJ.mk tA ((dJ d).length) tC)))),(bm B 125 [(vP gw)]),(bm C 176 (cH.cells n))]) (by intro AA A; exact hZ (fi:=[]) (ca:=[(vP B),(vP C)]) (gu (zG AA d kA kC pA pC nA nC tz tA tC gw n B C (by first|assumption|exact hc _ A|omega) (by first|assumption|exact hc _ A|omega) (by first|assumption|exact hc _ A|omega) (by first|assumption|exact hc _ A|omega) (by first|assumption|exact hc _ A|omega) (by first|assumption|exact hc _ A|omega)) (aX [0,1,2,3,4,5,6,7]))) om)) U (iU 3 U U (fg (cm _)) (iU 4 U U (fg (cm _)) (iU 5 U U (fg (cm _)) (iU 6 U U (fg (cm _)) (iU 7 U U (fg (cm _)) (iU 8 U U (fg (cm _)) (iU 2 U U (cm _) (iU 1 U U (cm _) m8)))))))) U (fun mm F=>?_)
 try dsimp only
 have G:mm=(cl.filter fun x=>decide (kD d n x)):=by rw [F]; simp only [Bool.not_not]
 rw [G]
 refine rP 1 [] mn ?_
 refine RK E<|an<|LX hQ (J,K) [0] [] mn U U U U ?_
 trivial
end
section
open Go.RowKit
theorem yW (d:ah) (kA:OA) (kC:Nat) (pA:OA) (pC:Nat) (nA:OA) (nC:Nat) (tz:List RA) (tA:OA) (tC gw s:Nat) (hin:fk d) (htr:a9 d.ak=true) (hok:gL d) (htz:tz.length=d.aA.length) (hsb:s<256):
 lx Tryz.prog 51 [(vP gw),(vI (s:Int))] [(rd kA d.ak.length 9 (d.ak.map ab.cells)),(rd pA d.aA.length 7 (d.aA.map aj.cells)),(rd nA d.bk.length 3 (d.bk.map cH.cells)),(rd tA ((dJ d).length) 1 (List.zipWith eI (dJ d) tz)),(ky (ei eY (dJ d) tz)),(bm gw 188 (dL.cells (dL.mk (aW.mk (ag.mk (aJ.mk kA d.ak.length kC)) (aJ.mk pA d.aA.length pC) (aJ.mk nA d.bk.length nC) d.bM d.bP) (aJ.mk tA ((dJ d).length) tC))))] (fun (x:(OA)×Nat)=>(vS x.1 ((kg d (ir s)).length) x.2)) (fun (x:(OA)×Nat)=>True) (fun (x:(OA)×Nat)=>[(own x.1 x.2 3 1 ((kg d (ir s)).map iC))]):=by
 have c:=hin.jP
 have a:=hin.side
 have v:=hin.sG
 have t:=hin.rq
 have r:=hin.nk
 have u:=hin.pk
 have o:=hok.len
 refine dT kr Tryz.func51 U U fun w0 Q hQ hN=>?_
 try dsimp only
 refine WS fun _ T=>aU 1 U<|RK T<|sD U<|WS fun _ AA=>rP 2 [] mn ?_
 refine cX (yp d kA kC pA pC nA nC tA ((dJ d).length) tC gw s hin htr hok hsb) (aX [0,1,2,5]) U fun y w=>?_
 obtain ⟨g,l⟩:=y
 try dsimp only
 refine aU 1 U<|RK AA<|WS fun _ V=>aU 1 U<|RK V<|al fun _ W=>sb<|KK W<|al fun _ X=>WS fun _ F=>aU 1 U<|rS (SX (cu U U) U U)<|rP 5 [] (mr 6 U mn) ?_
 refine RK F<|ar<|f_ 3 1 ?_
 have B:(0≤d.bk.length):=by exact Nat.zero_le _
 refine br (ι:={z:Nat×(OA)×Nat // (z.1≤d.bk.length)}) [0,1,5,16,17] [1,2,3,4,5,6,7] U U (fun z=>[(6,(vS z.1.2.1 ((fz z.1.1 (jN d (ir s))).length) z.1.2.2)),(18,(vI (z.1.1:Int)))]) (fun z=>[(own z.1.2.1 z.1.2.2 3 1 ((fz z.1.1 (jN d (ir s))).map iC))]) (fun _=>rfl) (fun _=>rfl) (fun z=>d.bk.length-z.1.1) ⟨(0,none,0),B⟩ (bg U) (aN [1,2,3,4,5,6,7,0]) ?_
 clear B
 rintro ⟨⟨j,la,lc⟩,E⟩ J11 C
 try dsimp only at E
 try dsimp only
 refine WS fun _ G=>rP 1 [] mn ?_
 refine RK G<|al fun _ H=>bH U (aL fun S=>?_) (aM fun S=>?_)
 ·refine bo<|ai<|ai<|aw<|KK X<|WS fun _ L=>?_
  rw [show fz j (jN d (ir s))=kg d (ir s) from by unfold kg; rw [show j=d.bk.length by omega]]
  refine rP 2 [] mn ?_
  refine RK L<|an<|LX hQ (la,lc) [7] [] mn U U U U ?_
  trivial
 refine WK H<|al fun _ D=>ar<|WS fun _ AB=>rP 1 [] mn ?_
 obtain ⟨n,hn⟩:=bh d.bk j om
 have Y:=bp cH.cells hn
 refine rS (IA j U (ay 3 U) DS dc om om)<|rS (jq j 0 (cH.cells n) U bQ (ay 3 U) Y U dc U U)<|AL U Dw fun h=>rP 1 [] mn ?_
 refine eC U DB U<|RK AB<|al fun _ J=>WS fun _ K=>?_
 have Z:=hok.g0 n (aG hn)
 refine rP 3 [] (mc 0 U mn) ?_
 refine cX (yL d kA kC pA pC nA nC tz tA tC gw n (iB d (ir s)) g l hin htr hok htz (by exact Z) (by exact vv) (by exact Nat.le_trans vh om)) (pW [2,3,4,5,6,7]<|aK (aQ (n:=(iB d (ir s)).length) 1 U sm)<|av) U fun b e=>?_
 obtain ⟨f,k⟩:=b
 try dsimp only
 rw [rY]
 refine rP 2 [] mn ?_
 refine RK K<|cd U (aM fun A=>?_) (aL fun A=>?_)
 ·refine bo<|ai<|aw<|KK D<|ao<|rP 2 [] mn ?_
  refine aB ?_
  rw [show (fz j (jN d (ir s)))=(fz (j+1) (jN d (ir s))) from (mo (fun q=>by obtain ⟨n2,O,m⟩:=q; rw [hn] at O; cases O; rw [m] at A; simp at A)).symm]
  have M:(vI (((j+1):Nat):Int))=(vI ((j:Int)+1)):=by exact cI om
  refine aY (C ⟨((j+1),la,lc),(by first|omega|(simp only []; omega))⟩ _ _ _ U os (b_ 6<|aR U M<|cL.nil _) (aN [2,3,4,5,6,7,8,9]))
 refine WK J<|ao<|rP 2 [] mn ?_
 refine bX (xs:=[.tmp 30]) (cs:=[(vI (j:Int))]) U cK g6 U U U U (by simp [Value.cells]) U U fun i=>?_
 refine eN (es2:=(List.map iC (fz (j+1) (jN d (ir s))))) (m':=(fz (j+1) (jN d (ir s))).length) 10 U U U od U U sm (aH (es:=List.map iC [(j:Int)]) 0 U U (by simp [bq]) U) (lk _) (by have:=jF (n:=j) (p:=jN d (ir s)); omega) (by have:=jF (n:=j) (p:=jN d (ir s)); simp only [maxLen]; omega) (by rw [kv (p:=jN d (ir s)) ⟨n,hn,px om⟩]; simp) sm U fun P R=>?_
 try dsimp only
 refine aU 1 U<|aB<|aI<|KK D<|ao<|rP 2 [] mn ?_
 refine aB ?_
 have N:(vI (((j+1):Nat):Int))=(vI ((j:Int)+1)):=by exact cI om
 refine aY (C ⟨((j+1),P,R),(by first|omega|(simp only []; omega))⟩ _ _ _ U os (b_ 6<|aR U N<|cL.nil _) (aN [3,4,5,6,7,8,9,10]))
end
section
open Go.RowKit
theorem wv (d:ah) (kA:OA) (kC:Nat) (pA:OA) (pC:Nat) (nA:OA) (nC:Nat) (l:List Int) (lA:OA) (lC:Nat) (hin:fk d) (hll:l.length≤1000000):
 lx Tryz.prog 19 [(vA (aW.cells (aW.mk (ag.mk (aJ.mk kA d.ak.length kC)) (aJ.mk pA d.aA.length pC) (aJ.mk nA d.bk.length nC) d.bM d.bP))),(vS lA l.length lC)] [(rd kA d.ak.length 9 (d.ak.map ab.cells)),(rd pA d.aA.length 7 (d.aA.map aj.cells)),(rd nA d.bk.length 3 (d.bk.map cH.cells)),(rd lA l.length 1 (l.map iC))] (fun (x:(OA)×Nat)=>(vT [(vS x.1 ((ed d l).length) x.2),(vI (eR d l))])) (fun (x:(OA)×Nat)=>True) (fun (x:(OA)×Nat)=>[(own x.1 x.2 3 1 ((ed d l).map iC))]):=by
 have b:=hin.jP
 have V:=hin.side
 have i:=hin.sG
 have g:=hin.rq
 have f:=hin.nk
 have h:=hin.pk
 refine dT kr Tryz.func19 U U fun q Q hQ hN=>?_
 try dsimp only
 refine WS fun _ R=>ej U fun p=>aU 2 U<|RK R<|WS fun _ G=>rP 2 [] (mc 0 U mn) ?_
 refine cX (zV d kA kC pA pC nA nC l lA lC hin hll) (aX [1,2,3,4]) U fun o K=>?_
 obtain ⟨L,e,P,X,Y,M⟩:=o
 cases L
 ·obtain ⟨AB,he⟩:=K.2 rfl
  try dsimp only at AB he
  subst AB
  try dsimp only [cond_true,cond_false,List.cons_append,List.nil_append]
  refine aU 7 U<|RK G<|al fun _ a=>WS fun _ B=>rP 2 [] mn ?_
  refine RK B<|bH U (aO fun A=>?_) (aP fun A=>?_)
  ·exact absurd A he
  refine WS fun _ C=>mG 3 1 ?_
  rw [show (own none 0 3 1 ([]:List (List Value)))=own none 0 3 1 ((ed d l).map iC) from by rw [oo he]; rfl]
  refine aU 1 U<|rP 2 [] mn ?_
  refine RK C<|an ?_
  refine LX hQ (none,0) [0] [] mn U U U ?_ ?_
  ·first|rfl|(rw [oo he]; rfl)|(rw [he]; rfl)
  ·trivial
 obtain ⟨he,W⟩:=K.1 rfl
 try dsimp only [cond_true,cond_false,List.cons_append,List.nil_append]
 obtain ⟨T,S⟩:=uo he
 obtain ⟨m,AA⟩:=gI T
 have J:=AA.len
 have j:=uc (l:=l) J.1
 have H:=fun k (hk:k<d.aA.length)=>vx J.1 (l:=l) (fun x hx=>by have:=rR S x hx; omega) hk
 refine aU 7 U<|RK G<|al fun _ D=>WS fun _ E=>aU 1 U<|rS (SX (bJ (r:= .bool false) U U U fW) U U)<|RK E<|bw U<|WK D<|WS fun _ F=>rP 2 [] mn ?_
 refine cX (yW d kA kC pA pC nA nC M X Y P (gH d.aA.length l) hin sd sd sd sd) (pW [4,5,6]<|aK (aQ (n:=(dJ d).length) 1 U (zZ (by rw [nf]; exact W)))<|aK (jf 2 U u6)<|eM 0 U U<|av) U fun Z c=>?_
 obtain ⟨N,O⟩:=Z
 try dsimp only
 rw [show kg d (ir (gH d.aA.length l))=ed d l from by rw [oC he]; exact oT H]
 refine rP 2 [] mn ?_
 refine RK F<|an ?_
 refine LX hQ (N,O) [0] [] mn U U U ?_ ?_
 ·first|rfl|(rw [oo he]; rfl)|(rw [he]; rfl)
 ·trivial
end
section
open Go.RowKit
theorem gz (n lo hi:Int):
 cz Tryz.prog 85 [(vI n),(vI lo),(vI hi)] [] (vB (decide (lo≤n∧n≤hi))):=by
 refine bf kr Tryz.func85 U U fun D Q hQ hN=>?_
 try dsimp only
 refine WS fun _ B=>aU 1 U<|RK B<|WS fun _ A=>rP 4 [] mn ?_
 refine bx (t:=10) U (aM fun C=>?_) (aL fun C=>?_)
 ·refine rP 5 [] mn ?_
  refine RK A<|an<|Q1 hQ U U U ?_
  exact cB (eH.2 om)
 refine rP 5 [] mn ?_
 refine RK A<|an<|Q1 hQ U U U ?_
 exact cB (aD om).symm
theorem Ae (d:ah) (kA:OA) (kC:Nat) (pA:OA) (pC:Nat) (nA:OA) (nC:Nat) (hraw:gZ d):
 cz Tryz.prog 16 [(vA (aW.cells (aW.mk (ag.mk (aJ.mk kA d.ak.length kC)) (aJ.mk pA d.aA.length pC) (aJ.mk nA d.bk.length nC) d.bM d.bP)))] [(rd kA d.ak.length 9 (d.ak.map ab.cells)),(rd pA d.aA.length 7 (d.aA.map aj.cells)),(rd nA d.bk.length 3 (d.bk.map cH.cells))] (vB (decide (iP d))):=by
 have G:=hraw.jP
 have F:=hraw.sG
 have E:=hraw.rq
 refine bf kr Tryz.func16 U U fun AA Q hQ hN=>?_
 try dsimp only
 refine WS fun _ B=>ej U fun H=>aU 1 U<|RK B<|WS fun _ A=>aU 1 U<|rS (LP (ag.cells (ag.mk (aJ.mk kA d.ak.length kC))) 0 U bQ U U U)<|rS (CL (wy d.ak kA kC) (aX [1]) U)<|rP 1 [] mn ?_
 refine bx (t:=6) U (aM fun C=>?_) (aL fun C=>?_)
 ·refine rP 12 [] mn ?_
  refine RK A<|an<|Q1 hQ U U U ?_
  first|exact cB (bY (by unfold iP; omega)).symm|exact cB (eH.2 (by unfold iP; omega))
 refine rP 6 [] (mc 0 U mn) ?_
 refine bx (t:=12) U (aM fun D=>?_) (aL fun D=>?_)
 ·refine rP 6 [] mn ?_
  refine RK A<|an<|Q1 hQ U U U ?_
  first|exact cB (bY (by unfold iP; omega)).symm|exact cB (eH.2 (by unfold iP; omega))
 refine rP 6 [] (mc 0 U mn) ?_
 refine RK A<|an<|Q1 hQ U U U ?_
 first|exact cB (bY (by unfold iP; omega)).symm|exact cB (eH.2 (by unfold iP; omega))
theorem AU (d:ah) (kA:OA) (kC:Nat) (pA:OA) (pC:Nat) (nA:OA) (nC:Nat) (hin:fk d) (htr:a9 d.ak=true):
 cz Tryz.prog 46 [(vA (aW.cells (aW.mk (ag.mk (aJ.mk kA d.ak.length kC)) (aJ.mk pA d.aA.length pC) (aJ.mk nA d.bk.length nC) d.bM d.bP)))] [(rd kA d.ak.length 9 (d.ak.map ab.cells)),(rd pA d.aA.length 7 (d.aA.map aj.cells)),(rd nA d.bk.length 3 (d.bk.map cH.cells))] (vB (decide (gL d))):=by
 have Di:=hin.jP
 have C2:=hin.side
 have Eq:=hin.sG
 have ET:=hin.rq
 have Cp:=hin.nk
 have C0:=hin.pk
 have E2:=bT htr
 have DN:=cw htr
 refine bf kr Tryz.func46 U U fun w0 Q hQ hN=>?_
 try dsimp only
 refine WS fun _ A8=>ej U fun b2=>aU 1 U<|RK A8<|al fun _ A9=>WS fun _ L=>rP 5 [] (mc 0 U mn) ?_
 refine bx (t:=11) U (aM fun Ay=>?_) (aL fun Ay=>?_)
 ·refine aU 19 U<|RK L<|aC U<|WS fun _ Bf=>rP 1 [] mn ?_
  refine RK Bf<|an<|Q1 hQ U U U ?_
  first|exact cB (aD fun q=>by have A:=q.len; omega).symm|exact cB (aD fun q=>by exact absurd q.dm (by simpa using B)).symm|exact cB (aD fun q=>by have A:=q.eT; omega).symm|exact cB (aD fun q=>by have A:=q.post i p hp; unfold db at A; first|omega|exact absurd A.2.2.1 (by simpa using E)|(rw [da om hy] at A; omega)).symm|exact cB (aD fun q=>by have A:=q.g0 n (aG hn); unfold cb at A; omega).symm|exact cB (bY (cp om (by simpa using B) om D om (cE (P:=cb d.ak) om C))).symm
 refine rP 6 [] (mc 0 U mn) ?_
 refine bx (t:=17) U (aM fun A0=>?_) (aL fun A0=>?_)
 ·refine aU 13 U<|RK L<|aC U<|WS fun _ Bl=>rP 1 [] mn ?_
  refine RK Bl<|an<|Q1 hQ U U U ?_
  first|exact cB (aD fun q=>by have A:=q.len; omega).symm|exact cB (aD fun q=>by exact absurd q.dm (by simpa using B)).symm|exact cB (aD fun q=>by have A:=q.eT; omega).symm|exact cB (aD fun q=>by have A:=q.post i p hp; unfold db at A; first|omega|exact absurd A.2.2.1 (by simpa using E)|(rw [da om hy] at A; omega)).symm|exact cB (aD fun q=>by have A:=q.g0 n (aG hn); unfold cb at A; omega).symm|exact cB (bY (cp om (by simpa using B) om D om (cE (P:=cb d.ak) om C))).symm
 refine aU 1 U<|rS (LP (ag.cells (ag.mk (aJ.mk kA d.ak.length kC))) 0 U bQ U U U)<|rP 1 [] mn ?_
 refine rS (LP (ae.cells d.bM) 0 U bQ U U U) ?_
 refine rS (CL (ju d.ak kA kC d.bM sd sd) (aX [1]) U) ?_
 refine rP 3 [] mn ?_
 refine bx (t:=25) U (aP fun B=>?_) (aO fun B=>?_)
 ·refine aU 5 U<|RK L<|aC U<|WS fun _ Bs=>rP 1 [] mn ?_
  refine RK Bs<|an<|Q1 hQ U U U ?_
  first|exact cB (aD fun q=>by have A:=q.len; omega).symm|exact cB (aD fun q=>by exact absurd q.dm (by simpa using B)).symm|exact cB (aD fun q=>by have A:=q.eT; omega).symm|exact cB (aD fun q=>by have A:=q.post i p hp; unfold db at A; first|omega|exact absurd A.2.2.1 (by simpa using E)|(rw [da om hy] at A; omega)).symm|exact cB (aD fun q=>by have A:=q.g0 n (aG hn); unfold cb at A; omega).symm|exact cB (bY (cp om (by simpa using B) om D om (cE (P:=cb d.ak) om C))).symm
 refine dE 2 [] (mc 0 U mn) U<|rS (CL (gz d.bP 0 400000) (av) U)<|rP 2 [] mn ?_
 refine RK L<|cd U (aP fun A1=>?_) (aO fun A1=>?_)
 ·refine WS fun _ B9=>rP 1 [] mn ?_
  refine RK B9<|an<|Q1 hQ U U U ?_
  first|exact cB (aD fun q=>by have A:=q.len; omega).symm|exact cB (aD fun q=>by exact absurd q.dm (by simpa using B)).symm|exact cB (aD fun q=>by have A:=q.eT; omega).symm|exact cB (aD fun q=>by have A:=q.post i p hp; unfold db at A; first|omega|exact absurd A.2.2.1 (by simpa using E)|(rw [da om hy] at A; omega)).symm|exact cB (aD fun q=>by have A:=q.g0 n (aG hn); unfold cb at A; omega).symm|exact cB (bY (cp om (by simpa using B) om D om (cE (P:=cb d.ak) om C))).symm
 refine WK A9<|al fun _ Ci=>WS fun _ AA=>rP 1 [] mn ?_
 refine RK AA<|ar ?_
 have G:(0≤d.aA.length)∧(jt d 0):=by exact ⟨Nat.zero_le _,qI⟩
 refine br (ι:={z:Nat // (z≤d.aA.length)∧(jt d z)}) [1] [0,1,2,3] U U (fun z=>[(3,(vI (z.1:Int)))]) (fun z=>[]) (fun _=>rfl) (fun _=>rfl) (fun z=>d.aA.length-z.1) ⟨0,G⟩ (bg U) (aN [0,1,2,3]) ?_
 clear G
 rintro ⟨i,⟨Ck,D⟩⟩ J11 M
 try dsimp only
 refine al fun _ V=>WS fun _ W=>rP 5 [] (mc 0 U mn) ?_
 refine RK W<|bH U (aL fun A6=>?_) (aM fun A6=>?_)
 ·refine bo<|ai<|ai<|aw<|KK Ci<|al fun _ l=>WS fun _ o=>rP 1 [] mn ?_
  refine RK o<|ar ?_
  have G:(0≤d.bk.length)∧(∀ (j:Nat) y,j<0→d.bk[j]? =some y→cb d.ak y):=by exact ⟨Nat.zero_le _,fun j y hj=>absurd hj (Nat.not_lt_zero _)⟩
  refine br (ι:={z:Nat // (z≤d.bk.length)∧(∀ (j:Nat) y,j<z→d.bk[j]? =some y→cb d.ak y)}) [1] [0,1,2,3] U U (fun z=>[(5,(vI (z.1:Int)))]) (fun z=>[]) (fun _=>rfl) (fun _=>rfl) (fun z=>d.bk.length-z.1) ⟨0,G⟩ (bg U) (aN [0,1,2,3]) ?_
  clear G
  rintro ⟨m,⟨A5,C⟩⟩ J33 T
  try dsimp only
  refine al fun _ r=>WS fun _ s=>rP 5 [] (mc 0 U mn) ?_
  refine RK s<|bH U (aL fun A7=>?_) (aM fun A7=>?_)
  ·refine bo<|ai<|ai<|aw<|KK l<|WS fun _ AH=>rP 1 [] mn ?_
   refine RK AH<|an<|Q1 hQ U U U ?_
   first|exact cB (aD fun q=>by have A:=q.len; omega).symm|exact cB (aD fun q=>by exact absurd q.dm (by simpa using B)).symm|exact cB (aD fun q=>by have A:=q.eT; omega).symm|exact cB (aD fun q=>by have A:=q.post i p hp; unfold db at A; first|omega|exact absurd A.2.2.1 (by simpa using E)|(rw [da om hy] at A; omega)).symm|exact cB (aD fun q=>by have A:=q.g0 n (aG hn); unfold cb at A; omega).symm|exact cB (bY (cp om (by simpa using B) om D om (cE (P:=cb d.ak) om C))).symm
  refine WK r<|al fun _ u=>ar<|WS fun _ v=>rP 3 [] (mc 0 U mn) ?_
  obtain ⟨n,hn⟩:=bh d.bk m om
  have Cx:=bp cH.cells hn
  refine rS (IA m U (ay 3 U) DS dc om om)<|rS (jq m 0 (cH.cells n) U bQ (ay 3 U) Cx U dc U U)<|AL U Dw fun ER=>eC U DB U<|RK v<|WS fun _ H=>?_
  have Do:=Cp n (aG hn)
  refine dE 7 [0,1] (mc 0 U (mc 1 U mn)) U<|rS (CL (gz n.ax 0 ((d.ak.length:Int)-1)) (av) U)<|rP 2 [] mn ?_
  refine bx (t:=111) U (aP fun O=>?_) (aO fun O=>?_)
  ·refine aU 12 U<|RK H<|aC U<|WS fun _ w=>rP 1 [] mn ?_
   refine RK w<|an<|Q1 hQ U U U ?_
   first|exact cB (aD fun q=>by have A:=q.len; omega).symm|exact cB (aD fun q=>by exact absurd q.dm (by simpa using B)).symm|exact cB (aD fun q=>by have A:=q.eT; omega).symm|exact cB (aD fun q=>by have A:=q.post i p hp; unfold db at A; first|omega|exact absurd A.2.2.1 (by simpa using E)|(rw [da om hy] at A; omega)).symm|exact cB (aD fun q=>by have A:=q.g0 n (aG hn); unfold cb at A; omega).symm|exact cB (bY (cp om (by simpa using B) om D om (cE (P:=cb d.ak) om C))).symm
  refine dE 2 [] (mc 0 U mn) U<|rS (SX (fP (m:=n.Kind) U U vX oe (eo (by first|assumption|omega))) U U)<|rS (CL (gz n.Kind 1 3) (av) U)<|rP 3 [] mn ?_
  refine bx (t:=118) U (aP fun R=>?_) (aO fun R=>?_)
  ·refine aU 5 U<|RK H<|aC U<|WS fun _ x=>rP 1 [] mn ?_
   refine RK x<|an<|Q1 hQ U U U ?_
   first|exact cB (aD fun q=>by have A:=q.len; omega).symm|exact cB (aD fun q=>by exact absurd q.dm (by simpa using B)).symm|exact cB (aD fun q=>by have A:=q.eT; omega).symm|exact cB (aD fun q=>by have A:=q.post i p hp; unfold db at A; first|omega|exact absurd A.2.2.1 (by simpa using E)|(rw [da om hy] at A; omega)).symm|exact cB (aD fun q=>by have A:=q.g0 n (aG hn); unfold cb at A; omega).symm|exact cB (bY (cp om (by simpa using B) om D om (cE (P:=cb d.ak) om C))).symm
  refine dE 2 [] (mc 0 U mn) U<|rS (CL (gz n.g_ 0 36000) (av) U)<|rP 2 [] mn ?_
  refine RK H<|bH U (aO fun S=>?_) (aP fun S=>?_)
  ·refine bS<|aI<|KK u<|ao<|rP 3 [] mn ?_
   refine aB ?_
   have Ak:(vI (((m+1):Nat):Int))=(vI ((m:Int)+1)):=by exact cI om
   refine aY (T ⟨(m+1),⟨om,pj (P:=fun _ y=>cb d.ak y) C hn (by unfold cb; omega)⟩⟩ _ _ _ U os (cL.cons U<|aR U Ak<|cL.nil _) (aN [1,2,3,4]))
  refine WS fun _ AC=>rP 1 [] mn ?_
  refine RK AC<|an<|Q1 hQ U U U ?_
  first|exact cB (aD fun q=>by have A:=q.len; omega).symm|exact cB (aD fun q=>by exact absurd q.dm (by simpa using B)).symm|exact cB (aD fun q=>by have A:=q.eT; omega).symm|exact cB (aD fun q=>by have A:=q.post i p hp; unfold db at A; first|omega|exact absurd A.2.2.1 (by simpa using E)|(rw [da om hy] at A; omega)).symm|exact cB (aD fun q=>by have A:=q.g0 n (aG hn); unfold cb at A; omega).symm|exact cB (bY (cp om (by simpa using B) om D om (cE (P:=cb d.ak) om C))).symm
 refine WK V<|al fun _ N=>ar<|WS fun _ X=>rP 3 [] (mc 0 U mn) ?_
 obtain ⟨p,hp⟩:=bh d.aA i om
 have C1:=bp aj.cells hp
 refine rS (IA i U (ay 2 U) sH dc om om)<|rS (jq i 0 (aj.cells p) U bQ (ay 2 U) C1 U dc U U)<|AL U zH fun EQ=>eC U CN U<|RK X<|al fun _ F=>dF cx 47 kr ?_
 have EI:=C0 p (aG hp)
 refine jA 2 [] (mc 0 U mn) U<|dS (CL (gz p.Id 0 9999) (av) U)<|dP 2 [] mn ?_
 refine dY (t:=47) U (aP fun A2=>?_) (aO fun A2=>?_)
 ·refine fQ 42 U<|cj<|RK F<|aC U<|WS fun _ Y=>rP 1 [] mn ?_
  refine RK Y<|an<|Q1 hQ U U U ?_
  first|exact cB (aD fun q=>by have A:=q.len; omega).symm|exact cB (aD fun q=>by exact absurd q.dm (by simpa using B)).symm|exact cB (aD fun q=>by have A:=q.eT; omega).symm|exact cB (aD fun q=>by have A:=q.post i p hp; unfold db at A; first|omega|exact absurd A.2.2.1 (by simpa using E)|(rw [da om hy] at A; omega)).symm|exact cB (aD fun q=>by have A:=q.g0 n (aG hn); unfold cb at A; omega).symm|exact cB (bY (cp om (by simpa using B) om D om (cE (P:=cb d.ak) om C))).symm
 refine dP 3 [] mn ?_
 refine gj (t:=50) U (aL fun A3=>?_) (aM fun A3=>?_)
 ·refine jA 15 [] (mc 0 U mn) U<|dS (SX (fP (m:=p.Kind) U U vX oe (eo (by first|assumption|omega))) U U)<|dS (CL (gz p.Kind 1 3) (av) U)<|dP 3 [] mn ?_
  refine dY (t:=70) U (aP fun AB=>?_) (aO fun AB=>?_)
  ·refine fQ 19 U<|cj<|RK F<|aC U<|WS fun _ f=>rP 1 [] mn ?_
   refine RK f<|an<|Q1 hQ U U U ?_
   first|exact cB (aD fun q=>by have A:=q.len; omega).symm|exact cB (aD fun q=>by exact absurd q.dm (by simpa using B)).symm|exact cB (aD fun q=>by have A:=q.eT; omega).symm|exact cB (aD fun q=>by have A:=q.post i p hp; unfold db at A; first|omega|exact absurd A.2.2.1 (by simpa using E)|(rw [da om hy] at A; omega)).symm|exact cB (aD fun q=>by have A:=q.g0 n (aG hn); unfold cb at A; omega).symm|exact cB (bY (cp om (by simpa using B) om D om (cE (P:=cb d.ak) om C))).symm
  refine fQ 1 U<|dS (LP (ag.cells (ag.mk (aJ.mk kA d.ak.length kC))) 1 U bQ U U U)<|dP 1 [] mn ?_
  refine dS (LP (ae.cells p.de) 0 U bQ U U U) ?_
  refine dS (CL (ju d.ak kA kC p.de sd sd) (aX [2]) U) ?_
  refine dP 3 [] mn ?_
  refine dY (t:=78) U (aP fun E=>?_) (aO fun E=>?_)
  ·refine fQ 11 U<|cj<|RK F<|aC U<|WS fun _ g=>rP 1 [] mn ?_
   refine RK g<|an<|Q1 hQ U U U ?_
   first|exact cB (aD fun q=>by have A:=q.len; omega).symm|exact cB (aD fun q=>by exact absurd q.dm (by simpa using B)).symm|exact cB (aD fun q=>by have A:=q.eT; omega).symm|exact cB (aD fun q=>by have A:=q.post i p hp; unfold db at A; first|omega|exact absurd A.2.2.1 (by simpa using E)|(rw [da om hy] at A; omega)).symm|exact cB (aD fun q=>by have A:=q.g0 n (aG hn); unfold cb at A; omega).symm|exact cB (bY (cp om (by simpa using B) om D om (cE (P:=cb d.ak) om C))).symm
  refine jA 2 [] (mc 0 U mn) U<|dS (CL (gz p.j7 0 36000) (av) U)<|dP 3 [] mn ?_
  refine dY (t:=84) U (aP fun J=>?_) (aO fun J=>?_)
  ·refine fQ 5 U<|cj<|RK F<|aC U<|WS fun _ h=>rP 1 [] mn ?_
   refine RK h<|an<|Q1 hQ U U U ?_
   first|exact cB (aD fun q=>by have A:=q.len; omega).symm|exact cB (aD fun q=>by exact absurd q.dm (by simpa using B)).symm|exact cB (aD fun q=>by have A:=q.eT; omega).symm|exact cB (aD fun q=>by have A:=q.post i p hp; unfold db at A; first|omega|exact absurd A.2.2.1 (by simpa using E)|(rw [da om hy] at A; omega)).symm|exact cB (aD fun q=>by have A:=q.g0 n (aG hn); unfold cb at A; omega).symm|exact cB (bY (cp om (by simpa using B) om D om (cE (P:=cb d.ak) om C))).symm
  refine jA 2 [] (mc 0 U mn) U<|dS (CL (gz p.nd 1 1000) (av) U)<|dP 2 [] mn ?_
  refine cj<|RK F<|bH U (aO fun K=>?_) (aP fun K=>?_)
  ·refine bS<|aI<|KK N<|ao<|rP 3 [] mn ?_
   refine aB ?_
   have AR:(vI (((i+1):Nat):Int))=(vI ((i:Int)+1)):=by exact cI om
   refine aY (M ⟨(i+1),⟨om,nj D hp (by unfold db; exact ⟨(by first|(rw [jd om]; omega)|(rw [da om hy]; omega)),om,by simpa using E,om,om⟩)⟩⟩ _ _ _ U os (cL.cons U<|aR U AR<|cL.nil _) (aN [1,2,3,4]))
  refine WS fun _ k=>rP 1 [] mn ?_
  refine RK k<|an<|Q1 hQ U U U ?_
  first|exact cB (aD fun q=>by have A:=q.len; omega).symm|exact cB (aD fun q=>by exact absurd q.dm (by simpa using B)).symm|exact cB (aD fun q=>by have A:=q.eT; omega).symm|exact cB (aD fun q=>by have A:=q.post i p hp; unfold db at A; first|omega|exact absurd A.2.2.1 (by simpa using E)|(rw [da om hy] at A; omega)).symm|exact cB (aD fun q=>by have A:=q.g0 n (aG hn); unfold cb at A; omega).symm|exact cB (bY (cp om (by simpa using B) om D om (cE (P:=cb d.ak) om C))).symm
 refine dP 6 [0,1] (mc 0 U (mc 1 U mn)) ?_
 obtain ⟨y,hy⟩:=bh d.aA (i-1) om
 have DA:=bp aj.cells hy
 refine dS (IA (i-1) U (ay 3 U) sH dc om om)<|dS (lp ((i-1)*7) U (ay 3 U) (Nat.mul_pos om dc) fh U)<|dS (fT (i-1) 0 (vI y.Id) U bQ (ay 3 U) DA U dc U)<|dP 4 [] mn ?_
 refine dY (t:=63) U (aM fun A4=>?_) (aL fun A4=>?_)
 ·refine fQ 26 U<|cj<|RK F<|aC U<|WS fun _ Z=>rP 1 [] mn ?_
  refine RK Z<|an<|Q1 hQ U U U ?_
  first|exact cB (aD fun q=>by have A:=q.len; omega).symm|exact cB (aD fun q=>by exact absurd q.dm (by simpa using B)).symm|exact cB (aD fun q=>by have A:=q.eT; omega).symm|exact cB (aD fun q=>by have A:=q.post i p hp; unfold db at A; first|omega|exact absurd A.2.2.1 (by simpa using E)|(rw [da om hy] at A; omega)).symm|exact cB (aD fun q=>by have A:=q.g0 n (aG hn); unfold cb at A; omega).symm|exact cB (bY (cp om (by simpa using B) om D om (cE (P:=cb d.ak) om C))).symm
 refine jA 2 [] (mc 0 U mn) U<|dS (SX (fP (m:=p.Kind) U U vX oe (eo (by first|assumption|omega))) U U)<|dS (CL (gz p.Kind 1 3) (av) U)<|dP 3 [] mn ?_
 refine dY (t:=70) U (aP fun AB=>?_) (aO fun AB=>?_)
 ·refine fQ 19 U<|cj<|RK F<|aC U<|WS fun _ a=>rP 1 [] mn ?_
  refine RK a<|an<|Q1 hQ U U U ?_
  first|exact cB (aD fun q=>by have A:=q.len; omega).symm|exact cB (aD fun q=>by exact absurd q.dm (by simpa using B)).symm|exact cB (aD fun q=>by have A:=q.eT; omega).symm|exact cB (aD fun q=>by have A:=q.post i p hp; unfold db at A; first|omega|exact absurd A.2.2.1 (by simpa using E)|(rw [da om hy] at A; omega)).symm|exact cB (aD fun q=>by have A:=q.g0 n (aG hn); unfold cb at A; omega).symm|exact cB (bY (cp om (by simpa using B) om D om (cE (P:=cb d.ak) om C))).symm
 refine fQ 1 U<|dS (LP (ag.cells (ag.mk (aJ.mk kA d.ak.length kC))) 1 U bQ U U U)<|dP 1 [] mn ?_
 refine dS (LP (ae.cells p.de) 0 U bQ U U U) ?_
 refine dS (CL (ju d.ak kA kC p.de sd sd) (aX [2]) U) ?_
 refine dP 3 [] mn ?_
 refine dY (t:=78) U (aP fun E=>?_) (aO fun E=>?_)
 ·refine fQ 11 U<|cj<|RK F<|aC U<|WS fun _ b=>rP 1 [] mn ?_
  refine RK b<|an<|Q1 hQ U U U ?_
  first|exact cB (aD fun q=>by have A:=q.len; omega).symm|exact cB (aD fun q=>by exact absurd q.dm (by simpa using B)).symm|exact cB (aD fun q=>by have A:=q.eT; omega).symm|exact cB (aD fun q=>by have A:=q.post i p hp; unfold db at A; first|omega|exact absurd A.2.2.1 (by simpa using E)|(rw [da om hy] at A; omega)).symm|exact cB (aD fun q=>by have A:=q.g0 n (aG hn); unfold cb at A; omega).symm|exact cB (bY (cp om (by simpa using B) om D om (cE (P:=cb d.ak) om C))).symm
 refine jA 2 [] (mc 0 U mn) U<|dS (CL (gz p.j7 0 36000) (av) U)<|dP 3 [] mn ?_
 refine dY (t:=84) U (aP fun J=>?_) (aO fun J=>?_)
 ·refine fQ 5 U<|cj<|RK F<|aC U<|WS fun _ c=>rP 1 [] mn ?_
  refine RK c<|an<|Q1 hQ U U U ?_
  first|exact cB (aD fun q=>by have A:=q.len; omega).symm|exact cB (aD fun q=>by exact absurd q.dm (by simpa using B)).symm|exact cB (aD fun q=>by have A:=q.eT; omega).symm|exact cB (aD fun q=>by have A:=q.post i p hp; unfold db at A; first|omega|exact absurd A.2.2.1 (by simpa using E)|(rw [da om hy] at A; omega)).symm|exact cB (aD fun q=>by have A:=q.g0 n (aG hn); unfold cb at A; omega).symm|exact cB (bY (cp om (by simpa using B) om D om (cE (P:=cb d.ak) om C))).symm
 refine jA 2 [] (mc 0 U mn) U<|dS (CL (gz p.nd 1 1000) (av) U)<|dP 2 [] mn ?_
 refine cj<|RK F<|bH U (aO fun K=>?_) (aP fun K=>?_)
 ·refine bS<|aI<|KK N<|ao<|rP 3 [] mn ?_
  refine aB ?_
  have AO:(vI (((i+1):Nat):Int))=(vI ((i:Int)+1)):=by exact cI om
  refine aY (M ⟨(i+1),⟨om,nj D hp (by unfold db; exact ⟨(by first|(rw [jd om]; omega)|(rw [da om hy]; omega)),om,by simpa using E,om,om⟩)⟩⟩ _ _ _ U os (cL.cons U<|aR U AO<|cL.nil _) (aN [1,2,3,4]))
 refine WS fun _ e=>rP 1 [] mn ?_
 refine RK e<|an<|Q1 hQ U U U ?_
 first|exact cB (aD fun q=>by have A:=q.len; omega).symm|exact cB (aD fun q=>by exact absurd q.dm (by simpa using B)).symm|exact cB (aD fun q=>by have A:=q.eT; omega).symm|exact cB (aD fun q=>by have A:=q.post i p hp; unfold db at A; first|omega|exact absurd A.2.2.1 (by simpa using E)|(rw [da om hy] at A; omega)).symm|exact cB (aD fun q=>by have A:=q.g0 n (aG hn); unfold cb at A; omega).symm|exact cB (bY (cp om (by simpa using B) om D om (cE (P:=cb d.ak) om C))).symm
theorem xQ (d:ah) (kA:OA) (kC:Nat) (pA:OA) (pC:Nat) (nA:OA) (nC:Nat) (hin:fk d):
 cz Tryz.prog 17 [(vA (aW.cells (aW.mk (ag.mk (aJ.mk kA d.ak.length kC)) (aJ.mk pA d.aA.length pC) (aJ.mk nA d.bk.length nC) d.bM d.bP)))] [(rd kA d.ak.length 9 (d.ak.map ab.cells)),(rd pA d.aA.length 7 (d.aA.map aj.cells)),(rd nA d.bk.length 3 (d.bk.map cH.cells))] (vI (du d)):=by
 have L:=hin.jP
 have K:=hin.side
 have P:=hin.sG
 have N:=hin.rq
 have M:=hin.nk
 have O:=hin.pk
 refine bf kr Tryz.func17 U U fun S Q hQ hN=>?_
 try dsimp only
 refine WS fun _ C=>ej U fun R=>aU 1 U<|RK C<|al fun _ D=>WS fun _ E=>rP 1 [] mn ?_
 refine rS (LP (ag.cells (ag.mk (aJ.mk kA d.ak.length kC))) 0 U bQ U U U) ?_
 refine rS (CL (my d.ak kA kC sd) (aX [1]) U) ?_
 refine rP 1 [] mn ?_
 refine RK E<|cd U (fun A=>?_) (fun A=>?_)
 ·rw [Bool.not_eq_true'] at A
  refine WS fun _ F=>rP 1 [] mn ?_
  refine RK F<|an<|Q1 hQ U U U ?_
  first|exact cI (ec (by simpa using A)).symm|exact cI (a6 A B).symm|exact cI (ef A B).symm
 rw [Bool.not_eq_false'] at A
 refine WK D<|al fun _ G=>WS fun _ H=>rP 1 [] (mc 0 U mn) ?_
 refine rS (CL (AU d kA kC pA pC nA nC hin sd) (x_ 1 2 3 U U U U U U) U) ?_
 refine rP 1 [] mn ?_
 refine RK H<|cd U (aP fun B=>?_) (aO fun B=>?_)
 ·refine WS fun _ AA=>rP 1 [] mn ?_
  refine RK AA<|an<|Q1 hQ U U U ?_
  first|exact cI (ec (by simpa using A)).symm|exact cI (a6 A B).symm|exact cI (ef A B).symm
 refine WK G<|WS fun _ J=>rP 1 [] mn ?_
 refine RK J<|an<|Q1 hQ U U U ?_
 first|exact cI (ec (by simpa using A)).symm|exact cI (a6 A B).symm|exact cI (ef A B).symm
end
section
open Go.RowKit
theorem rQ (s:bL) (best:Bool) (tsA:OA) (tsN tsC:Nat) (z:I) (f:Bool):
 cz Tryz.prog 69 [(vA (dI.cells (dI.mk s (ag.mk (aJ.mk tsA tsN tsC)) best))),(vA (I.cells z)),(vB f)] [] (vI (eO best f z)):=by
 refine bf kr Tryz.func69 U U fun AA Q hQ hN=>?_
 try dsimp only
 refine WS fun _ A=>ej U fun G=>ej U fun H=>aU 1 U<|RK A<|al fun _ B=>WS fun _ C=>rP 3 [] (mc 1 U mn) ?_
 refine rS (BI U (EN IT))<|RK C<|cd U (fun D=>?_) (fun D=>?_)
 ·replace D:best=f:=by simpa using D
  refine WS fun _ E=>rP 3 [] (mc 0 U mn) ?_
  refine RK E<|an<|Q1 hQ U U U ?_
  clear hQ hN E C B A
  exact cI (by unfold eO; cases hb:best<;>cases f<;>simp_all)
 replace D: ¬ best=f:=by simpa using D
 refine WK B<|WS fun _ F=>rP 3 [] (mc 0 U mn) ?_
 refine RK F<|an<|Q1 hQ U U U ?_
 clear hQ hN F C B A
 exact cI (by unfold eO; cases hb:best<;>cases f<;>simp_all)
theorem rK (n lo hi:Int):
 cz Tryz.prog 26 [(vI n),(vI lo),(vI hi)] [] (vB (decide (lo≤n∧n≤hi))):=by
 refine bf kr Tryz.func26 U U fun D Q hQ hN=>?_
 try dsimp only
 refine WS fun _ B=>aU 1 U<|RK B<|WS fun _ A=>rP 4 [] mn ?_
 refine bx (t:=10) U (aM fun C=>?_) (aL fun C=>?_)
 ·refine rP 5 [] mn ?_
  refine RK A<|an<|Q1 hQ U U U ?_
  exact cB (eH.2 om)
 refine rP 5 [] mn ?_
 refine RK A<|an<|Q1 hQ U U U ?_
 exact cB (aD om).symm
theorem nK (s:I) (lo hi:Int):
 cz Tryz.prog 27 [(vA (I.cells s)),(vI lo),(vI hi)] [] (vB (decide (s.Lo≤s.Hi∧lo≤s.Lo∧s.Hi≤hi))):=by
 refine bf kr Tryz.func27 U U fun E Q hQ hN=>?_
 try dsimp only
 refine WS fun _ B=>ej U fun D=>aU 1 U<|RK B<|WS fun _ A=>dE 5 [] (mc 0 U mn) U<|rS (CL (rK s.Lo lo s.Hi) (av) U)<|rP 1 [] mn ?_
 refine dq (t:=13) U (aL fun C=>?_) (aM fun C=>?_)
 ·refine rP 6 [] mn ?_
  refine RK A<|an<|Q1 hQ U U U ?_
  exact cB (aD om).symm
 refine rP 6 [] (mc 0 U mn) ?_
 refine RK A<|an<|Q1 hQ U U U ?_
 exact cB (eH.2 om)
end
end Go.Proofs.YtkidpbhlgnalaaaGreat
